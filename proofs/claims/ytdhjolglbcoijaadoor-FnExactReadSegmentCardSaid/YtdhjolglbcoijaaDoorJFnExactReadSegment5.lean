/- Contracts of functions of the program and of the reference, and plain lemmas on what they compute: a part of the proof of the law FnExactReadSegment. No condition. -/
import Derived.Test.YtdhjolglbcoijaaDoorG88178x0
import Derived.Test.YtdhjolglbcoijaaDoorJFnExactReadSegment1
import Derived.Test.YtdhjolglbcoijaaDoorJFnExactReadSegment4
import Derived.Test.YtdhjolglbcoijaaDoorG88178x4
import Derived.Test.YtdhjolglbcoijaaDoorV0
import Derived.ChangeArms
import Derived.ChangeOld
import Derived.WideShapes
import Derived.OpenShut
import Derived.DataElems
import Derived.Test.YtdhjolglbcoijaaDoorG88178x2
import Derived.Test.YtdhjolglbcoijaaDoorRows
import Derived.WalkKit
import Derived.ProofKit
import Derived.ShutString
import Derived.Below
import Derived.SizedLaws
import Derived.Carry
import Derived.LaidLaws
import Derived.LaidMore
import Derived.MakeChecks
import Derived.Stop.Joined
import Derived.ChangeVars
import Derived.Lib.LaidTab
import Derived.Test.YtdhjolglbcoijaaDoorCards
import Derived.Test.YtdhjolglbcoijaaDoorTie
import Derived.SevenTiedAt
import Derived.Test.YtdhjolglbcoijaaDoorShortV
namespace Go.Proofs.YtdhjolglbcoijaaDoor.PA
open Go.RowKit Go.Proofs.YtdhjolglbcoijaaDoor.Short Go.Proofs.YtdhjolglbcoijaaDoorW.PrintWords Go.Proofs.YtdhjolglbcoijaaDoorW.PrintLast Go.Proofs.YtdhjolglbcoijaaDoorW.PrintMore
attribute [local go_sem] max2_int min2_int max_two min_two max_three min_three max_four min_four   -- for this text's walks alone
set_option linter.unusedVariables false
set_option linter.unusedSimpArgs false

/-! ### laws_FnExactReadSegment: function 9 -/
mutual
def laws_FnExactReadSegment.j0 : Nat → ByteArray → Bool → Bool → Int → ByteArray → List (S70) → ByteArray → Int → ByteArray → List (S70) → ByteArray → Option (Bool)
 | 0, _, _, _, _, _, _, _, _, _, _, _ => none
 | k + 1, x0, x4, x32, x423000, x423001, x423002, x423003, x431000, x431001, x431002, x431003 => if x32 = true then (some false) else ((laws_markSegment.f k x431000 x431001 x431002 x431003 1).bind fun bt432 => ((laws_heldSegment.f k x431000 x431001 bt432.2 x431003 1).bind fun t434 => (if t434 < 0 then (some false) else (if t434 = bt432.1 then ((impl_ReadSegment.f k x0).bind fun bt435 => ((laws_eqSegment.f k bt435.1 bt435.2.1 bt435.2.2.1 bt435.2.2.2.1 x423000 x423001 x423002 x423003).bind fun t443 => (if t443 = true then (laws_FnExactReadSegment.j1 k bt432.1 (bt435.2.2.2.2 != x4) x431000 x431001 bt432.2 x431003) else (laws_FnExactReadSegment.j1 k bt432.1 true x431000 x431001 bt432.2 x431003)))) else (some false)))))
def laws_FnExactReadSegment.j1 : Nat → Int → Bool → Int → ByteArray → List (S70) → ByteArray → Option (Bool)
 | 0, _, _, _, _, _, _ => none
 | k + 1, x7, x57, x431000, x431001, x431002, x431003 => if x57 = true then (some false) else ((laws_heldSegment.f k x431000 x431001 x431002 x431003 1).bind fun t444 => (if t444 < 0 then (some false) else (if t444 = x7 then (some true) else (some false))))
end
def laws_FnExactReadSegment.f (k : Nat) (a0 : ByteArray) : Option (Bool) := if (a0.size : Int) > 1048576 then (some true) else ((spec_ReadSegment.f k a0).bind fun bt415 => ((impl_ReadSegment.f k a0).bind fun bt423 => ((laws_eqSegment.f k bt423.1 bt423.2.1 bt423.2.2.1 bt423.2.2.2.1 bt415.1 bt415.2.1 bt415.2.2.1 bt415.2.2.2.1).bind fun t431 => (if t431 = true then (laws_FnExactReadSegment.j0 k a0 bt415.2.2.2.2 (bt423.2.2.2.2 != bt415.2.2.2.2) bt415.1 bt415.2.1 bt415.2.2.1 bt415.2.2.2.1 bt423.1 bt423.2.1 bt423.2.2.1 bt423.2.2.2.1) else (laws_FnExactReadSegment.j0 k a0 bt415.2.2.2.2 true bt415.1 bt415.2.1 bt415.2.2.1 bt415.2.2.2.1 bt423.1 bt423.2.1 bt423.2.2.1 bt423.2.2.2.1)))))
theorem laws_FnExactReadSegment.mono_l : ∀ k, (∀ y0 y1 y2 y3 y4 y5 y6 y7 y8 y9 y10, LeO (laws_FnExactReadSegment.j0 k y0 y1 y2 y3 y4 y5 y6 y7 y8 y9 y10) (laws_FnExactReadSegment.j0 (k + 1) y0 y1 y2 y3 y4 y5 y6 y7 y8 y9 y10)) ∧ (∀ y0 y1 y2 y3 y4 y5, LeO (laws_FnExactReadSegment.j1 k y0 y1 y2 y3 y4 y5) (laws_FnExactReadSegment.j1 (k + 1) y0 y1 y2 y3 y4 y5))
 | 0 => ⟨fun _ _ _ _ _ _ _ _ _ _ _ r h => by simp [laws_FnExactReadSegment.j0] at h, fun _ _ _ _ _ _ r h => by simp [laws_FnExactReadSegment.j1] at h⟩
 | k + 1 => by
  obtain ⟨ih0, ih1⟩ := laws_FnExactReadSegment.mono_l k
  refine ⟨?_, ?_⟩
  ·intro y0 y1 y2 y3 y4 y5 y6 y7 y8 y9 y10
   unfold laws_FnExactReadSegment.j0
   have m0 := @impl_ReadSegment.mono
   have m1 := @laws_eqSegment.mono
   have m2 := @laws_heldSegment.mono
   have m3 := @laws_markSegment.mono
   have m4 := @spec_ReadSegment.mono
   exact mo_
  ·intro y0 y1 y2 y3 y4 y5
   unfold laws_FnExactReadSegment.j1
   have m0 := @impl_ReadSegment.mono
   have m1 := @laws_eqSegment.mono
   have m2 := @laws_heldSegment.mono
   have m3 := @laws_markSegment.mono
   have m4 := @spec_ReadSegment.mono
   exact mo_
theorem laws_FnExactReadSegment.mono : ∀ a0 k, LeO (laws_FnExactReadSegment.f k a0) (laws_FnExactReadSegment.f (k + 1) a0) := by
 intro a0 k
 obtain ⟨ih0, ih1⟩ := laws_FnExactReadSegment.mono_l k
 unfold laws_FnExactReadSegment.f
 have m0 := @impl_ReadSegment.mono
 have m1 := @laws_eqSegment.mono
 have m2 := @laws_heldSegment.mono
 have m3 := @laws_markSegment.mono
 have m4 := @spec_ReadSegment.mono
 exact mo_
set_option maxHeartbeats 8000000 in
set_option maxRecDepth 100000 in
theorem laws_FnExactReadSegment.calls (k : Nat) (a0 : ByteArray) (r : Bool) (w : World) (hT : Tab w) (hr1 : r = true) (h : laws_FnExactReadSegment.f k a0 = some r) :
 Calls Tryd.prog 9 #[.string a0] w fun e w' => e = .returned (.bool r) ∧ Below w.heap.size w w' := by
 have hu30 := Tryd.underlying30
 have HT := Aside0.mk hT
 clear hT
 have HR1 := Aside0.mk hr1
 clear hr1
 have HB := Aside0.mk (Below.refl w.heap.size w)
 have H : (if (a0.size : Int) > 1048576 then (some true) else ((spec_ReadSegment.f k a0).bind fun bt415 => ((impl_ReadSegment.f k a0).bind fun bt423 => ((laws_eqSegment.f k bt423.1 bt423.2.1 bt423.2.2.1 bt423.2.2.2.1 bt415.1 bt415.2.1 bt415.2.2.1 bt415.2.2.2.1).bind fun t431 => (if t431 = true then (laws_FnExactReadSegment.j0 k a0 bt415.2.2.2.2 (bt423.2.2.2.2 != bt415.2.2.2.2) bt415.1 bt415.2.1 bt415.2.2.1 bt415.2.2.2.1 bt423.1 bt423.2.1 bt423.2.2.1 bt423.2.2.2.1) else (laws_FnExactReadSegment.j0 k a0 bt415.2.2.2.2 true bt415.1 bt415.2.1 bt415.2.2.1 bt415.2.2.2.1 bt423.1 bt423.2.1 bt423.2.2.1 bt423.2.2.2.1)))))) = some r := h
 clear h
 by_cases c2 : (a0.size : Int) > 1048576
 ·rw [if_pos c2] at H
  have c2b0 := decide_eq_true c2
  have c2b1 : decide (1048576 < a0.size) = true := decide_eq_true (by omega)
  clear c2
  obtain rfl := Option.some.inj H
  go_enter Tryd.func9, Tryd.ntmps9
  go_wp2
  go_ret
  exact ⟨er_, bl_⟩
 rw [if_neg c2] at H
 have c2b0 := decide_eq_false c2
 have c2b1 : decide (1048576 < a0.size) = false := decide_eq_false (by omega)
 clear c2
 replace H := bs_ H
 obtain ⟨⟨t415, t416, t417, t420, t421⟩, A3, H⟩ := H
 try dsimp only at H
 replace H := bs_ H
 obtain ⟨⟨t423, t424, t425, t428, t429⟩, A4, H⟩ := H
 try dsimp only at H
 have HC5 := Aside0.mk H
 clear H
 go_enter Tryd.func9, Tryd.ntmps9
 go_upto_region 5 with (first | ((with_reducible refine gate_callee (f := 43) rfl ?_); refine gs_ (some 16) Tryd.func43 #[.string a0] ?_; (with_reducible refine (spec_ReadSegment.calls k a0 t415 t416 t417 t420 t421 _ A3.out).mono ?_); rintro e w6 ⟨v418, rfl, ho0, hb⟩; refine ⟨_, rfl, ?_⟩; have HO419 := Aside0.mk (Kd.R_lower ho0 (below_size bl_)); replace HB := Aside0.mk (below_step bl_ hb); (try clear hb); (try clear ho0)) | ((with_reducible refine gate_dst (N := 3) rfl ?_); refine bx_ 3 30 #[.int .i64 0, .string (⟨#[]⟩ : ByteArray), .slice none 0 0, .string (⟨#[]⟩ : ByteArray)] ?_; intro gb422 hg w7 hbox hb; replace HO419 := Aside0.mk (Kd.R_below (ra_ HO419.out) hb); have BK422 := Aside0.mk (hbox); have GW422 := Aside0.mk ((hz_ : w.heap.size ≤ gb422)); have GE422 := Aside0.mk ((hz_ : w.heap.size ≤ gb422)); replace HB := Aside0.mk (below_step bl_ hb); clear hb hbox hg; obtain ⟨hcz8_0, hcz8_1, hcz8_2, hcz8_3, hfz8_0, hfz8_1, hfz8_2, hfz8_3⟩ := cf4_ BK422.out; obtain ⟨Ao9, co9, eo9⟩ := Kd.R_slice HO419.out; subst eo9) | ((with_reducible refine gate_callee (f := 44) rfl ?_); refine gs_ (some 21) Tryd.func44 #[.string a0] ?_; (with_reducible refine (impl_ReadSegment.calls k a0 t423 t424 t425 t428 t429 _ ?side1 A4.out).mono ?_); (case side1 => exact tab_of HT.out bl_); rintro e w10 ⟨v426, rfl, ho0, hb⟩; refine ⟨_, rfl, ?_⟩; have HO427 := Aside0.mk (Kd.R_lower (Kd.R_new' ho0 (Kd.R_lt (by (with_reducible repeat (first | apply Kd.R_alloc | apply Kd.R_drewN | apply Kd.R_drew)); exact (Kd.R_mono (Kd.R_far (p := ⟨gb422, 3, none⟩) (Kd.R_far (p := ⟨gb422, 2, none⟩) (Kd.R_far (p := ⟨gb422, 1, none⟩) (Kd.R_far (p := ⟨gb422, 0, none⟩) (Kd.R_types HO419.out BK422.out (by decide)) (fun _ hk => hk.2) (.int .i64 t415)) (fun _ hk => hk.2) (.string t416)) (fun _ hk => hk.2) (.slice Ao9 t417.length co9)) (fun _ hk => hk.2) (.string t420)) (fun _ h_ => h_.1))))) (below_size bl_)); replace HO419 := Aside0.mk (Kd.R_elder' (by (with_reducible repeat (first | apply Kd.R_alloc | apply Kd.R_drewN | apply Kd.R_drew)); exact (Kd.R_mono (Kd.R_far (p := ⟨gb422, 3, none⟩) (Kd.R_far (p := ⟨gb422, 2, none⟩) (Kd.R_far (p := ⟨gb422, 1, none⟩) (Kd.R_far (p := ⟨gb422, 0, none⟩) (Kd.R_types HO419.out BK422.out (by decide)) (fun _ hk => hk.2) (.int .i64 t415)) (fun _ hk => hk.2) (.string t416)) (fun _ hk => hk.2) (.slice Ao9 t417.length co9)) (fun _ hk => hk.2) (.string t420)) (fun _ h_ => h_.1))) (Kd.R_base ho0) hb); replace BK422 := Aside0.mk (blk_below (g := gb422) (o := .cells #[.int .i64 t415, .string t416, .slice Ao9 t417.length co9, .string t420] 30 (0, 0)) (bp0_ BK422.out) hb); replace HB := Aside0.mk (below_step bl_ hb); (try clear hb); (try clear ho0)) | ((with_reducible refine gate_dst (N := 5) rfl ?_); refine bx_ 5 30 #[.int .i64 0, .string (⟨#[]⟩ : ByteArray), .slice none 0 0, .string (⟨#[]⟩ : ByteArray)] ?_; intro gb430 hg w11 hbox hb; replace HO419 := Aside0.mk (Kd.R_below (ra_ HO419.out) hb); replace HO427 := Aside0.mk (Kd.R_below (ra_ HO427.out) hb); have BK430 := Aside0.mk (hbox); have GW430 := Aside0.mk ((hz_ : w.heap.size ≤ gb430)); have GE430 := Aside0.mk ((hz_ : w.heap.size ≤ gb430)); replace HB := Aside0.mk (below_step bl_ hb); have NB422_430 := Aside0.mk ((by rw [hg]; exact Nat.ne_of_lt (blk_lt (g := gb422) (o := .cells #[.int .i64 t415, .string t416, .slice Ao9 t417.length co9, .string t420] 30 (0, 0)) (bk_ BK422.out)) : gb422 ≠ gb430)); have NB430_422 := Aside0.mk ((by rw [hg]; exact Nat.ne_of_gt (blk_lt (g := gb422) (o := .cells #[.int .i64 t415, .string t416, .slice Ao9 t417.length co9, .string t420] 30 (0, 0)) (bk_ BK422.out)) : gb430 ≠ gb422)); replace BK422 := Aside0.mk (blk_below (bn0_ BK422.out) hb); clear hb hbox hg; have hnb12 := NB430_422.out; have hnc12 := NB422_430.out; obtain ⟨hcz13_0, hcz13_1, hcz13_2, hcz13_3, hfz13_0, hfz13_1, hfz13_2, hfz13_3⟩ := cf4_ BK430.out; obtain ⟨Ao14, co14, eo14⟩ := Kd.R_slice HO427.out; subst eo14))
 (try simp only [Act.put, List.setIfInBounds_toArray, List.set_cons_zero, List.set_cons_succ])
 go_cut [32] (fun v32 wc => ∃ (kq : Nat) (x32_4 : Bool), v32 = .bool x32_4 ∧ Aside0 (laws_FnExactReadSegment.j0 kq a0 t421 x32_4 t415 t416 t417 t420 t423 t424 t425 t428 = some r) ∧ Aside0 (kq ≤ k) ∧ Aside0 (Kd.R k70 70 wc w.heap.size (fun k_ => some k_ ≠ ((.slice Ao14 t425.length co14) : Value).ownBlock) (.slice Ao9 t417.length co9) t417) ∧ Aside0 (Kd.R k70 70 wc w.heap.size (fun k_ => some k_ ≠ ((.slice Ao9 t417.length co9) : Value).ownBlock) (.slice Ao14 t425.length co14) t425) ∧ Aside0 (wc.heap[gb422]? = some (.cells #[.int .i64 t415, .string t416, (.slice Ao9 t417.length co9), .string t420] 30 (0, 0))) ∧ Aside0 (wc.heap[gb430]? = some (.cells #[.int .i64 t423, .string t424, (.slice Ao14 t425.length co14), .string t428] 30 (0, 0))) ∧ Aside0 (Below w.heap.size w wc))
 case first =>
  have H := HC5.out
  clear HC5
  replace H := bs_ H
  obtain ⟨t431, A15, H⟩ := H
  try dsimp only at H
  by_cases c16 : t431 = true
  ·subst c16
   rw [if_pos rfl] at H
   have H' := Aside0.mk H
   clear H
   have hnb17 := NB430_422.out
   have hnc17 := NB422_430.out
   obtain ⟨hcz18_0, hcz18_1, hcz18_2, hcz18_3, hfz18_0, hfz18_1, hfz18_2, hfz18_3⟩ := cf4_ BK430.out
   obtain ⟨hcz19_0, hcz19_1, hcz19_2, hcz19_3, hfz19_0, hfz19_1, hfz19_2, hfz19_3⟩ := cf4_ BK422.out
   go_wp2_with (first | ((with_reducible refine gate_callee (f := 21) rfl ?_); refine gs_ (some 26) Tryd.func21 #[.agg #[.int .i64 t423, .string t424, .slice Ao14 t425.length co14, .string t428], .agg #[.int .i64 t415, .string t416, .slice Ao9 t417.length co9, .string t420]] ?_; (with_reducible refine (laws_eqSegment.calls k t423 t424 _ _ t425 t428 t415 t416 _ _ t417 t420 true _ ?side1 ?side2 ?side3 ?side4 A15.out).mono ?_); (case side1 => refine (Kd.R_reads' (e := 70) (base := w.heap.size) (ok := fun k_ => (True ∧ some k_ ≠ (.slice Ao9 t417.length co9 : Value).ownBlock)) (n := t425.length) (c := co14) ?_).2.2; exact (by (with_reducible repeat (first | apply Kd.R_alloc | apply Kd.R_drewN | apply Kd.R_drew)); exact (Kd.R_mono (Kd.R_far (p := ⟨gb430, 3, none⟩) (Kd.R_far (p := ⟨gb430, 2, none⟩) (Kd.R_far (p := ⟨gb430, 1, none⟩) (Kd.R_far (p := ⟨gb430, 0, none⟩) (Kd.R_types HO427.out BK430.out (by decide)) (fun _ hk => hk.2) (.int .i64 t423)) (fun _ hk => hk.2) (.string t424)) (fun _ hk => hk.2) (.slice Ao14 t425.length co14)) (fun _ hk => hk.2) (.string t428)) (fun _ h_ => h_.1)))); (case side2 => exact (Kd.R_reads' HO427.out).2.1); (case side3 => refine (Kd.R_reads' (e := 70) (base := w.heap.size) (ok := fun k_ => (True ∧ some k_ ≠ (.slice Ao14 t425.length co14 : Value).ownBlock)) (n := t417.length) (c := co9) ?_).2.2; exact (by (with_reducible repeat (first | apply Kd.R_alloc | apply Kd.R_drewN | apply Kd.R_drew)); exact (Kd.R_mono (Kd.R_far (p := ⟨gb430, 3, none⟩) (Kd.R_far (p := ⟨gb430, 2, none⟩) (Kd.R_far (p := ⟨gb430, 1, none⟩) (Kd.R_far (p := ⟨gb430, 0, none⟩) (Kd.R_types HO419.out BK430.out (by decide)) (fun _ hk => hk.2) (.int .i64 t423)) (fun _ hk => hk.2) (.string t424)) (fun _ hk => hk.2) (.slice Ao14 t425.length co14)) (fun _ hk => hk.2) (.string t428)) (fun _ h_ => h_.1)))); (case side4 => exact (Kd.R_reads' HO419.out).2.1); rintro e w20 ⟨rfl, hb⟩; refine ⟨_, rfl, ?_⟩; replace HO419 := Aside0.mk (Kd.R_below (by (with_reducible repeat (first | apply Kd.R_alloc | apply Kd.R_drewN | apply Kd.R_drew)); exact (Kd.R_mono (Kd.R_far (p := ⟨gb430, 3, none⟩) (Kd.R_far (p := ⟨gb430, 2, none⟩) (Kd.R_far (p := ⟨gb430, 1, none⟩) (Kd.R_far (p := ⟨gb430, 0, none⟩) (Kd.R_types HO419.out BK430.out (by decide)) (fun _ hk => hk.2) (.int .i64 t423)) (fun _ hk => hk.2) (.string t424)) (fun _ hk => hk.2) (.slice Ao14 t425.length co14)) (fun _ hk => hk.2) (.string t428)) (fun _ h_ => h_.1))) hb); replace HO427 := Aside0.mk (Kd.R_below (by (with_reducible repeat (first | apply Kd.R_alloc | apply Kd.R_drewN | apply Kd.R_drew)); exact (Kd.R_mono (Kd.R_far (p := ⟨gb430, 3, none⟩) (Kd.R_far (p := ⟨gb430, 2, none⟩) (Kd.R_far (p := ⟨gb430, 1, none⟩) (Kd.R_far (p := ⟨gb430, 0, none⟩) (Kd.R_types HO427.out BK430.out (by decide)) (fun _ hk => hk.2) (.int .i64 t423)) (fun _ hk => hk.2) (.string t424)) (fun _ hk => hk.2) (.slice Ao14 t425.length co14)) (fun _ hk => hk.2) (.string t428)) (fun _ h_ => h_.1))) hb); replace BK422 := Aside0.mk (blk_below (bn1_ BK422.out NB422_430.out) hb); replace BK430 := Aside0.mk (blk_below (g := gb430) (o := .cells #[.int .i64 t423, .string t424, .slice Ao14 t425.length co14, .string t428] 30 (0, 0)) (bp0_ BK430.out) hb); replace HB := Aside0.mk (below_step bl_ hb); (try clear hb)))
   go_meet
   case rel => exact ⟨_, ((t429 != t421)), (sr_), H', ⟨by first | omega | exact Nat.le_refl _⟩, ⟨by (with_reducible repeat (first | apply Kd.R_alloc | apply Kd.R_drewN | apply Kd.R_drew)); exact Kd.R_mono HO419.out (fun _ hk => hk.2)⟩, ⟨by (with_reducible repeat (first | apply Kd.R_alloc | apply Kd.R_drewN | apply Kd.R_drew)); exact Kd.R_mono HO427.out (fun _ hk => hk.2)⟩, ⟨bk_ BK422.out⟩, ⟨bk_ BK430.out⟩, ⟨bl_⟩⟩
  replace c16 := Bool.eq_false_iff.mpr c16
  subst c16
  rw [if_neg (show ¬ (false = true) by decide)] at H
  have H' := Aside0.mk H
  clear H
  have hnb21 := NB430_422.out
  have hnc21 := NB422_430.out
  obtain ⟨hcz22_0, hcz22_1, hcz22_2, hcz22_3, hfz22_0, hfz22_1, hfz22_2, hfz22_3⟩ := cf4_ BK430.out
  obtain ⟨hcz23_0, hcz23_1, hcz23_2, hcz23_3, hfz23_0, hfz23_1, hfz23_2, hfz23_3⟩ := cf4_ BK422.out
  go_wp2_with (first | ((with_reducible refine gate_callee (f := 21) rfl ?_); refine gs_ (some 26) Tryd.func21 #[.agg #[.int .i64 t423, .string t424, .slice Ao14 t425.length co14, .string t428], .agg #[.int .i64 t415, .string t416, .slice Ao9 t417.length co9, .string t420]] ?_; (with_reducible refine (laws_eqSegment.calls k t423 t424 _ _ t425 t428 t415 t416 _ _ t417 t420 false _ ?side1 ?side2 ?side3 ?side4 A15.out).mono ?_); (case side1 => refine (Kd.R_reads' (e := 70) (base := w.heap.size) (ok := fun k_ => (True ∧ some k_ ≠ (.slice Ao9 t417.length co9 : Value).ownBlock)) (n := t425.length) (c := co14) ?_).2.2; exact (by (with_reducible repeat (first | apply Kd.R_alloc | apply Kd.R_drewN | apply Kd.R_drew)); exact (Kd.R_mono (Kd.R_far (p := ⟨gb430, 3, none⟩) (Kd.R_far (p := ⟨gb430, 2, none⟩) (Kd.R_far (p := ⟨gb430, 1, none⟩) (Kd.R_far (p := ⟨gb430, 0, none⟩) (Kd.R_types HO427.out BK430.out (by decide)) (fun _ hk => hk.2) (.int .i64 t423)) (fun _ hk => hk.2) (.string t424)) (fun _ hk => hk.2) (.slice Ao14 t425.length co14)) (fun _ hk => hk.2) (.string t428)) (fun _ h_ => h_.1)))); (case side2 => exact (Kd.R_reads' HO427.out).2.1); (case side3 => refine (Kd.R_reads' (e := 70) (base := w.heap.size) (ok := fun k_ => (True ∧ some k_ ≠ (.slice Ao14 t425.length co14 : Value).ownBlock)) (n := t417.length) (c := co9) ?_).2.2; exact (by (with_reducible repeat (first | apply Kd.R_alloc | apply Kd.R_drewN | apply Kd.R_drew)); exact (Kd.R_mono (Kd.R_far (p := ⟨gb430, 3, none⟩) (Kd.R_far (p := ⟨gb430, 2, none⟩) (Kd.R_far (p := ⟨gb430, 1, none⟩) (Kd.R_far (p := ⟨gb430, 0, none⟩) (Kd.R_types HO419.out BK430.out (by decide)) (fun _ hk => hk.2) (.int .i64 t423)) (fun _ hk => hk.2) (.string t424)) (fun _ hk => hk.2) (.slice Ao14 t425.length co14)) (fun _ hk => hk.2) (.string t428)) (fun _ h_ => h_.1)))); (case side4 => exact (Kd.R_reads' HO419.out).2.1); rintro e w24 ⟨rfl, hb⟩; refine ⟨_, rfl, ?_⟩; replace HO419 := Aside0.mk (Kd.R_below (by (with_reducible repeat (first | apply Kd.R_alloc | apply Kd.R_drewN | apply Kd.R_drew)); exact (Kd.R_mono (Kd.R_far (p := ⟨gb430, 3, none⟩) (Kd.R_far (p := ⟨gb430, 2, none⟩) (Kd.R_far (p := ⟨gb430, 1, none⟩) (Kd.R_far (p := ⟨gb430, 0, none⟩) (Kd.R_types HO419.out BK430.out (by decide)) (fun _ hk => hk.2) (.int .i64 t423)) (fun _ hk => hk.2) (.string t424)) (fun _ hk => hk.2) (.slice Ao14 t425.length co14)) (fun _ hk => hk.2) (.string t428)) (fun _ h_ => h_.1))) hb); replace HO427 := Aside0.mk (Kd.R_below (by (with_reducible repeat (first | apply Kd.R_alloc | apply Kd.R_drewN | apply Kd.R_drew)); exact (Kd.R_mono (Kd.R_far (p := ⟨gb430, 3, none⟩) (Kd.R_far (p := ⟨gb430, 2, none⟩) (Kd.R_far (p := ⟨gb430, 1, none⟩) (Kd.R_far (p := ⟨gb430, 0, none⟩) (Kd.R_types HO427.out BK430.out (by decide)) (fun _ hk => hk.2) (.int .i64 t423)) (fun _ hk => hk.2) (.string t424)) (fun _ hk => hk.2) (.slice Ao14 t425.length co14)) (fun _ hk => hk.2) (.string t428)) (fun _ h_ => h_.1))) hb); replace BK422 := Aside0.mk (blk_below (bn1_ BK422.out NB422_430.out) hb); replace BK430 := Aside0.mk (blk_below (g := gb430) (o := .cells #[.int .i64 t423, .string t424, .slice Ao14 t425.length co14, .string t428] 30 (0, 0)) (bp0_ BK430.out) hb); replace HB := Aside0.mk (below_step bl_ hb); (try clear hb)))
  go_meet
  case rel => exact ⟨_, (true), (sr_), H', ⟨by first | omega | exact Nat.le_refl _⟩, ⟨by (with_reducible repeat (first | apply Kd.R_alloc | apply Kd.R_drewN | apply Kd.R_drew)); exact Kd.R_mono HO419.out (fun _ hk => hk.2)⟩, ⟨by (with_reducible repeat (first | apply Kd.R_alloc | apply Kd.R_drewN | apply Kd.R_drew)); exact Kd.R_mono HO427.out (fun _ hk => hk.2)⟩, ⟨bk_ BK422.out⟩, ⟨bk_ BK430.out⟩, ⟨bl_⟩⟩
 clear HC5
 try clear c2
 try clear c2b0
 try clear c2b1
 try clear hcz13_0
 try clear hcz13_1
 try clear hcz13_2
 try clear hcz13_3
 try clear hcz8_0
 try clear hcz8_1
 try clear hcz8_2
 try clear hcz8_3
 try clear hfz13_0
 try clear hfz13_1
 try clear hfz13_2
 try clear hfz13_3
 try clear hfz8_0
 try clear hfz8_1
 try clear hfz8_2
 try clear hfz8_3
 obtain ⟨kq, x32_4, rfl, HA, HJ4, HO_423002, HO_431002, BK422, BK430, HB⟩ := hcut
 cases kq with
 | zero => exact absurd HA.out (by simp [laws_FnExactReadSegment.j0])
 | succ kj4 => ?_
 have H := HA.out
 clear HA
 simp only [laws_FnExactReadSegment.j0] at H
 by_cases c25 : x32_4 = true
 ·subst c25
  rw [if_pos rfl] at H
  exact absurd ((Option.some.inj H).trans HR1.out) (by decide)
 replace c25 := Bool.eq_false_iff.mpr c25
 subst c25
 rw [if_neg (show ¬ (false = true) by decide)] at H
 replace H := bs_ H
 obtain ⟨⟨t432, t433⟩, A26, H⟩ := H
 try dsimp only at H
 replace H := bs_ H
 obtain ⟨t434, A27, H⟩ := H
 try dsimp only at H
 by_cases c28 : t434 < 0
 ·rw [if_pos c28] at H
  have c28b0 := decide_eq_true c28
  clear c28
  exact absurd ((Option.some.inj H).trans HR1.out) (by decide)
 rw [if_neg c28] at H
 have c28b0 := decide_eq_false c28
 clear c28
 by_cases c29 : t434 = t432
 rotate_left
 ·rw [if_neg c29] at H
  have c29b0 : (t434 == t432) = false := beq_eq_false_iff_ne.mpr c29
  have c29b1 : (t434 != t432) = true := bne_iff_ne.mpr c29
  exact absurd ((Option.some.inj H).trans HR1.out) (by decide)
 rw [if_pos c29] at H
 have c29b0 : (t434 == t432) = true := beq_iff_eq.mpr c29
 have c29b1 : (t434 != t432) = false := bne_eq_false_iff_eq.mpr c29
 clear c29
 replace H := bs_ H
 obtain ⟨⟨t435, t436, t437, t440, t441⟩, A30, H⟩ := H
 try dsimp only at H
 have HC31 := Aside0.mk H
 clear H
 have hnb32 := NB430_422.out
 have hnc32 := NB422_430.out
 obtain ⟨hcz33_0, hcz33_1, hcz33_2, hcz33_3, hfz33_0, hfz33_1, hfz33_2, hfz33_3⟩ := cf4_ BK430.out
 go_upto_region 16 with (first | ((with_reducible refine gate_callee (f := 45) rfl ?_); refine gs_ (some 35) Tryd.func45 #[.agg #[.int .i64 t423, .string t424, .slice Ao14 t425.length co14, .string t428], .int .i64 1] ?_; (with_reducible refine (laws_markSegment.calls kj4 t423 t424 (fun k_ => some k_ = (.slice Ao14 t425.length co14 : Value).ownBlock) (.slice Ao14 t425.length co14) t425 t428 1 t432 t433 w _ ?side1 ?side2 A26.out).mono ?_); (case side1 => repeat (first | (with_reducible first | exact HB.out | apply below_alloc | apply pw_below_drewN | apply below_drew1 | refine below_set ?_ GE422.out | refine below_set ?_ GE430.out) | exact HB.out)); (case side2 => exact Kd.R_tight rfl HO_431002.out); rintro e w34 ⟨rfl, hy0, hb, hkp⟩; refine ⟨_, rfl, ?_⟩; replace HO_423002 := Aside0.mk (Kd.R_mono (ok' := fun k_ => some k_ ≠ (.slice Ao14 t425.length co14 : Value).ownBlock) (Kd.R_keptB (HO_423002.out) hkp (fun k_ hk_ hs_ => (hk_) hs_)) (fun k_ hk_ => hk_.1)); replace BK422 := Aside0.mk (blk_kept (bk_ BK422.out) hkp (fun hs_ => (fun e_ => (Kd.R_ne HO_431002.out BK422.out (by decide)) e_) hs_)); replace BK430 := Aside0.mk (blk_kept (bk_ BK430.out) hkp (fun hs_ => (fun e_ => (Kd.R_ne HO_431002.out BK430.out (by decide)) e_) hs_)); replace HO_431002 := Aside0.mk (Kd.R_reok rfl hy0 (fun k_ e_ => HO_431002.out.1 k_ e_)); replace HB := Aside0.mk (hb); (try clear hb); (try clear hkp); (try clear hy0); obtain ⟨hcz35_0, hcz35_1, hcz35_2, hcz35_3, hfz35_0, hfz35_1, hfz35_2, hfz35_3⟩ := cf4_ BK430.out) | ((with_reducible refine gate_callee (f := 46) rfl ?_); refine goesL_ (some 38) rfl rfl Tryd.func46 (by kernel_rfl) rfl #[.agg #[.int .i64 t423, .string t424, .slice Ao14 t433.length co14, .string t428], .int .i64 1] rfl (by (try simp only [List.map_toArray, List.map_cons, List.map_nil]); first | done | (rw [show t433.length = t425.length from (Kd.R_reads' HO_431002.out).1.symm] <;> rfl) | rfl | (simp only [List.length_drop, List.length_take]; rfl)) ?_; (with_reducible refine (laws_heldSegment.calls kj4 t423 t424 _ _ t433 t428 1 t434 _ ?side1 ?side2 A27.out).mono ?_); (case side1 => repeat (first | exact (Kd.R_reads' HO_431002.out).2.2 | (with_reducible refine Kd.C_alloc ?_ _) | (with_reducible refine Kd.C_drewN ?_ _) | (with_reducible refine Kd.C_drew ?_))); (case side2 => rw [show t433.length = t425.length from (Kd.R_reads' HO_431002.out).1.symm]; exact (Kd.R_reads' HO_431002.out).2.1); rintro e w36 ⟨rfl, hb⟩; refine ⟨_, rfl, ?_⟩; replace HO_423002 := Aside0.mk (Kd.R_below (ra_ HO_423002.out) hb); replace HO_431002 := Aside0.mk (Kd.R_below (ra_ HO_431002.out) hb); replace BK422 := Aside0.mk (blk_below (bn0_ BK422.out) hb); replace BK430 := Aside0.mk (blk_below (bn0_ BK430.out) hb); replace HB := Aside0.mk (below_step bl_ hb); (try clear hb)) | ((with_reducible refine gate_callee (f := 44) rfl ?_); refine gs_ (some 46) Tryd.func44 #[.string a0] ?_; (with_reducible refine (impl_ReadSegment.calls kj4 a0 t435 t436 t437 t440 t441 _ ?side1 A30.out).mono ?_); (case side1 => exact tab_of HT.out bl_); rintro e w37 ⟨v438, rfl, ho0, hb⟩; refine ⟨_, rfl, ?_⟩; have HO439 := Aside0.mk (Kd.R_lower (Kd.R_new' (Kd.R_new' ho0 (Kd.R_lt (ra_ HO_423002.out))) (Kd.R_lt (ra_ HO_431002.out))) (below_size bl_)); replace HO_423002 := Aside0.mk (Kd.R_elder' (ra_ HO_423002.out) (Kd.R_base ho0) hb); replace HO_431002 := Aside0.mk (Kd.R_elder' (ra_ HO_431002.out) (Kd.R_base ho0) hb); replace BK422 := Aside0.mk (blk_below (bn0_ BK422.out) hb); replace BK430 := Aside0.mk (blk_below (bn0_ BK430.out) hb); replace HB := Aside0.mk (below_step bl_ hb); (try clear hb); (try clear ho0)) | ((with_reducible refine gate_dst (N := 9) rfl ?_); refine bx_ 9 30 #[.int .i64 0, .string (⟨#[]⟩ : ByteArray), .slice none 0 0, .string (⟨#[]⟩ : ByteArray)] ?_; intro gb442 hg w38 hbox hb; replace HO_423002 := Aside0.mk (Kd.R_below (ra_ HO_423002.out) hb); replace HO_431002 := Aside0.mk (Kd.R_below (ra_ HO_431002.out) hb); replace HO439 := Aside0.mk (Kd.R_below (ra_ HO439.out) hb); have BK442 := Aside0.mk (hbox); have GW442 := Aside0.mk ((hz_ : w.heap.size ≤ gb442)); have GE442 := Aside0.mk ((hz_ : w.heap.size ≤ gb442)); replace HB := Aside0.mk (below_step bl_ hb); have NB422_442 := Aside0.mk ((by rw [hg]; exact Nat.ne_of_lt (blk_lt (g := gb422) (o := .cells #[.int .i64 t415, .string t416, .slice Ao9 t417.length co9, .string t420] 30 (0, 0)) (bk_ BK422.out)) : gb422 ≠ gb442)); have NB442_422 := Aside0.mk ((by rw [hg]; exact Nat.ne_of_gt (blk_lt (g := gb422) (o := .cells #[.int .i64 t415, .string t416, .slice Ao9 t417.length co9, .string t420] 30 (0, 0)) (bk_ BK422.out)) : gb442 ≠ gb422)); replace BK422 := Aside0.mk (blk_below (bn0_ BK422.out) hb); have NB430_442 := Aside0.mk ((by rw [hg]; exact Nat.ne_of_lt (blk_lt (g := gb430) (o := .cells #[.int .i64 t423, .string t424, .slice Ao14 t425.length co14, .string t428] 30 (0, 0)) (bk_ BK430.out)) : gb430 ≠ gb442)); have NB442_430 := Aside0.mk ((by rw [hg]; exact Nat.ne_of_gt (blk_lt (g := gb430) (o := .cells #[.int .i64 t423, .string t424, .slice Ao14 t425.length co14, .string t428] 30 (0, 0)) (bk_ BK430.out)) : gb442 ≠ gb430)); replace BK430 := Aside0.mk (blk_below (bn0_ BK430.out) hb); clear hb hbox hg; have hnb39 := NB442_422.out; have hnc39 := NB422_442.out; have hnb40 := NB442_430.out; have hnc40 := NB430_442.out; obtain ⟨hcz41_0, hcz41_1, hcz41_2, hcz41_3, hfz41_0, hfz41_1, hfz41_2, hfz41_3⟩ := cf4_ BK442.out; obtain ⟨Ao42, co42, eo42⟩ := Kd.R_slice HO439.out; subst eo42))
 (try simp only [Act.put, List.setIfInBounds_toArray, List.set_cons_zero, List.set_cons_succ])
 go_cut [57] (fun v57 wc => ∃ (kq : Nat) (x57_30 : Bool), v57 = .bool x57_30 ∧ Aside0 (laws_FnExactReadSegment.j1 kq t432 x57_30 t423 t424 t433 t428 = some r) ∧ Aside0 (kq ≤ kj4) ∧ Aside0 (Kd.R k70 70 wc w.heap.size (fun k_ => some k_ ≠ ((.slice Ao14 t425.length co14) : Value).ownBlock ∧ some k_ ≠ ((.slice Ao42 t437.length co42) : Value).ownBlock) (.slice Ao9 t417.length co9) t417) ∧ Aside0 (Kd.R k70 70 wc w.heap.size (fun k_ => some k_ ≠ ((.slice Ao9 t417.length co9) : Value).ownBlock ∧ some k_ ≠ ((.slice Ao42 t437.length co42) : Value).ownBlock) (.slice Ao14 t425.length co14) t433) ∧ Aside0 (Kd.R k70 70 wc w.heap.size (fun k_ => some k_ ≠ ((.slice Ao9 t417.length co9) : Value).ownBlock ∧ some k_ ≠ ((.slice Ao14 t425.length co14) : Value).ownBlock) (.slice Ao42 t437.length co42) t437) ∧ Aside0 (wc.heap[gb422]? = some (.cells #[.int .i64 t415, .string t416, (.slice Ao9 t417.length co9), .string t420] 30 (0, 0))) ∧ Aside0 (wc.heap[gb430]? = some (.cells #[.int .i64 t423, .string t424, (.slice Ao14 t425.length co14), .string t428] 30 (0, 0))) ∧ Aside0 (wc.heap[gb442]? = some (.cells #[.int .i64 t435, .string t436, (.slice Ao42 t437.length co42), .string t440] 30 (0, 0))) ∧ Aside0 (Below w.heap.size w wc))
 case first =>
  have H := HC31.out
  clear HC31
  replace H := bs_ H
  obtain ⟨t443, A43, H⟩ := H
  try dsimp only at H
  by_cases c44 : t443 = true
  ·subst c44
   rw [if_pos rfl] at H
   have H' := Aside0.mk H
   clear H
   have hnb45 := NB442_422.out
   have hnc45 := NB422_442.out
   have hnb46 := NB442_430.out
   have hnc46 := NB430_442.out
   obtain ⟨hcz47_0, hcz47_1, hcz47_2, hcz47_3, hfz47_0, hfz47_1, hfz47_2, hfz47_3⟩ := cf4_ BK442.out
   have hnb48 := NB422_430.out
   have hnc48 := NB430_422.out
   obtain ⟨hcz49_0, hcz49_1, hcz49_2, hcz49_3, hfz49_0, hfz49_1, hfz49_2, hfz49_3⟩ := cf4_ BK422.out
   go_wp2_with (first | ((with_reducible refine gate_callee (f := 21) rfl ?_); refine gs_ (some 51) Tryd.func21 #[.agg #[.int .i64 t435, .string t436, .slice Ao42 t437.length co42, .string t440], .agg #[.int .i64 t415, .string t416, .slice Ao9 t417.length co9, .string t420]] ?_; (with_reducible refine (laws_eqSegment.calls kj4 t435 t436 _ _ t437 t440 t415 t416 _ _ t417 t420 true _ ?side1 ?side2 ?side3 ?side4 A43.out).mono ?_); (case side1 => refine (Kd.R_reads' (e := 70) (base := w.heap.size) (ok := fun k_ => ((True ∧ some k_ ≠ (.slice Ao9 t417.length co9 : Value).ownBlock) ∧ some k_ ≠ (.slice Ao14 t425.length co14 : Value).ownBlock)) (n := t437.length) (c := co42) ?_).2.2; exact (by (with_reducible repeat (first | apply Kd.R_alloc | apply Kd.R_drewN | apply Kd.R_drew)); exact (Kd.R_mono (Kd.R_far (p := ⟨gb442, 3, none⟩) (Kd.R_far (p := ⟨gb442, 2, none⟩) (Kd.R_far (p := ⟨gb442, 1, none⟩) (Kd.R_far (p := ⟨gb442, 0, none⟩) (Kd.R_types HO439.out BK442.out (by decide)) (fun _ hk => hk.2) (.int .i64 t435)) (fun _ hk => hk.2) (.string t436)) (fun _ hk => hk.2) (.slice Ao42 t437.length co42)) (fun _ hk => hk.2) (.string t440)) (fun _ h_ => h_.1)))); (case side2 => exact (Kd.R_reads' HO439.out).2.1); (case side3 => refine (Kd.R_reads' (e := 70) (base := w.heap.size) (ok := fun k_ => (some k_ ≠ (.slice Ao14 t425.length co14 : Value).ownBlock ∧ some k_ ≠ (.slice Ao42 t437.length co42 : Value).ownBlock)) (n := t417.length) (c := co9) ?_).2.2; exact (by (with_reducible repeat (first | apply Kd.R_alloc | apply Kd.R_drewN | apply Kd.R_drew)); exact (Kd.R_mono (Kd.R_far (p := ⟨gb442, 3, none⟩) (Kd.R_far (p := ⟨gb442, 2, none⟩) (Kd.R_far (p := ⟨gb442, 1, none⟩) (Kd.R_far (p := ⟨gb442, 0, none⟩) (Kd.R_types HO_423002.out BK442.out (by decide)) (fun _ hk => hk.2) (.int .i64 t435)) (fun _ hk => hk.2) (.string t436)) (fun _ hk => hk.2) (.slice Ao42 t437.length co42)) (fun _ hk => hk.2) (.string t440)) (fun _ h_ => h_.1)))); (case side4 => exact (Kd.R_reads' HO_423002.out).2.1); rintro e w50 ⟨rfl, hb⟩; refine ⟨_, rfl, ?_⟩; replace HO_423002 := Aside0.mk (Kd.R_below (by (with_reducible repeat (first | apply Kd.R_alloc | apply Kd.R_drewN | apply Kd.R_drew)); exact (Kd.R_mono (Kd.R_far (p := ⟨gb442, 3, none⟩) (Kd.R_far (p := ⟨gb442, 2, none⟩) (Kd.R_far (p := ⟨gb442, 1, none⟩) (Kd.R_far (p := ⟨gb442, 0, none⟩) (Kd.R_types HO_423002.out BK442.out (by decide)) (fun _ hk => hk.2) (.int .i64 t435)) (fun _ hk => hk.2) (.string t436)) (fun _ hk => hk.2) (.slice Ao42 t437.length co42)) (fun _ hk => hk.2) (.string t440)) (fun _ h_ => h_.1))) hb); replace HO_431002 := Aside0.mk (Kd.R_below (by (with_reducible repeat (first | apply Kd.R_alloc | apply Kd.R_drewN | apply Kd.R_drew)); exact (Kd.R_mono (Kd.R_far (p := ⟨gb442, 3, none⟩) (Kd.R_far (p := ⟨gb442, 2, none⟩) (Kd.R_far (p := ⟨gb442, 1, none⟩) (Kd.R_far (p := ⟨gb442, 0, none⟩) (Kd.R_types HO_431002.out BK442.out (by decide)) (fun _ hk => hk.2) (.int .i64 t435)) (fun _ hk => hk.2) (.string t436)) (fun _ hk => hk.2) (.slice Ao42 t437.length co42)) (fun _ hk => hk.2) (.string t440)) (fun _ h_ => h_.1))) hb); replace HO439 := Aside0.mk (Kd.R_below (by (with_reducible repeat (first | apply Kd.R_alloc | apply Kd.R_drewN | apply Kd.R_drew)); exact (Kd.R_mono (Kd.R_far (p := ⟨gb442, 3, none⟩) (Kd.R_far (p := ⟨gb442, 2, none⟩) (Kd.R_far (p := ⟨gb442, 1, none⟩) (Kd.R_far (p := ⟨gb442, 0, none⟩) (Kd.R_types HO439.out BK442.out (by decide)) (fun _ hk => hk.2) (.int .i64 t435)) (fun _ hk => hk.2) (.string t436)) (fun _ hk => hk.2) (.slice Ao42 t437.length co42)) (fun _ hk => hk.2) (.string t440)) (fun _ h_ => h_.1))) hb); replace BK422 := Aside0.mk (blk_below (bn1_ BK422.out NB422_442.out) hb); replace BK430 := Aside0.mk (blk_below (bn1_ BK430.out NB430_442.out) hb); replace BK442 := Aside0.mk (blk_below (g := gb442) (o := .cells #[.int .i64 t435, .string t436, .slice Ao42 t437.length co42, .string t440] 30 (0, 0)) (bp0_ BK442.out) hb); replace HB := Aside0.mk (below_step bl_ hb); (try clear hb)))
   go_meet
   case rel => exact ⟨_, ((t441 != t421)), (sr_), H', ⟨by have := HJ4.out; first | omega | exact Nat.le_refl _⟩, ⟨ra_ HO_423002.out⟩, ⟨ra_ HO_431002.out⟩, ⟨by (with_reducible repeat (first | apply Kd.R_alloc | apply Kd.R_drewN | apply Kd.R_drew)); exact Kd.R_mono HO439.out (fun _ hk => ⟨hk.1.2, hk.2⟩)⟩, ⟨bk_ BK422.out⟩, ⟨bk_ BK430.out⟩, ⟨bk_ BK442.out⟩, ⟨bl_⟩⟩
  replace c44 := Bool.eq_false_iff.mpr c44
  subst c44
  rw [if_neg (show ¬ (false = true) by decide)] at H
  have H' := Aside0.mk H
  clear H
  have hnb51 := NB442_422.out
  have hnc51 := NB422_442.out
  have hnb52 := NB442_430.out
  have hnc52 := NB430_442.out
  obtain ⟨hcz53_0, hcz53_1, hcz53_2, hcz53_3, hfz53_0, hfz53_1, hfz53_2, hfz53_3⟩ := cf4_ BK442.out
  have hnb54 := NB422_430.out
  have hnc54 := NB430_422.out
  obtain ⟨hcz55_0, hcz55_1, hcz55_2, hcz55_3, hfz55_0, hfz55_1, hfz55_2, hfz55_3⟩ := cf4_ BK422.out
  go_wp2_with (first | ((with_reducible refine gate_callee (f := 21) rfl ?_); refine gs_ (some 51) Tryd.func21 #[.agg #[.int .i64 t435, .string t436, .slice Ao42 t437.length co42, .string t440], .agg #[.int .i64 t415, .string t416, .slice Ao9 t417.length co9, .string t420]] ?_; (with_reducible refine (laws_eqSegment.calls kj4 t435 t436 _ _ t437 t440 t415 t416 _ _ t417 t420 false _ ?side1 ?side2 ?side3 ?side4 A43.out).mono ?_); (case side1 => refine (Kd.R_reads' (e := 70) (base := w.heap.size) (ok := fun k_ => ((True ∧ some k_ ≠ (.slice Ao9 t417.length co9 : Value).ownBlock) ∧ some k_ ≠ (.slice Ao14 t425.length co14 : Value).ownBlock)) (n := t437.length) (c := co42) ?_).2.2; exact (by (with_reducible repeat (first | apply Kd.R_alloc | apply Kd.R_drewN | apply Kd.R_drew)); exact (Kd.R_mono (Kd.R_far (p := ⟨gb442, 3, none⟩) (Kd.R_far (p := ⟨gb442, 2, none⟩) (Kd.R_far (p := ⟨gb442, 1, none⟩) (Kd.R_far (p := ⟨gb442, 0, none⟩) (Kd.R_types HO439.out BK442.out (by decide)) (fun _ hk => hk.2) (.int .i64 t435)) (fun _ hk => hk.2) (.string t436)) (fun _ hk => hk.2) (.slice Ao42 t437.length co42)) (fun _ hk => hk.2) (.string t440)) (fun _ h_ => h_.1)))); (case side2 => exact (Kd.R_reads' HO439.out).2.1); (case side3 => refine (Kd.R_reads' (e := 70) (base := w.heap.size) (ok := fun k_ => (some k_ ≠ (.slice Ao14 t425.length co14 : Value).ownBlock ∧ some k_ ≠ (.slice Ao42 t437.length co42 : Value).ownBlock)) (n := t417.length) (c := co9) ?_).2.2; exact (by (with_reducible repeat (first | apply Kd.R_alloc | apply Kd.R_drewN | apply Kd.R_drew)); exact (Kd.R_mono (Kd.R_far (p := ⟨gb442, 3, none⟩) (Kd.R_far (p := ⟨gb442, 2, none⟩) (Kd.R_far (p := ⟨gb442, 1, none⟩) (Kd.R_far (p := ⟨gb442, 0, none⟩) (Kd.R_types HO_423002.out BK442.out (by decide)) (fun _ hk => hk.2) (.int .i64 t435)) (fun _ hk => hk.2) (.string t436)) (fun _ hk => hk.2) (.slice Ao42 t437.length co42)) (fun _ hk => hk.2) (.string t440)) (fun _ h_ => h_.1)))); (case side4 => exact (Kd.R_reads' HO_423002.out).2.1); rintro e w56 ⟨rfl, hb⟩; refine ⟨_, rfl, ?_⟩; replace HO_423002 := Aside0.mk (Kd.R_below (by (with_reducible repeat (first | apply Kd.R_alloc | apply Kd.R_drewN | apply Kd.R_drew)); exact (Kd.R_mono (Kd.R_far (p := ⟨gb442, 3, none⟩) (Kd.R_far (p := ⟨gb442, 2, none⟩) (Kd.R_far (p := ⟨gb442, 1, none⟩) (Kd.R_far (p := ⟨gb442, 0, none⟩) (Kd.R_types HO_423002.out BK442.out (by decide)) (fun _ hk => hk.2) (.int .i64 t435)) (fun _ hk => hk.2) (.string t436)) (fun _ hk => hk.2) (.slice Ao42 t437.length co42)) (fun _ hk => hk.2) (.string t440)) (fun _ h_ => h_.1))) hb); replace HO_431002 := Aside0.mk (Kd.R_below (by (with_reducible repeat (first | apply Kd.R_alloc | apply Kd.R_drewN | apply Kd.R_drew)); exact (Kd.R_mono (Kd.R_far (p := ⟨gb442, 3, none⟩) (Kd.R_far (p := ⟨gb442, 2, none⟩) (Kd.R_far (p := ⟨gb442, 1, none⟩) (Kd.R_far (p := ⟨gb442, 0, none⟩) (Kd.R_types HO_431002.out BK442.out (by decide)) (fun _ hk => hk.2) (.int .i64 t435)) (fun _ hk => hk.2) (.string t436)) (fun _ hk => hk.2) (.slice Ao42 t437.length co42)) (fun _ hk => hk.2) (.string t440)) (fun _ h_ => h_.1))) hb); replace HO439 := Aside0.mk (Kd.R_below (by (with_reducible repeat (first | apply Kd.R_alloc | apply Kd.R_drewN | apply Kd.R_drew)); exact (Kd.R_mono (Kd.R_far (p := ⟨gb442, 3, none⟩) (Kd.R_far (p := ⟨gb442, 2, none⟩) (Kd.R_far (p := ⟨gb442, 1, none⟩) (Kd.R_far (p := ⟨gb442, 0, none⟩) (Kd.R_types HO439.out BK442.out (by decide)) (fun _ hk => hk.2) (.int .i64 t435)) (fun _ hk => hk.2) (.string t436)) (fun _ hk => hk.2) (.slice Ao42 t437.length co42)) (fun _ hk => hk.2) (.string t440)) (fun _ h_ => h_.1))) hb); replace BK422 := Aside0.mk (blk_below (bn1_ BK422.out NB422_442.out) hb); replace BK430 := Aside0.mk (blk_below (bn1_ BK430.out NB430_442.out) hb); replace BK442 := Aside0.mk (blk_below (g := gb442) (o := .cells #[.int .i64 t435, .string t436, .slice Ao42 t437.length co42, .string t440] 30 (0, 0)) (bp0_ BK442.out) hb); replace HB := Aside0.mk (below_step bl_ hb); (try clear hb)))
  go_meet
  case rel => exact ⟨_, (true), (sr_), H', ⟨by have := HJ4.out; first | omega | exact Nat.le_refl _⟩, ⟨ra_ HO_423002.out⟩, ⟨ra_ HO_431002.out⟩, ⟨by (with_reducible repeat (first | apply Kd.R_alloc | apply Kd.R_drewN | apply Kd.R_drew)); exact Kd.R_mono HO439.out (fun _ hk => ⟨hk.1.2, hk.2⟩)⟩, ⟨bk_ BK422.out⟩, ⟨bk_ BK430.out⟩, ⟨bk_ BK442.out⟩, ⟨bl_⟩⟩
 clear HC31
 try clear c2
 try clear c2b0
 try clear c2b1
 try clear c25
 try clear c28
 try clear c28b0
 try clear c29
 try clear c29b0
 try clear c29b1
 try clear hcz13_0
 try clear hcz13_1
 try clear hcz13_2
 try clear hcz13_3
 try clear hcz33_0
 try clear hcz33_1
 try clear hcz33_2
 try clear hcz33_3
 try clear hcz35_0
 try clear hcz35_1
 try clear hcz35_2
 try clear hcz35_3
 try clear hcz41_0
 try clear hcz41_1
 try clear hcz41_2
 try clear hcz41_3
 try clear hcz8_0
 try clear hcz8_1
 try clear hcz8_2
 try clear hcz8_3
 try clear hfz13_0
 try clear hfz13_1
 try clear hfz13_2
 try clear hfz13_3
 try clear hfz33_0
 try clear hfz33_1
 try clear hfz33_2
 try clear hfz33_3
 try clear hfz35_0
 try clear hfz35_1
 try clear hfz35_2
 try clear hfz35_3
 try clear hfz41_0
 try clear hfz41_1
 try clear hfz41_2
 try clear hfz41_3
 try clear hfz8_0
 try clear hfz8_1
 try clear hfz8_2
 try clear hfz8_3
 obtain ⟨kq, x57_30, rfl, HA, HJ30, HO_423002, HO_431002, HO_443002, BK422, BK430, BK442, HB⟩ := hcut
 have hl431002_30 := (Kd.R_reads' HO_431002.out).1
 rw [hl431002_30] at HO_431002
 (try simp only [hl431002_30])
 (try simp only [hl431002_30] at BK422)
 (try simp only [hl431002_30] at BK430)
 (try simp only [hl431002_30] at BK442)
 (try simp only [hl431002_30] at HO_423002)
 (try simp only [hl431002_30] at HO_443002)
 cases kq with
 | zero => exact absurd HA.out (by simp [laws_FnExactReadSegment.j1])
 | succ kj30 => ?_
 have H := HA.out
 clear HA
 simp only [laws_FnExactReadSegment.j1] at H
 by_cases c57 : x57_30 = true
 ·subst c57
  rw [if_pos rfl] at H
  exact absurd ((Option.some.inj H).trans HR1.out) (by decide)
 replace c57 := Bool.eq_false_iff.mpr c57
 subst c57
 rw [if_neg (show ¬ (false = true) by decide)] at H
 replace H := bs_ H
 obtain ⟨t444, A58, H⟩ := H
 try dsimp only at H
 by_cases c59 : t444 < 0
 ·rw [if_pos c59] at H
  have c59b0 := decide_eq_true c59
  clear c59
  exact absurd ((Option.some.inj H).trans HR1.out) (by decide)
 rw [if_neg c59] at H
 have c59b0 := decide_eq_false c59
 clear c59
 by_cases c60 : t444 = t432
 rotate_left
 ·rw [if_neg c60] at H
  have c60b0 : (t444 == t432) = false := beq_eq_false_iff_ne.mpr c60
  have c60b1 : (t444 != t432) = true := bne_iff_ne.mpr c60
  exact absurd ((Option.some.inj H).trans HR1.out) (by decide)
 rw [if_pos c60] at H
 have c60b0 : (t444 == t432) = true := beq_iff_eq.mpr c60
 have c60b1 : (t444 != t432) = false := bne_eq_false_iff_eq.mpr c60
 clear c60
 obtain rfl := Option.some.inj H
 have hnb61 := NB430_422.out
 have hnc61 := NB422_430.out
 have hnb62 := NB430_442.out
 have hnc62 := NB442_430.out
 obtain ⟨hcz63_0, hcz63_1, hcz63_2, hcz63_3, hfz63_0, hfz63_1, hfz63_2, hfz63_3⟩ := cf4_ BK430.out
 go_wp2_with (first | ((with_reducible refine gate_callee (f := 46) rfl ?_); refine gs_ (some 60) Tryd.func46 #[.agg #[.int .i64 t423, .string t424, .slice Ao14 t433.length co14, .string t428], .int .i64 1] ?_; (with_reducible refine (laws_heldSegment.calls kj30 t423 t424 _ _ t433 t428 1 t444 _ ?side1 ?side2 A58.out).mono ?_); (case side1 => repeat (first | exact (Kd.R_reads' HO_431002.out).2.2 | (with_reducible refine Kd.C_alloc ?_ _) | (with_reducible refine Kd.C_drewN ?_ _) | (with_reducible refine Kd.C_drew ?_))); (case side2 => exact (Kd.R_reads' HO_431002.out).2.1); rintro e w64 ⟨rfl, hb⟩; refine ⟨_, rfl, ?_⟩; replace HO_423002 := Aside0.mk (Kd.R_below (ra_ HO_423002.out) hb); replace HO_431002 := Aside0.mk (Kd.R_below (ra_ HO_431002.out) hb); replace HO_443002 := Aside0.mk (Kd.R_below (ra_ HO_443002.out) hb); replace BK422 := Aside0.mk (blk_below (bn0_ BK422.out) hb); replace BK430 := Aside0.mk (blk_below (bn0_ BK430.out) hb); replace BK442 := Aside0.mk (blk_below (bn0_ BK442.out) hb); replace HB := Aside0.mk (below_step bl_ hb); (try clear hb)))
 go_ret
 exact ⟨er_, bl_⟩

end Go.Proofs.YtdhjolglbcoijaaDoor.PA

namespace Go.Proofs.YtdhjolglbcoijaaDoor.Op
open Go.RowKit Go.Proofs.YtdhjolglbcoijaaDoorW.PrintWords
set_option linter.unusedVariables false
set_option linter.unusedSimpArgs false

/-- A whole number is one of its kind. -/
abbrev OkInt (k : IntKind) (n : Int) : Prop := (Lit.int k n).wf = true

/-- A value of type t, read as data, is one of the kind d, with G. -/
structure Opens (P : Program) {α : Type} (d : Kd α) (t : TypeId) (G : α → Prop) : Prop where
 sz : d.sz = P.cellsOf t
 op : ∀ {H : Type} {enc : TypeId × Value → H} {w : World} {n : Nat} {cs : List Value} {x : DataW H × List MemPlace},
  DataW.trod enc P w 0 (fun _ => true) true n t cs = some x → ∃ a, d.K w a cs ∧ G a

theorem opInt {P : Program} {t : TypeId} {k : IntKind} (hu : P.underlying t = some (.int k)) (hc : P.cellsOf t = 1) : Opens P (Kd.int k) t (fun n => (Lit.int k n).wf = true) where
 sz := by rw [hc]; rfl
 op := fun h => by
  obtain ⟨n, rfl, _, hw⟩ := DataW.trod_int hu h
  exact ⟨n, rfl, hw⟩

theorem opBool {P : Program} {t : TypeId} (hu : P.underlying t = some .bool) (hc : P.cellsOf t = 1) : Opens P Kd.bool t (fun _ => True) where
 sz := by rw [hc]; rfl
 op := fun h => by
  obtain ⟨n, rfl, _⟩ := DataW.trod_bool hu h
  exact ⟨n, rfl, trivial⟩

theorem opStr {P : Program} {t : TypeId} (hu : P.underlying t = some .string) (hc : P.cellsOf t = 1) : Opens P Kd.string t (fun s => s.size ≤ 9223372036854775807) where
 sz := by rw [hc]; rfl
 op := fun h => by
  obtain ⟨s, rfl, _, hs⟩ := DataW.trod_string hu h
  exact ⟨s, rfl, hs⟩

theorem chooseList {α : Type} {Q : Nat → α → Prop} : ∀ (n : Nat), (∀ i, i < n → ∃ a, Q i a) → ∃ xs : List α, xs.length = n ∧ ∀ i a, xs[i]? = some a → Q i a
 | 0, _ => ⟨[], rfl, fun i a h => by simp at h⟩
 | n + 1, h => by
  obtain ⟨xs, hl, hx⟩ := chooseList n (fun i hi => h i (by omega))
  obtain ⟨a, ha⟩ := h n (by omega)
  refine ⟨xs ++ [a], by simp [hl], fun i b hb => ?_⟩
  by_cases hi : i < n
  ·rw [List.getElem?_append_left (by omega)] at hb
   exact hx i b hb
  ·rw [List.getElem?_append_right (by omega), hl] at hb
   have : i - n = 0 := by
    rcases Nat.eq_zero_or_pos (i - n) with h0 | h0
    ·exact h0
    ·rw [List.getElem?_eq_none (by simp; omega)] at hb
     simp at hb
   rw [this] at hb
   have hin : i = n := by omega
   simp at hb
   rw [hin, ← hb]
   exact ha

theorem cellsAt {w : World} {a : Addr} {n : Nat} {cs : List Value} (h : w.cells? 0 a n = some cs) : cs.length = n ∧ ∀ i u, cs[i]? = some u → w.cell? (a.add i) = some u := by
 unfold World.cells? at h
 rw [if_pos (Nat.zero_le _)] at h
 have hl : cs.length = n := by simpa using mapM_some_length h
 refine ⟨hl, fun i u hu => ?_⟩
 have hi : i < n := by
  rcases Nat.lt_or_ge i n with h1 | h1
  ·exact h1
  ·rw [List.getElem?_eq_none (by omega)] at hu
   simp at hu
 have := mapM_some_get h i i (by simp [hi])
 rw [this, hu]

theorem opSlice {P : Program} {α : Type} {d : Kd α} {t e : TypeId} {G : α → Prop} (hu : P.underlying t = some (.slice e)) (hc : P.cellsOf t = 1) (E : Nat) (o : Opens P d e G) :
 Opens P (Kd.slice E d) t (fun l => (∀ a ∈ l, G a) ∧ l.length ≤ 9223372036854775807) where
 sz := by rw [hc]; rfl
 op := fun {H enc w n cs x} h => by
  rcases DataW.trod_slice hu h with ⟨rfl, _⟩ | ⟨a, len, cap, elems, rest, m, _, rfl, _, _, hl, hcap, hlen, hel, _⟩
  ·exact ⟨[], ⟨none, 0, rfl, Nat.le_refl _, rfl, by simp, fun h0 => by simp at h0⟩, fun a ha => by simp at ha, by simp⟩
  ·have hcap' : cap ≤ 9223372036854775807 := hcap
   have key : ∀ i, i < len → ∃ b, ∃ c, d.K w b c ∧ G b ∧ c.length = d.sz ∧ ∀ j u, c[j]? = some u → w.cell? ((a.add (i * d.sz)).add j) = some u := by
    intro i hi
    have h1 := hel i hi
    rw [List.getElem?_eq_getElem (by omega)] at h1
    obtain ⟨cs', h2, h3⟩ := Option.bind_eq_some_iff.1 h1
    obtain ⟨b, hK, hG⟩ := o.op h3
    obtain ⟨h4, h5⟩ := cellsAt h2
    rw [← o.sz] at h5
    exact ⟨b, cs', hK, hG, d.K_len hK, h5⟩
   obtain ⟨xs, hx, hall⟩ := chooseList len key
   refine ⟨xs, ⟨some a, cap, by rw [hx], by omega, rfl, by omega, fun _ => ⟨a, rfl, fun j p hp => ?_⟩⟩, fun b hb => ?_, by omega⟩
   ·obtain ⟨c, hK, _, hs, hcell⟩ := hall j p hp
    exact ⟨c, hs, hK, fun i u hiu => by rw [← Addr.add_add]; exact hcell i u hiu⟩
   ·obtain ⟨i, hi, rfl⟩ := List.getElem_of_mem hb
    obtain ⟨_, _, hG, _⟩ := hall i _ (List.getElem?_eq_getElem hi)
    exact hG

/-- A struct's fields from one on, one behind the other. -/
structure Fields (P : Program) (off : Nat) (fs : List Field) {α : Type} (d : Kd α) (G : α → Prop) : Prop where
 op : ∀ {H : Type} {enc : TypeId × Value → H} {w : World} {n : Nat} {cs : List Value}, cs.length = off + d.sz →
  (∀ f ∈ fs, ∃ y, DataW.trod enc P w 0 (fun _ => true) true n f.type ((cs.drop f.offset).take (P.cellsOf f.type)) = some y) → ∃ a, d.K w a (cs.drop off) ∧ G a

theorem fieldsOne {P : Program} {off : Nat} {f : Field} {α : Type} {d : Kd α} {G : α → Prop} (o : Opens P d f.type G) (hf : f.offset = off) : Fields P off [f] d G where
 op := fun {H enc w n cs} hl h => by
  obtain ⟨y, hy⟩ := h f (by simp)
  rw [hf, List.take_of_length_le (by rw [← o.sz]; simp; omega)] at hy
  exact o.op hy

theorem fieldsCons {P : Program} {off : Nat} {f : Field} {fs : List Field} {α β : Type} {d : Kd α} {d' : Kd β} {G : α → Prop} {G' : β → Prop} (o : Opens P d f.type G) (hf : f.offset = off) (r : Fields P (off + d.sz) fs d' G') :
 Fields P off (f :: fs) (Kd.pair d d') (fun x => G x.1 ∧ G' x.2) where
 op := fun {H enc w n cs} hl h => by
  have hl' : cs.length = off + (d.sz + d'.sz) := hl
  obtain ⟨y, hy⟩ := h f (by simp)
  rw [hf] at hy
  obtain ⟨a, ha, hg⟩ := o.op hy
  obtain ⟨b, hb, hg'⟩ := r.op (by omega) (fun g hg => h g (by simp [hg]))
  refine ⟨(a, b), ⟨_, _, ?_, ha, hb⟩, hg, hg'⟩
  rw [← o.sz, show cs.drop (off + d.sz) = (cs.drop off).drop d.sz from (List.drop_drop ..).symm]
  exact (List.take_append_drop _ _).symm

theorem opStruct {P : Program} {t : TypeId} {fs : Array Field} {α β : Type} {d : Kd α} {f : β → α} {G : α → Prop} {G' : β → Prop} (hu : P.underlying t = some (.struct fs)) (hc : P.cellsOf t = d.sz)
 (r : Fields P 0 fs.toList d G) (g : α → β) (hfg : ∀ a, f (g a) = a) (hG : ∀ a, G a → G' (g a)) : Opens P (Kd.iso d f) t G' where
 sz := by rw [hc]; rfl
 op := fun {H enc w n cs x} h => by
  obtain ⟨xs, m, rfl, _, hl, hxs, hall⟩ := DataW.trod_struct hu h
  obtain ⟨a, ha, hGa⟩ := r.op (w := w) (n := m) (cs := cs) (by omega) (fun f' hf' => by
   obtain ⟨i, hi, rfl⟩ := List.getElem_of_mem hf'
   have hi' : i < fs.size := by simpa using hi
   have h1 := hall i fs.toList[i] (by simp [hi'])
   rw [List.getElem?_eq_getElem (by omega)] at h1
   exact ⟨_, h1⟩)
  rw [List.drop_zero] at ha
  refine ⟨g a, ?_, hG a hGa⟩
  show d.K w (f (g a)) cs
  rw [hfg]
  exact ha
end Go.Proofs.YtdhjolglbcoijaaDoor.Op

namespace Go.Proofs.YtdhjolglbcoijaaDoor.PureFnExactReadSegment
open Go.RowKit Go.Proofs.YtdhjolglbcoijaaDoor.PA
def Stated : Prop := ∀ (x0 : ByteArray), (x0.size ≤ 9223372036854775807) → ∃ k, laws_FnExactReadSegment.f k x0 = some true
end Go.Proofs.YtdhjolglbcoijaaDoor.PureFnExactReadSegment

namespace Go.Proofs.YtdhjolglbcoijaaDoor.Kit
open Go.RowKit Go.Proofs.YtdhjolglbcoijaaDoorW.PrintWords Go.Proofs.YtdhjolglbcoijaaDoorW.PrintLast Go.Proofs.YtdhjolglbcoijaaDoorW.PrintMore
set_option linter.unusedVariables false
set_option linter.unusedSimpArgs false

theorem w64 {x : Int} (h0 : -9223372036854775808 ≤ x) (h1 : x ≤ 9223372036854775807) : wrap64 x = x := by unfold wrap64; omega

section
variable {α β : Type}
theorem evSucc {g : Nat → Option α} {r : α} (h : Ev (fun k => g (k + 1)) r) : Ev g r := Ev.step (fun _ => rfl) h
theorem evPos {c : Prop} [Decidable c] {g f : Nat → Option α} {r : α} (hc : c) (h : Ev g r) : Ev (fun k => if c then g k else f k) r := Ev.congr (fun k => if_pos hc) h
theorem evNeg {c : Prop} [Decidable c] {g f : Nat → Option α} {r : α} (hc : ¬ c) (h : Ev f r) : Ev (fun k => if c then g k else f k) r := Ev.congr (fun k => if_neg hc) h
theorem evIte {c : Prop} [Decidable c] {g f : Nat → Option α} {r s : α} (h : c → Ev g r) (h' : ¬ c → Ev f s) : Ev (fun k => if c then g k else f k) (if c then r else s) := by
 by_cases hc : c
 ·rw [if_pos hc]; exact evPos hc (h hc)
 ·rw [if_neg hc]; exact evNeg hc (h' hc)
theorem evSome (r : α) : Ev (fun _ => some r) r := Ev.now r
theorem evEq {g : Nat → Option α} {r s : α} (h : Ev g r) (e : r = s) : Ev g s := e ▸ h
/-- A value that needs no rounds. -/
theorem evBindS {x : Option α} {f : Nat → α → Option β} {a : α} {r : β} (h : x = some a) (k : Ev (fun n => f n a) r) : Ev (fun n => x.bind (f n)) r := by subst h; exact k
theorem evConst {x : Option α} {r : α} (h : x = some r) : Ev (fun _ => x) r := by subst h; exact Ev.now r
end

section
variable {α β : Type}
/-- A loop that counts up: from the last place back to the first. -/
theorem evUp {r : α} (n : Nat) (g : Nat → Nat → Option α) (step : ∀ i, i < n → Ev (g (i + 1)) r → Ev (g i) r) (last : Ev (g n) r) : Ev (g 0) r := by
 have key : ∀ d i, i + d = n → Ev (g i) r := by
  intro d
  induction d with
  | zero => intro i hi; rw [show i = n by omega]; exact last
  | succ d ih => intro i hi; exact step i (by omega) (ih (i + 1) (by omega))
 exact key n 0 (by omega)
theorem fillStep (f : α → β) (z : β) (l : List α) (i : Nat) (hi : i < l.length) :
 ((l.take i).map f ++ List.replicate (l.length - i) z).set i (f l[i]) = (l.take (i + 1)).map f ++ List.replicate (l.length - (i + 1)) z := by
 have h1 : ((l.take i).map f).length = i := by simp; omega
 rw [show l.length - i = (l.length - (i + 1)) + 1 by omega, List.replicate_succ, List.set_append_right _ _ (by omega), h1, Nat.sub_self, List.set_cons_zero,
  List.take_succ_eq_append_getElem hi, List.map_append, List.append_assoc]
 rfl
theorem takeSnoc (l : List α) (i : Nat) (hi : i < l.length) : l.take (i + 1) = l.take i ++ [l[i]] := List.take_succ_eq_append_getElem hi
theorem ci (i : Nat) : (i : Int) + 1 = ((i + 1 : Nat) : Int) := by omega
theorem sizeApp (a b : ByteArray) : (a ++ b).size = a.size + b.size := ByteArray.size_append
end

theorem okI64 {n : Int} (h : (Lit.int .i64 n).wf = true) : -9223372036854775808 ≤ n ∧ n ≤ 9223372036854775807 := by
 simp [Lit.wf, IntKind.min, IntKind.max, IntKind.signed, IntKind.bits] at h
 omega
end Go.Proofs.YtdhjolglbcoijaaDoor.Kit

namespace Go.Proofs.YtdhjolglbcoijaaDoor.DigestEq
open Go.RowKit Go.Proofs.YtdhjolglbcoijaaDoorW.PrintWords Go.Proofs.YtdhjolglbcoijaaDoorW.PrintLast Go.Proofs.YtdhjolglbcoijaaDoorW.PrintMore Go.Proofs.YtdhjolglbcoijaaDoor.Kit Go.Proofs.YtdhjolglbcoijaaDoor.PA
open Go.Proofs.YtdhjolglbcoijaaDoor.PH (hs hs_len padS padS_size blocks f4 f4_len padBytes padZ hFirst shaB shaB_len outs strOfNums_size)
set_option linter.unusedVariables false
theorem strApp (a b : List Int) : strOfNums (a ++ b) = strOfNums a ++ strOfNums b := by
 apply ByteArray.ext
 simp [strOfNums]
theorem strBytes (s : ByteArray) : strOfNums (bytesOf s) = s := by
 apply ByteArray.ext
 apply Array.ext'
 simp [strOfNums, bytesOf, Function.comp_def]
theorem hi8 (N : Int) : (List.range 8).map (fun q => N / 2 ^ (8 * (7 - q)) % 256) = f4 (N / 4294967296) ++ f4 N := by
 have h0 : N / 72057594037927936 % 256 = N / 4294967296 / 16777216 % 256 := by omega
 have h1 : N / 281474976710656 % 256 = N / 4294967296 / 65536 % 256 := by omega
 have h2 : N / 1099511627776 % 256 = N / 4294967296 / 256 % 256 := by omega
 simp [List.range, List.range.loop, f4, h0, h1, h2]
theorem padEq (a0 : ByteArray) (hb : a0.size ≤ 1073741824) : impl_PadText.f a0 = some (padS a0) := by
 have e : Int.tmod (wrap64 (64 - (Int.tmod (wrap64 ((a0.size : Int) + 9)) 64))) 64 = (padZ a0.size : Int) := by
  have c1 : Int.tmod ((a0.size : Int) + 9) 64 = ((a0.size : Int) + 9) % 64 := Int.tmod_eq_emod_of_nonneg (by omega)
  rw [w64 (x := (a0.size : Int) + 9) (by omega) (by omega), c1, w64 (by omega) (by omega)]
  have c2 : Int.tmod (64 - ((a0.size : Int) + 9) % 64) 64 = (64 - ((a0.size : Int) + 9) % 64) % 64 := Int.tmod_eq_emod_of_nonneg (by omega)
  rw [c2]
  unfold padZ
  omega
 have hz : padZ a0.size < 64 := by unfold padZ; omega
 have e8 : wrap64 (8 * (a0.size : Int)) = 8 * (a0.size : Int) := w64 (by omega) (by omega)
 unfold impl_PadText.f impl_four.f
 rw [e, e8, if_pos (by omega), if_pos (by omega), if_pos (by omega)]
 simp only [Option.bind_some, Int.toNat_natCast]
 have s1 : (a0 ++ (⟨#[128]⟩ : ByteArray)).size = a0.size + 1 := by rw [ByteArray.size_append]; rfl
 have s2 : (strOfNums (List.replicate (padZ a0.size) 0)).size = padZ a0.size := by rw [strOfNums_size, List.length_replicate]
 have s3 (x : Int) : (strOfNums [x / 16777216 % 256, x / 65536 % 256, x / 256 % 256, x % 256]).size = 4 := by rw [strOfNums_size]; rfl
 rw [if_pos (by rw [s1, s2]; omega), if_pos (by rw [ByteArray.size_append, s1, s2, s3]; omega), if_pos (by rw [ByteArray.size_append, ByteArray.size_append, s1, s2, s3, s3]; omega)]
 unfold padS padBytes
 have c (l : List Int) : strOfNums (128 :: l) = (⟨#[128]⟩ : ByteArray) ++ strOfNums l := strApp [128] l
 rw [hi8, strApp, c, strApp, strApp, strBytes]
 simp only [← ByteArray.append_assoc]
 rfl
theorem half_first : ∀ x ∈ hFirst, 0 ≤ x ∧ x ≤ 4294967295 := by decide
theorem half_sha (l : List Int) (t : ByteArray) (h : l.length = 8) : ∀ x ∈ shaB l t, 0 ≤ x ∧ x ≤ 4294967295 := by
 intro x hx
 unfold PH.shaB PH.outs at hx
 rw [List.drop_of_length_le (by omega), List.append_nil] at hx
 obtain ⟨i, _, rfl⟩ := List.mem_map.1 hx
 constructor <;> omega
theorem half_hs (p : ByteArray) : ∀ j, ∀ x ∈ hs p j, 0 ≤ x ∧ x ≤ 4294967295
 | 0 => half_first
 | j + 1 => half_sha _ _ (hs_len p j)
theorem rdS (l : List Int) (i : Nat) (hi : i < l.length) : rd l (i : Int) = l[i] := by simp [rd, hi]
theorem ev_out (s : List Int) (h : s.length = 8) : Ev (fun k => impl_Digest.l1 k (⟨#[]⟩ : ByteArray) s (s.length : Int) 0) (strOfNums (s.flatMap f4)) := by
 have key := evUp (r := strOfNums (s.flatMap f4)) 8 (fun i k => impl_Digest.l1 k (strOfNums ((s.take i).flatMap f4)) s (s.length : Int) (i : Int)) ?_ ?_
 ·exact key
 ·intro i hi ih
  refine evSucc ?_
  simp only [impl_Digest.l1]
  have hsz : (strOfNums ((s.take i).flatMap f4)).size = 4 * i := by rw [strOfNums_size, f4_len, List.length_take]; omega
  refine evPos (by omega) (evPos (by omega) (evPos (by omega) (evBindS (a := strOfNums (f4 s[i])) (by rw [rdS s i (by omega)]; rfl) (evPos (by rw [hsz, strOfNums_size]; simp [f4]; omega) ?_))))
  rw [w64 (by omega) (by omega), ci, ← strApp]
  have e : (s.take i).flatMap f4 ++ f4 s[i] = (s.take (i + 1)).flatMap f4 := by
   rw [List.take_succ_eq_append_getElem (by omega), List.flatMap_append]; simp
  rw [e]
  exact ih
 ·refine evSucc ?_
  simp only [impl_Digest.l1]
  refine evNeg (by omega) (evEq (Ev.now _) ?_)
  rw [List.take_of_length_le (by omega)]
def dig (a0 : ByteArray) : ByteArray := strOfNums ((hs (padS a0) (blocks a0.size)).flatMap f4)
theorem dig_spec (a0 : ByteArray) (hb : a0.size ≤ 1073741824) : spec_Digest.f a0 = some (dig a0) := by
 unfold spec_Digest.f; rw [if_pos hb]; rfl
theorem dig_impl (a0 : ByteArray) (hb : a0.size ≤ 1073741824) : Ev (fun k => impl_Digest.f k a0) (dig a0) := by
 simp only [impl_Digest.f]
 refine evBindS (padEq a0 hb) (evBindS (a := hFirst) rfl ?_)
 have hp := padS_size a0
 have hn : blocks a0.size ≤ 16777218 := by unfold PH.blocks; omega
 unfold dig
 generalize blocks a0.size = nb at hp hn ⊢
 generalize padS a0 = p at hp ⊢
 have key := evUp (r := strOfNums ((hs p nb).flatMap f4)) nb (fun i k => impl_Digest.l0 k p (hs p i) (64 * (i : Int))) ?_ ?_
 ·exact key
 ·intro i hi ih
  refine evSucc ?_
  simp only [impl_Digest.l0]
  have hw : wrap64 (64 * (i : Int) + 64) = 64 * (i : Int) + 64 := w64 (by omega) (by omega)
  rw [hw]
  refine evPos (by omega) (evPos (by omega) (evPos (by omega) (evPos (by omega) (evBindS (a := hs p (i + 1)) ?_ ?_))))
  ·rw [show (64 * (i : Int)).toNat = 64 * i by omega, show (64 * (i : Int) + 64).toNat = 64 * i + 64 by omega]
   unfold impl_ShaBlock.f
   rw [if_pos ⟨hs_len p i, by rw [ByteArray.size_extract]; omega, half_hs p i⟩]
   rfl
  ·rw [show 64 * (i : Int) + 64 = 64 * ((i + 1 : Nat) : Int) by omega]
   exact ih
 ·refine evSucc ?_
  simp only [impl_Digest.l0]
  exact evNeg (by omega) (ev_out _ (hs_len p nb))
end Go.Proofs.YtdhjolglbcoijaaDoor.DigestEq

namespace Go.Proofs.YtdhjolglbcoijaaDoor.Pure
open Go.RowKit Go.Proofs.YtdhjolglbcoijaaDoor.PA Go.Proofs.YtdhjolglbcoijaaDoorW.PrintWords Go.Proofs.YtdhjolglbcoijaaDoorW.PrintLast Go.Proofs.YtdhjolglbcoijaaDoorW.PrintMore Go.Proofs.YtdhjolglbcoijaaDoor.Kit Go.Proofs.YtdhjolglbcoijaaDoor.PureFnExactReadSegment
set_option linter.unusedVariables false
set_option linter.unusedSimpArgs false
def rng (x lo hi : Int) : Bool := decide (lo ≤ x) && decide (x ≤ hi)
theorem spec_in (x lo hi : Int) : spec_l01In.f x lo hi = some (rng x lo hi) := by
 unfold spec_l01In.f rng
 by_cases h : x ≥ lo
 ·simp [h]
 ·simp [h]
  try omega
theorem impl_in (x lo hi : Int) : impl_within.f x lo hi = some (rng x lo hi) := by
 unfold impl_within.f rng
 by_cases h : x ≥ lo
 ·simp [h]
 ·simp [h]
  try omega
theorem bits_nat (op : BinOp) (k : IntKind) (x y : Int) : Go.bits op k x y = match op with
 | .and => k.wrap ((BitVec.ofInt k.bits x &&& BitVec.ofInt k.bits y).toNat : Int)
 | .or => k.wrap ((BitVec.ofInt k.bits x ||| BitVec.ofInt k.bits y).toNat : Int)
 | .xor => k.wrap ((BitVec.ofInt k.bits x ^^^ BitVec.ofInt k.bits y).toNat : Int)
 | .andNot => k.wrap ((BitVec.ofInt k.bits x &&& ~~~BitVec.ofInt k.bits y).toNat : Int)
 | _ => Go.bits op k x y := by
 cases op <;> rfl
theorem ofInt_nat32 (n : Nat) (h : n < 4294967296) : (BitVec.ofInt 32 (n : Int)).toNat = n := by
 rw [BitVec.toNat_ofInt]; omega
theorem ofInt_nat64 (n : Nat) (h : n < 18446744073709551616) : (BitVec.ofInt 64 (n : Int)).toNat = n := by
 rw [BitVec.toNat_ofInt]; omega
theorem wrap_u32 (x : Int) : IntKind.wrap .u32 x = x % 4294967296 := rfl
theorem wrap_i64 (x : Int) : IntKind.wrap .i64 x = wrap64 x := i64_w x
theorem xor_u32_rng (x y : Int) : 0 ≤ Go.bits .xor .u32 x y ∧ Go.bits .xor .u32 x y < 4294967296 := by
 rw [bits_nat]
 show 0 ≤ IntKind.wrap .u32 _ ∧ IntKind.wrap .u32 _ < _
 rw [wrap_u32]
 omega
theorem and_u32_one (x : Int) (h0 : 0 ≤ x) (h1 : x < 4294967296) : Go.bits .and .u32 x 1 = x % 2 := by
 rw [bits_nat]
 show IntKind.wrap .u32 ((BitVec.ofInt 32 x &&& BitVec.ofInt 32 ((1 : Nat) : Int)).toNat : Int) = _
 obtain ⟨n, rfl⟩ := Int.eq_ofNat_of_zero_le h0
 rw [BitVec.toNat_and, ofInt_nat32 n (by omega), ofInt_nat32 1 (by omega), Nat.and_one_is_mod, wrap_u32]
 omega
theorem var_byte (x : Int) (h0 : 0 ≤ x) (h1 : x ≤ 1000000000) : (Go.bits .or .i64 (Go.bits .and .i64 x 127) 128) % 256 = x % 128 + 128 := by
 obtain ⟨n, rfl⟩ := Int.eq_ofNat_of_zero_le h0
 have e1 : Go.bits .and .i64 (n : Int) 127 = ((n % 128 : Nat) : Int) := by
  rw [bits_nat]
  show IntKind.wrap .i64 ((BitVec.ofInt 64 (n : Int) &&& BitVec.ofInt 64 ((127 : Nat) : Int)).toNat : Int) = _
  rw [BitVec.toNat_and, ofInt_nat64 n (by omega), ofInt_nat64 127 (by omega), wrap_i64]
  have : n &&& 127 = n % 128 := Nat.and_two_pow_sub_one_eq_mod n 7
  rw [this, w64 (by omega) (by omega)]
 rw [e1, bits_nat]
 show IntKind.wrap .i64 ((BitVec.ofInt 64 ((n % 128 : Nat) : Int) ||| BitVec.ofInt 64 ((128 : Nat) : Int)).toNat : Int) % 256 = _
 rw [BitVec.toNat_or, ofInt_nat64 (n % 128) (by omega), ofInt_nat64 128 (by omega), wrap_i64]
 have h : ∀ m : Fin 128, (m.val ||| 128) = m.val + 128 := by decide
 have hm := h ⟨n % 128, by omega⟩
 have e2 : (n % 128 ||| 128) = n % 128 + 128 := hm
 rw [e2, w64 (by omega) (by omega)]
 omega
def varL (n : Nat) : List Int := if h : n ≤ 127 then [(n : Int)] else ((n % 128 + 128 : Nat) : Int) :: varL (n / 128)
 termination_by n
 decreasing_by omega
theorem varL_small (n : Nat) (h : n ≤ 127) : varL n = [(n : Int)] := by rw [varL, dif_pos h]
theorem varL_big (n : Nat) (h : 127 < n) : varL n = ((n % 128 + 128 : Nat) : Int) :: varL (n / 128) := by rw [varL, dif_neg (by omega)]
theorem varL_len (n : Nat) (h : n ≤ 1000000000) : (varL n).length ≤ 5 := by
 have key : ∀ (j n : Nat), n < 128 ^ (j + 1) → (varL n).length ≤ j + 1 := by
  intro j
  induction j with
  | zero => intro n h; rw [varL_small n (by omega)]; simp
  | succ j ih =>
   intro n h
   by_cases hn : n ≤ 127
   ·rw [varL_small n hn]; simp
   ·rw [varL_big n (by omega), List.length_cons]
    have := ih (n / 128) (by rw [Nat.pow_succ] at h; omega)
    omega
 exact key 4 n (by omega)
def varS (n : Int) : ByteArray := strOfNums (varL n.toNat)
theorem varS_size (n : Int) (h : n ≤ 1000000000) : (varS n).size ≤ 5 := by
 unfold varS; rw [strOfNums_size]; exact varL_len _ (by omega)
theorem ev_spec_l01Var (n : Int) (h0 : 0 ≤ n) (h1 : n ≤ 1000000000) : Ev (fun k => spec_l01Var.f k n) (varS n) := by
 have key : ∀ (m : Nat) (acc : List Int), m ≤ 1000000000 → acc.length + m ≤ 2000000000 → Ev (fun k => spec_l01Var.l0 k (m : Int) acc) (strOfNums (acc ++ varL m)) := by
  intro m
  induction m using Nat.strongRecOn with
  | ind m ih =>
   intro acc hm ha
   refine evSucc ?_
   simp only [spec_l01Var.l0]
   have e : Int.tdiv (m : Int) 128 = ((m / 128 : Nat) : Int) := by rw [Int.tdiv_eq_ediv_of_nonneg (by omega)]; omega
   have e2 : Int.tmod (m : Int) 128 = ((m % 128 : Nat) : Int) := by rw [Int.tmod_eq_emod_of_nonneg (by omega)]; omega
   by_cases hb : m ≤ 127
   ·refine evNeg (by omega) (evPos (by omega) ?_)
    rw [varL_small m hb, show (m : Int) % 256 = m by omega]
    exact Ev.now _
   ·refine evPos (by omega) (evPos (by omega) ?_)
    rw [e, e2, w64 (by omega) (by omega), w64 (by omega) (by omega), varL_big m (by omega)]
    have := ih (m / 128) (by omega) (acc ++ [((m % 128 + 128 : Nat) : Int)]) (by omega) (by simp; omega)
    rw [List.append_assoc] at this
    rw [show (((m % 128 : Nat) : Int) + 128) % 256 = ((m % 128 + 128 : Nat) : Int) by omega]
    exact this
 have := key n.toNat [] (by omega) (by simp; omega)
 rw [Int.toNat_of_nonneg h0] at this
 exact this
theorem ev_impl_VarText (n : Int) : Ev (fun k => impl_VarText.f k n) (if rng n 0 1000000000 = true then (varS n, true) else (⟨#[]⟩, false)) := by
 simp only [impl_VarText.f, impl_in, Option.bind_some]
 refine evIte (fun h => ?_) (fun h => Ev.now _)
 have hr : 0 ≤ n ∧ n ≤ 1000000000 := by unfold rng at h; simpa using h
 have key : ∀ (m : Nat) (acc : List Int), m ≤ 1000000000 → acc.length + m ≤ 2000000000 → Ev (fun k => impl_VarText.l0 k (m : Int) acc) (strOfNums (acc ++ varL m), true) := by
  intro m
  induction m using Nat.strongRecOn with
  | ind m ih =>
   intro acc hm ha
   refine evSucc ?_
   simp only [impl_VarText.l0]
   by_cases hb : m ≤ 127
   ·refine evNeg (by omega) (evPos (by omega) ?_)
    rw [varL_small m hb, show (m : Int) % 256 = m by omega]
    exact Ev.now _
   ·refine evPos (by omega) (evPos (by omega) ?_)
    rw [var_byte m (by omega) (by omega), varL_big m (by omega)]
    have := ih (m / 128) (by omega) (acc ++ [((m % 128 + 128 : Nat) : Int)]) (by omega) (by simp; omega)
    rw [List.append_assoc] at this
    rw [show (m : Int) / 128 = ((m / 128 : Nat) : Int) by omega, show (m : Int) % 128 + 128 = ((m % 128 + 128 : Nat) : Int) by omega]
    exact this
 have := key n.toNat [] (by omega) (by simp; omega)
 rw [Int.toNat_of_nonneg hr.1] at this
 exact this
theorem ev_impl_VarText_ok (n : Int) (h0 : 0 ≤ n) (h1 : n ≤ 1000000000) : Ev (fun k => impl_VarText.f k n) (varS n, true) :=
 evEq (ev_impl_VarText n) (if_pos (by unfold rng; simp [h0, h1]))
def itemB (a b c d : Int) : Bool := if a = 1 then rng b 0 4294967295 && (rng c 0 4294967295 && d == 0) else if a = 2 then rng d 1 1000000000 && (b == 0 && c == 0) else false
theorem spec_itemB (a b c d : Int) : spec_ItemOk.f a b c d = some (itemB a b c d) := by
 unfold spec_ItemOk.f itemB
 simp only [spec_HalfOk.f, spec_in, Option.bind_some]
 by_cases h1 : a = 1
 ·rw [if_pos h1, if_pos h1]
  cases rng b 0 4294967295 <;> cases rng c 0 4294967295 <;> simp
 ·rw [if_neg h1, if_neg h1]
  by_cases h2 : a = 2
  ·rw [if_pos h2, if_pos h2]
   by_cases hb : b = 0
   ·cases rng d 1 1000000000 <;> simp [hb]
   ·cases rng d 1 1000000000 <;> simp [hb]
  ·rw [if_neg h2, if_neg h2]
theorem impl_itemB (a b c d : Int) : impl_ItemOk.f a b c d = some (itemB a b c d) := by
 unfold impl_ItemOk.f itemB
 simp only [impl_HalfOk.f, impl_in, Option.bind_some]
 by_cases h1 : a = 1
 ·rw [if_pos h1, if_pos h1]
  cases rng b 0 4294967295 <;> cases rng c 0 4294967295 <;> simp
 ·rw [if_neg h1, if_neg h1]
  by_cases h2 : a = 2
  ·rw [if_pos h2, if_pos h2]
   by_cases hb : b = 0
   ·cases rng d 1 1000000000 <;> simp [hb]
   ·cases rng d 1 1000000000 <;> simp [hb]
  ·rw [if_neg h2, if_neg h2]
def frameB (a b c d e f g : Int) : Bool := rng b 0 2 && (rng c 1 1000000000 && (if a = 1 then itemB d e f g else if a = 2 then (d == 0 && (e == 0 && (f == 0 && (g == 0)))) else false))
theorem ev_spec_FrameOk (a b c d e f g : Int) : Ev (fun k => spec_FrameOk.f k a b c d e f g) (frameB a b c d e f g) := by
 simp only [spec_FrameOk.f, spec_in, Option.bind_some]
 unfold frameB
 cases rng b 0 2
 ·refine evNeg (by simp) (evSucc ?_)
  simp only [spec_FrameOk.j0, Bool.false_and]
  exact evPos (by simp) (Ev.now _)
 ·refine evPos rfl (evSucc ?_)
  simp only [spec_FrameOk.j0, spec_itemB, Option.bind_some, Bool.true_and]
  cases rng c 1 1000000000
  ·exact evPos (by decide) (Ev.now _)
  ·refine evNeg (by simp) ?_
   simp only [Bool.true_and]
   exact evIte (fun _ => Ev.now _) (fun _ => evIte (fun _ => Ev.now _) (fun _ => Ev.now _))
theorem ev_impl_FrameOk (a b c d e f g : Int) : Ev (fun k => impl_FrameOk.f k a b c d e f g) (frameB a b c d e f g) := by
 simp only [impl_FrameOk.f, impl_isPid.f, impl_in, Option.bind_some]
 unfold frameB
 cases rng b 0 2
 ·refine evNeg (by simp) (evSucc ?_)
  simp only [impl_FrameOk.j0, Bool.false_and]
  exact evPos (by simp) (Ev.now _)
 ·refine evPos rfl (evSucc ?_)
  simp only [impl_FrameOk.j0, impl_itemB, Option.bind_some, Bool.true_and]
  cases rng c 1 1000000000
  ·exact evPos (by decide) (Ev.now _)
  ·refine evNeg (by simp) ?_
   simp only [Bool.true_and]
   exact evIte (fun _ => Ev.now _) (fun _ => evIte (fun _ => Ev.now _) (fun _ => Ev.now _))
theorem itemB_count {a b c d : Int} (h : itemB a b c d = true) : 0 ≤ d ∧ d ≤ 1000000000 := by
 unfold itemB rng at h
 split at h
 ·simp at h; omega
 ·split at h
  ·simp at h; omega
  ·simp at h
theorem frameB_facts {a b c d e f g : Int} (h : frameB a b c d e f g = true) : (0 ≤ b ∧ b ≤ 2) ∧ (1 ≤ c ∧ c ≤ 1000000000) ∧ (0 ≤ g ∧ g ≤ 1000000000) ∧ (a = 1 ∨ a = 2) := by
 unfold frameB at h
 simp only [Bool.and_eq_true] at h
 obtain ⟨h1, h2, h3⟩ := h
 unfold rng at h1 h2
 simp at h1 h2
 refine ⟨h1, h2, ?_⟩
 split at h3
 ·rename_i ha
  exact ⟨itemB_count h3, Or.inl ha⟩
 ·split at h3
  ·rename_i ha
   simp at h3
   exact ⟨by omega, Or.inr ha⟩
  ·simp at h3
def sumBit (x : Int) : Int := if x % 2 = 1 then Go.bits .xor .u32 (x / 2) 3558460437 else x / 2
def sumByte (x b : Int) : Int := sumBit (sumBit (sumBit (sumBit (sumBit (sumBit (sumBit (sumBit (Go.bits .xor .u32 x b))))))))
def sumAll (x : Int) (s : ByteArray) : Nat → Int
 | 0 => x
 | i + 1 => sumByte (sumAll x s i) (bt s i)
theorem sumBit_rng (x : Int) (h : 0 ≤ x ∧ x < 4294967296) : 0 ≤ sumBit x ∧ sumBit x < 4294967296 := by
 unfold sumBit
 split
 ·exact xor_u32_rng _ _
 ·omega
theorem sumByte_rng (x b : Int) : 0 ≤ sumByte x b ∧ sumByte x b < 4294967296 := by
 unfold sumByte
 repeat (first | exact xor_u32_rng _ _ | apply sumBit_rng)
theorem sumAll_rng (x : Int) (s : ByteArray) (h : 0 ≤ x ∧ x < 4294967296) : ∀ i, 0 ≤ sumAll x s i ∧ sumAll x s i < 4294967296
 | 0 => h
 | _ + 1 => sumByte_rng _ _
theorem sum_impl_step (x : Int) (s : ByteArray) (i j r : Int) (h : 0 ≤ x ∧ x < 4294967296) (hj : j < 8 ∧ 0 ≤ j) (next : Ev (fun k => impl_SumMore.l1 k (sumBit x) s i (j + 1)) r) : Ev (fun k => impl_SumMore.l1 k x s i j) r := by
 refine evSucc ?_
 simp only [impl_SumMore.l1]
 refine evPos hj.1 ?_
 rw [and_u32_one x h.1 h.2, w64 (by omega) (by omega)]
 unfold sumBit at next
 by_cases hx : x % 2 = 1
 ·rw [if_pos hx] at next; exact evPos hx next
 ·rw [if_neg hx] at next; exact evNeg hx next
theorem sum_spec_step (x : Int) (s : ByteArray) (i j r : Int) (h : 0 ≤ x ∧ x < 4294967296) (hj : j < 8 ∧ 0 ≤ j) (next : Ev (fun k => spec_SumMore.l1 k (sumBit x) s i (j + 1)) r) : Ev (fun k => spec_SumMore.l1 k x s i j) r := by
 refine evSucc ?_
 simp only [spec_SumMore.l1]
 refine evPos hj.1 ?_
 rw [Int.tmod_eq_emod_of_nonneg h.1, Int.tdiv_eq_ediv_of_nonneg h.1, w64 (by omega) (by omega), show x / 2 % 4294967296 = x / 2 by omega]
 unfold sumBit at next
 by_cases hx : x % 2 = 1
 ·rw [if_pos hx] at next; exact evPos hx next
 ·rw [if_neg hx] at next; exact evNeg hx next
theorem ev_impl_SumMore (x : Int) (s : ByteArray) (h : 0 ≤ x ∧ x < 4294967296) (hs : s.size ≤ 140737488351232) : Ev (fun k => impl_SumMore.f k x s) (sumAll x s s.size) := by
 have key := evUp (r := sumAll x s s.size) s.size (fun i k => impl_SumMore.l0 k (sumAll x s i) s (i : Int)) ?_ ?_
 ·exact key
 ·intro i hi ih
  refine evSucc ?_
  simp only [impl_SumMore.l0]
  have hb := bt_range s (i : Int)
  refine evPos (by omega) (evPos (by omega) ?_)
  rw [show bt s (i : Int) % 4294967296 = bt s (i : Int) by omega]
  iterate 8 (refine sum_impl_step _ _ _ _ _ (by repeat (first | exact xor_u32_rng _ _ | apply sumBit_rng)) (by decide) ?_)
  refine evSucc ?_
  simp only [impl_SumMore.l1]
  refine evNeg (by decide) ?_
  rw [w64 (by omega) (by omega), ci]
  exact ih
 ·refine evSucc ?_
  simp only [impl_SumMore.l0]
  exact evNeg (by omega) (Ev.now _)
theorem ev_spec_SumMore (x : Int) (s : ByteArray) (h : 0 ≤ x ∧ x < 4294967296) (hs : s.size ≤ 140737488351232) : Ev (fun k => spec_SumMore.f k x s) (sumAll x s s.size) := by
 have key := evUp (r := sumAll x s s.size) s.size (fun i k => spec_SumMore.l0 k (sumAll x s i) s (i : Int)) ?_ ?_
 ·exact key
 ·intro i hi ih
  refine evSucc ?_
  simp only [spec_SumMore.l0]
  have hb := bt_range s (i : Int)
  refine evPos (by omega) (evPos (by omega) ?_)
  rw [show bt s (i : Int) % 4294967296 = bt s (i : Int) by omega]
  iterate 8 (refine sum_spec_step _ _ _ _ _ (by repeat (first | exact xor_u32_rng _ _ | apply sumBit_rng)) (by decide) ?_)
  refine evSucc ?_
  simp only [spec_SumMore.l1]
  refine evNeg (by decide) ?_
  rw [w64 (by omega) (by omega), ci]
  exact ih
 ·refine evSucc ?_
  simp only [spec_SumMore.l0]
  exact evNeg (by omega) (Ev.now _)
def sumS (s : ByteArray) : Int := sumAll 4294967295 s s.size
theorem sumS_rng (s : ByteArray) : 0 ≤ sumS s ∧ sumS s < 4294967296 := sumAll_rng _ _ (by omega) _
def four4 (n : Int) : ByteArray := strOfNums [(n / 16777216) % 256, (n / 65536) % 256, (n / 256) % 256, n % 256]
theorem four4_size (n : Int) : (four4 n).size = 4 := by simp [four4, strOfNums_size]
theorem impl_four4 (n : Int) : impl_four.f n = some (four4 n) := rfl
theorem spec_four4 (n : Int) : spec_l06Four.f n = some (four4 n) := rfl
theorem spec_four2 (n : Int) : spec_l02Four.f n = some (four4 n) := rfl
def sealB (s : ByteArray) : ByteArray × Bool := if s.size ≤ 20000 then (s ++ four4 (sumS s), true) else (⟨#[]⟩, false)
theorem ev_impl_Sealed (s : ByteArray) (hs : s.size ≤ 140737488351232) : Ev (fun k => impl_Sealed.f k s) (sealB s) := by
 simp only [impl_Sealed.f, impl_SumOf.f]
 unfold sealB
 by_cases h : s.size ≤ 20000
 ·have hr := sumS_rng s
  rw [if_pos h]
  refine evNeg (by omega) (Ev.bind (Ev.bind (ev_impl_SumMore _ s (by omega) hs) (Ev.now _)) ?_)
  rw [show sumAll 4294967295 s s.size = sumS s from rfl, w64 (by omega) (by omega)]
  simp only [impl_four4, Option.bind_some]
  exact evPos (by rw [four4_size]; omega) (Ev.now _)
 ·rw [if_neg h]
  exact evPos (by omega) (Ev.now _)
theorem ev_spec_Sealed (s : ByteArray) (hs : s.size ≤ 140737488351232) : Ev (fun k => spec_Sealed.f k s) (sealB s) := by
 simp only [spec_Sealed.f, spec_SumOf.f]
 unfold sealB
 by_cases h : s.size ≤ 20000
 ·rw [if_pos h]
  refine evNeg (by omega) (Ev.bind (Ev.bind (ev_spec_SumMore _ s (by omega) hs) (Ev.now _)) ?_)
  rw [show sumAll 4294967295 s s.size = sumS s from rfl]
  simp only [spec_four2, Option.bind_some]
  exact evPos (by rw [four4_size]; omega) (Ev.now _)
 ·rw [if_neg h]
  exact evPos (by omega) (Ev.now _)
def frameRaw (a b c d e f g : Int) : ByteArray := ((((strOfNums [a % 256, b % 256] ++ varS c) ++ strOfNums [d % 256]) ++ four4 e) ++ four4 f) ++ varS g
theorem frameRaw_size {a b c d e f g : Int} (hc : c ≤ 1000000000) (hg : g ≤ 1000000000) : (frameRaw a b c d e f g).size ≤ 21 := by
 have h1 := varS_size c hc
 have h2 := varS_size g hg
 unfold frameRaw
 simp only [sizeApp, strOfNums_size, four4_size, List.length_cons, List.length_nil]
 omega
def frameS (a b c d e f g : Int) : ByteArray × Bool := if frameB a b c d e f g = true then (frameRaw a b c d e f g ++ four4 (sumS (frameRaw a b c d e f g)), true) else (⟨#[]⟩, false)
theorem frameS_size (a b c d e f g : Int) : (frameS a b c d e f g).1.size ≤ 25 := by
 unfold frameS
 split
 ·rename_i h
  obtain ⟨_, ⟨_, h2⟩, ⟨_, h3⟩, _⟩ := frameB_facts h
  have := frameRaw_size (a := a) (b := b) (d := d) (e := e) (f := f) h2 h3
  rw [sizeApp, four4_size]
  omega
 ·decide
theorem ev_spec_FrameText (a b c d e f g : Int) : Ev (fun k => spec_FrameText.f k a b c d e f g) (frameS a b c d e f g) := by
 simp only [spec_FrameText.f]
 refine Ev.bind (ev_spec_FrameOk a b c d e f g) ?_
 unfold frameS
 by_cases h : frameB a b c d e f g = true
 ·obtain ⟨_, hc, hg, _⟩ := frameB_facts h
  have s1 := varS_size c hc.2
  have s2 := varS_size g hg.2
  have hr := frameRaw_size (a := a) (b := b) (d := d) (e := e) (f := f) hc.2 hg.2
  have hsz2 (x y : Int) : (strOfNums [x, y]).size = 2 := by rw [strOfNums_size]; rfl
  have hsz1 (x : Int) : (strOfNums [x]).size = 1 := by rw [strOfNums_size]; rfl
  rw [if_pos h]
  refine evPos h ?_
  simp only [Option.bind_some, spec_four4]
  refine Ev.bind (ev_spec_l01Var c (by omega) hc.2) (evPos (by rw [hsz2]; omega) (evPos (by simp only [sizeApp, hsz2, hsz1]; omega) (evPos (by simp only [sizeApp, hsz2, hsz1, four4_size]; omega) (evPos (by simp only [sizeApp, hsz2, hsz1, four4_size]; omega) ?_))))
  refine Ev.bind (ev_spec_l01Var g (by omega) hg.2) (evPos (by simp only [sizeApp, hsz2, hsz1, four4_size]; omega) ?_)
  refine Ev.bind (ev_spec_Sealed (frameRaw a b c d e f g) (by omega)) (evEq (Ev.now _) ?_)
  unfold sealB
  rw [if_pos (by omega)]
 ·rw [if_neg h]
  exact evNeg h (Ev.now _)
theorem ev_impl_FrameText (a b c d e f g : Int) : Ev (fun k => impl_FrameText.f k a b c d e f g) (frameS a b c d e f g) := by
 simp only [impl_FrameText.f]
 refine Ev.bind (ev_impl_FrameOk a b c d e f g) ?_
 unfold frameS
 by_cases h : frameB a b c d e f g = true
 ·obtain ⟨_, hc, hg, _⟩ := frameB_facts h
  have s1 := varS_size c hc.2
  have s2 := varS_size g hg.2
  have hr := frameRaw_size (a := a) (b := b) (d := d) (e := e) (f := f) hc.2 hg.2
  have hsz2 (x y : Int) : (strOfNums [x, y]).size = 2 := by rw [strOfNums_size]; rfl
  have hsz1 (x : Int) : (strOfNums [x]).size = 1 := by rw [strOfNums_size]; rfl
  rw [if_pos h]
  refine evPos h ?_
  refine Ev.bind (ev_impl_VarText_ok c (by omega) hc.2) (Ev.bind (ev_impl_VarText_ok g (by omega) hg.2) ?_)
  simp only [Option.bind_some, impl_four4]
  refine evPos (by rw [hsz2]; omega) (evPos (by simp only [sizeApp, hsz2, hsz1]; omega) (evPos (by simp only [sizeApp, hsz2, hsz1, four4_size]; omega) (evPos (by simp only [sizeApp, hsz2, hsz1, four4_size]; omega) (evPos (by simp only [sizeApp, hsz2, hsz1, four4_size]; omega) ?_))))
  refine Ev.bind (ev_impl_Sealed (frameRaw a b c d e f g) (by omega)) (evEq (Ev.now _) ?_)
  unfold sealB
  rw [if_pos (by omega)]
 ·rw [if_neg h]
  exact evNeg h (Ev.now _)
def entryS (b c d e f g : Int) : ByteArray := (frameS 1 b c d e f g).1
theorem entryS_size (b c d e f g : Int) : (entryS b c d e f g).size ≤ 25 := frameS_size 1 b c d e f g
theorem ev_spec_EntryText (b c d e f g : Int) : Ev (fun k => spec_EntryText.f k b c d e f g) (entryS b c d e f g) := by
 simp only [spec_EntryText.f]
 exact Ev.bind (ev_spec_FrameText 1 b c d e f g) (Ev.now _)
theorem ev_impl_EntryText (b c d e f g : Int) : Ev (fun k => impl_EntryText.f k b c d e f g) (entryS b c d e f g) := by
 simp only [impl_EntryText.f]
 exact Ev.bind (ev_impl_FrameText 1 b c d e f g) (Ev.now _)
open DigestEq (dig dig_spec dig_impl)
theorem rdE (l : List S70) (i : Nat) (hi : i < l.length) : rd_T70 l (i : Int) = l[i] := by simp [rd_T70, hi]
theorem eqEntryRefl (a b c d e f : Int) : laws_eqEntry.f a b c d e f a b c d e f = some true := by simp [laws_eqEntry.f, laws_eqItem.f]
theorem ev_eqEntryS (l : List S70) (hl : l.length ≤ 1048576) : Ev (fun k => laws_eqEntryS.f k l l) true := by
 have key := evUp (r := true) l.length (fun i k => laws_eqEntryS.l0 k l l (i : Int)) ?_ ?_
 ·refine Ev.congr (fun k => ?_) key
  unfold laws_eqEntryS.f
  rw [if_pos rfl]
  rfl
 ·intro i hi ih
  refine evSucc ?_
  simp only [laws_eqEntryS.l0]
  refine evPos (by omega) (evPos (by omega) (evPos (by omega) ?_))
  simp only [eqEntryRefl, Option.bind_some, if_true]
  rw [w64 (by omega) (by omega), ci]
  exact ih
 ·refine evSucc ?_
  simp only [laws_eqEntryS.l0]
  exact evNeg (by omega) (Ev.now _)
theorem dig_size (s : ByteArray) : (dig s).size = 32 := by
 unfold DigestEq.dig
 rw [strOfNums_size, PH.f4_len, PH.hs_len]
def entryT (x : S70) : ByteArray := entryS x.f0 x.f1 x.f2.f0 x.f2.f1 x.f2.f2 x.f2.f3
theorem entryT_size (x : S70) : (entryT x).size ≤ 25 := entryS_size _ _ _ _ _ _
def headStep (h : ByteArray) (x : S70) : ByteArray := dig (h ++ entryT x)
def headS (h : ByteArray) (l : List S70) : ByteArray := l.foldl headStep h
theorem headS_size (h : ByteArray) (l : List S70) : (headS h l).size ≤ h.size + 32 := by
 rcases List.eq_nil_or_concat l with rfl | ⟨l', x, rfl⟩
 ·exact Nat.le_add_right _ _
 ·unfold headS
  rw [List.concat_eq_append, List.foldl_append]
  show (dig _).size ≤ _
  rw [dig_size]; omega
theorem headS_step (h : ByteArray) (l : List S70) (i : Nat) (hi : i < l.length) : headS h (l.take (i + 1)) = dig (headS h (l.take i) ++ entryT l[i]) := by
 unfold headS
 rw [takeSnoc l i hi, List.foldl_append]
 rfl
theorem ev_spec_HeadFrom (h : ByteArray) (l : List S70) (hh : h.size ≤ 16777216) (hl : l.length ≤ 16777216) : Ev (fun k => spec_HeadFrom.f k h l) (headS h l) := by
 have key := evUp (r := headS h l) l.length (fun i k => spec_HeadFrom.l0 k l (headS h (l.take i)) (i : Int)) ?_ ?_
 ·exact key
 ·intro i hi ih
  refine evSucc ?_
  simp only [spec_HeadFrom.l0]
  have hs := headS_size h (l.take i)
  have he := entryT_size l[i]
  rw [rdE l i hi, w64 (by omega) (by omega), ci]
  refine evPos (by omega) (evPos (by omega) (Ev.bind (ev_spec_EntryText _ _ _ _ _ _) (evPos ?_ ?_)))
  ·show _ + (entryT l[i]).size ≤ _
   omega
  refine evBindS (dig_spec _ (by rw [sizeApp]; show _ + (entryT l[i]).size ≤ _; omega)) ?_
  rw [headS_step h l i hi] at ih
  exact ih
 ·refine evSucc ?_
  simp only [spec_HeadFrom.l0]
  refine evNeg (by omega) ?_
  rw [List.take_length]
  exact Ev.now _
theorem ev_impl_HeadFrom (h : ByteArray) (l : List S70) (hh : h.size ≤ 16777216) (hl : l.length ≤ 16777216) : Ev (fun k => impl_HeadFrom.f k h l) (headS h l) := by
 have key := evUp (r := headS h l) l.length (fun i k => impl_HeadFrom.l0 k (headS h (l.take i)) l (l.length : Int) (i : Int)) ?_ ?_
 ·exact key
 ·intro i hi ih
  refine evSucc ?_
  simp only [impl_HeadFrom.l0]
  have hs := headS_size h (l.take i)
  have he := entryT_size l[i]
  rw [rdE l i hi, w64 (by omega) (by omega), ci]
  refine evPos (by omega) (evPos (by omega) (evPos (by omega) (Ev.bind (ev_impl_EntryText _ _ _ _ _ _) (evPos ?_ ?_))))
  ·show _ + (entryT l[i]).size ≤ _
   omega
  refine Ev.bind (dig_impl _ (by rw [sizeApp]; show _ + (entryT l[i]).size ≤ _; omega)) ?_
  rw [headS_step h l i hi] at ih
  exact ih
 ·refine evSucc ?_
  simp only [impl_HeadFrom.l0]
  refine evNeg (by omega) ?_
  rw [List.take_length]
  exact Ev.now _
theorem evUpP {α : Type} {r : α} (n : Nat) (P : Nat → Prop) (g : Nat → Nat → Option α) (h0 : P 0) (step : ∀ i, i < n → P i → (P (i + 1) → Ev (g (i + 1)) r) → Ev (g i) r) (last : P n → Ev (g n) r) : Ev (g 0) r := by
 have key : ∀ d i, i + d = n → P i → Ev (g i) r := by
  intro d
  induction d with
  | zero => intro i hi hp; rw [show i = n by omega] at hp ⊢; exact last hp
  | succ d ih => intro i hi hp; exact step i (by omega) hp (fun hp' => ih (i + 1) (by omega) hp')
 exact key n 0 (by omega) h0
theorem sizeData (s : ByteArray) : s.size = s.data.toList.length := by
 show s.data.size = _
 rw [Array.length_toList]
theorem toList_loop (bs : ByteArray) : ∀ (d i : Nat) (r : List UInt8), i + d = bs.size → ByteArray.toList.loop bs i r = r.reverse ++ bs.data.toList.drop i := by
 have hsz := sizeData bs
 intro d
 induction d with
 | zero =>
  intro i r h
  rw [ByteArray.toList.loop, if_neg (by omega), List.drop_of_length_le (by omega)]
  simp
 | succ d ih =>
  intro i r h
  rw [ByteArray.toList.loop, if_pos (by omega), ih (i + 1) _ (by omega)]
  have hi : i < bs.data.toList.length := by omega
  rw [List.drop_eq_getElem_cons hi]
  have hb : i < bs.data.size := by rw [← Array.length_toList]; exact hi
  have hg : bs.get! i = bs.data[i] := by
   show bs.data[i]! = _
   exact getElem!_pos bs.data i hb
  rw [List.reverse_cons, List.append_assoc, hg]
  simp
theorem toList_data (bs : ByteArray) : bs.toList = bs.data.toList := by
 unfold ByteArray.toList
 rw [toList_loop bs bs.size 0 [] (by omega)]
 simp
theorem toList_inj {a b : ByteArray} (h : a.toList = b.toList) : a = b := by
 rw [toList_data, toList_data] at h
 exact ByteArray.ext (Array.ext' h)
theorem toList_iff {a b : ByteArray} : a.toList = b.toList ↔ a = b := ⟨toList_inj, fun h => by rw [h]⟩
theorem toList_nil {a : ByteArray} : a.toList = ([] : List UInt8) ↔ a.size = 0 := by
 rw [toList_data, sizeData]
 exact List.length_eq_zero_iff.symm
def okE (x : S70) : Bool := frameB 1 x.f0 x.f1 x.f2.f0 x.f2.f1 x.f2.f2 x.f2.f3
theorem entryT_no (x : S70) (h : okE x = false) : entryT x = ⟨#[]⟩ := by
 unfold okE at h
 unfold entryT entryS frameS
 rw [h]
 rfl
theorem entryT_yes (x : S70) (h : okE x = true) : 4 ≤ (entryT x).size := by
 unfold okE at h
 unfold entryT entryS frameS
 rw [if_pos h]
 show 4 ≤ (_ ++ four4 _).size
 rw [sizeApp, four4_size]
 omega
theorem entryT_nil (x : S70) : (entryT x).toList = ([] : List UInt8) ↔ okE x = false := by
 rw [toList_nil]
 constructor
 ·intro h
  cases hx : okE x
  ·rfl
  ·have := entryT_yes x hx
   omega
 ·intro h
  rw [entryT_no x h]
  rfl
def logStep (s : ByteArray) (x : S70) : ByteArray := (s ++ varS ((entryT x).size : Int)) ++ entryT x
def logRaw (l : List S70) : ByteArray := l.foldl logStep ⟨#[]⟩
theorem logRaw_step (l : List S70) (i : Nat) (hi : i < l.length) : logRaw (l.take (i + 1)) = (logRaw (l.take i) ++ varS ((entryT l[i]).size : Int)) ++ entryT l[i] := by
 unfold logRaw
 rw [takeSnoc l i hi, List.foldl_append]
 rfl
theorem logRaw_snoc (l : List S70) (x : S70) : logRaw (l ++ [x]) = (logRaw l ++ varS ((entryT x).size : Int)) ++ entryT x := by
 unfold logRaw
 rw [List.foldl_append]
 rfl
theorem logRaw_size (l : List S70) : (logRaw l).size ≤ 30 * l.length := by
 have key : ∀ (l : List S70) (s : ByteArray), (l.foldl logStep s).size ≤ s.size + 30 * l.length := by
  intro l
  induction l with
  | nil => intro s; simp
  | cons x l ih =>
   intro s
   have h1 := ih (logStep s x)
   have h2 := entryT_size x
   have h3 := varS_size ((entryT x).size : Int) (by omega)
   rw [List.foldl_cons, List.length_cons]
   have h4 : (logStep s x).size ≤ s.size + 30 := by unfold logStep; rw [sizeApp, sizeApp]; omega
   omega
 have h := key l ⟨#[]⟩
 have h0 : (⟨#[]⟩ : ByteArray).size = 0 := rfl
 unfold logRaw
 omega
def logB (l : List S70) : ByteArray × Bool := if l.length ≤ 200 ∧ l.all okE = true then (logRaw l, true) else (⟨#[]⟩, false)
theorem allSnoc (l : List S70) (i : Nat) (hi : i < l.length) : (l.take (i + 1)).all okE = ((l.take i).all okE && okE l[i]) := by
 rw [takeSnoc l i hi, List.all_append]
 simp
theorem notAll (l : List S70) (i : Nat) (hi : i < l.length) (ho : okE l[i] = false) : ¬ l.all okE = true := fun z => by
 rw [List.all_eq_true] at z
 have := z _ (List.getElem_mem hi)
 rw [ho] at this
 cases this
def segB (a : Int) (b : ByteArray) (l : List S70) (d : ByteArray) : Bool :=
 if 0 ≤ a ∧ a ≤ 200 ∧ b.size = 32 ∧ 1 ≤ l.length ∧ l.length ≤ 200 ∧ l.all okE = true then d.toList == (headS b l).toList else false
theorem ev_spec_SegmentOk (a : Int) (b : ByteArray) (l : List S70) (d : ByteArray) : Ev (fun k => spec_SegmentOk.f k a b l d) (segB a b l d) := by
 have no : ∀ x, x = false → Ev (fun k => spec_SegmentOk.j0 k true a b l d) x := fun x hx => by
  subst hx
  refine evSucc ?_
  simp only [spec_SegmentOk.j0]
  exact evPos (by simp) (Ev.now _)
 simp only [spec_SegmentOk.f, spec_in, Option.bind_some]
 by_cases h1 : 0 ≤ a ∧ a ≤ 200
 ·rw [show rng a 0 200 = true by unfold rng; simp [h1]]
  refine evPos rfl ?_
  by_cases h2 : b.size = 32
  ·refine evPos (by omega) ?_
   by_cases h3 : 1 ≤ l.length ∧ l.length ≤ 200
   ·rw [show rng (l.length : Int) 1 200 = true by unfold rng; simp; omega]
    refine evSucc ?_
    simp only [spec_SegmentOk.j0]
    refine evNeg (by simp) ?_
    refine evUpP l.length (fun i => (l.take i).all okE = true) (fun i k => spec_SegmentOk.l0 k (i : Int) a b l d) rfl ?_ ?_
    ·intro i hi hp ih
     refine evSucc ?_
     simp only [spec_SegmentOk.l0]
     rw [rdE l i hi, w64 (by omega) (by omega), ci]
     refine evPos (by omega) (evPos (by omega) (Ev.bind (ev_spec_EntryText _ _ _ _ _ _) ?_))
     show Ev (fun k => if (entryT l[i]).toList = ([] : List UInt8) then _ else _) _
     cases ho : okE l[i]
     ·refine evPos ((entryT_nil _).2 ho) (evEq (Ev.now _) ?_)
      unfold segB
      rw [if_neg (fun z => notAll l i hi ho z.2.2.2.2.2)]
     ·exact evNeg (fun z => by rw [(entryT_nil _).1 z] at ho; cases ho) (ih (by rw [allSnoc l i hi, hp, ho]; rfl))
    ·intro hp
     refine evSucc ?_
     simp only [spec_SegmentOk.l0]
     rw [List.take_length] at hp
     unfold segB
     rw [if_pos ⟨h1.1, h1.2, h2, h3.1, h3.2, hp⟩]
     exact evNeg (by omega) (Ev.bind (ev_spec_HeadFrom b l (by omega) (by omega)) (Ev.now _))
   ·rw [show rng (l.length : Int) 1 200 = false by unfold rng; simp; omega]
    exact no _ (by unfold segB; rw [if_neg (by omega)])
  ·exact evNeg (by omega) (no _ (by unfold segB; rw [if_neg (fun z => h2 z.2.2.1)]))
 ·rw [show rng a 0 200 = false by unfold rng; simp; omega]
  exact evNeg (by simp) (no _ (by unfold segB; rw [if_neg (fun z => h1 ⟨z.1, z.2.1⟩)]))
theorem ev_impl_SegmentOk (a : Int) (b : ByteArray) (l : List S70) (d : ByteArray) : Ev (fun k => impl_SegmentOk.f k a b l d) (segB a b l d) := by
 have no : ∀ x, x = false → Ev (fun k => impl_SegmentOk.j0 k true a b l d) x := fun x hx => by
  subst hx
  refine evSucc ?_
  simp only [impl_SegmentOk.j0]
  exact evPos (by simp) (Ev.now _)
 simp only [impl_SegmentOk.f, impl_in, Option.bind_some]
 by_cases h1 : 0 ≤ a ∧ a ≤ 200
 ·rw [show rng a 0 200 = true by unfold rng; simp [h1]]
  refine evPos rfl ?_
  by_cases h2 : b.size = 32
  ·refine evPos (by omega) ?_
   by_cases h3 : 1 ≤ l.length ∧ l.length ≤ 200
   ·rw [show rng (l.length : Int) 1 200 = true by unfold rng; simp; omega]
    refine evSucc ?_
    simp only [impl_SegmentOk.j0]
    refine evNeg (by simp) ?_
    refine evUpP l.length (fun i => (l.take i).all okE = true) (fun i k => impl_SegmentOk.l0 k l (l.length : Int) (i : Int) a b l d) rfl ?_ ?_
    ·intro i hi hp ih
     refine evSucc ?_
     simp only [impl_SegmentOk.l0]
     rw [rdE l i hi, w64 (by omega) (by omega), ci]
     refine evPos (by omega) (evPos (by omega) (evPos (by omega) (Ev.bind (ev_impl_EntryText _ _ _ _ _ _) ?_)))
     show Ev (fun k => if (entryT l[i]).toList = ([] : List UInt8) then _ else _) _
     cases ho : okE l[i]
     ·refine evPos ((entryT_nil _).2 ho) (evEq (Ev.now _) ?_)
      unfold segB
      rw [if_neg (fun z => notAll l i hi ho z.2.2.2.2.2)]
     ·exact evNeg (fun z => by rw [(entryT_nil _).1 z] at ho; cases ho) (ih (by rw [allSnoc l i hi, hp, ho]; rfl))
    ·intro hp
     refine evSucc ?_
     simp only [impl_SegmentOk.l0]
     rw [List.take_length] at hp
     unfold segB
     rw [if_pos ⟨h1.1, h1.2, h2, h3.1, h3.2, hp⟩]
     exact evNeg (by omega) (Ev.bind (ev_impl_HeadFrom b l (by omega) (by omega)) (Ev.now _))
   ·rw [show rng (l.length : Int) 1 200 = false by unfold rng; simp; omega]
    exact no _ (by unfold segB; rw [if_neg (by omega)])
  ·exact evNeg (by omega) (no _ (by unfold segB; rw [if_neg (fun z => h2 z.2.2.1)]))
 ·rw [show rng a 0 200 = false by unfold rng; simp; omega]
  exact evNeg (by simp) (no _ (by unfold segB; rw [if_neg (fun z => h1 ⟨z.1, z.2.1⟩)]))
theorem ev_spec_LogText (l : List S70) : Ev (fun k => spec_LogText.f k l) (logB l) := by
 simp only [spec_LogText.f]
 unfold logB
 by_cases h : l.length ≤ 200
 ·refine evNeg (by omega) ?_
  refine evUpP l.length (fun i => (l.take i).all okE = true) (fun i k => spec_LogText.l0 k l (logRaw (l.take i)) (i : Int)) rfl ?_ ?_
  ·intro i hi hp ih
   refine evSucc ?_
   simp only [spec_LogText.l0]
   have hs := logRaw_size (l.take i)
   have hln : (l.take i).length ≤ i := by simp; omega
   have he := entryT_size l[i]
   have hv := varS_size ((entryT l[i]).size : Int) (by omega)
   rw [rdE l i hi, w64 (by omega) (by omega), ci]
   refine evPos (by omega) (evPos (by omega) (Ev.bind (ev_spec_EntryText _ _ _ _ _ _) ?_))
   show Ev (fun k => if (entryT l[i]).toList = ([] : List UInt8) then _ else _) _
   cases ho : okE l[i]
   ·refine evPos ((entryT_nil _).2 ho) (evEq (Ev.now _) ?_)
    rw [if_neg (fun z => notAll l i hi ho z.2)]
   ·refine evNeg (fun z => by rw [(entryT_nil _).1 z] at ho; cases ho) (Ev.bind (ev_spec_l01Var ((entryT l[i]).size : Int) (by omega) (by omega)) (evPos ?_ (evPos ?_ ?_)))
    ·omega
    ·show (_ ++ varS _).size + (entryT l[i]).size ≤ _
     rw [sizeApp]; omega
    ·have := ih (by rw [allSnoc l i hi, hp, ho]; rfl)
     rw [logRaw_step l i hi] at this
     exact this
  ·intro hp
   refine evSucc ?_
   simp only [spec_LogText.l0]
   rw [List.take_length] at hp ⊢
   rw [if_pos ⟨h, hp⟩]
   exact evNeg (by omega) (Ev.now _)
 ·rw [if_neg (fun z => h z.1)]
  exact evPos (by omega) (Ev.now _)
theorem ev_impl_ShortText (s : ByteArray) (h : s.size ≤ 20000) : Ev (fun k => impl_ShortText.f k s) (varS (s.size : Int) ++ s, true) := by
 have hv := varS_size (s.size : Int) (by omega)
 simp only [impl_ShortText.f]
 refine evNeg (by omega) (Ev.bind (ev_impl_VarText_ok (s.size : Int) (by omega) (by omega)) (evPos ?_ (Ev.now _)))
 show (varS _).size + _ ≤ _
 omega
theorem ev_impl_LogText (l : List S70) : Ev (fun k => impl_LogText.f k l) (logB l) := by
 simp only [impl_LogText.f]
 unfold logB
 by_cases h : l.length ≤ 200
 ·refine evNeg (by omega) ?_
  refine evUpP l.length (fun i => (l.take i).all okE = true) (fun i k => impl_LogText.l0 k (logRaw (l.take i)) l (l.length : Int) (i : Int)) rfl ?_ ?_
  ·intro i hi hp ih
   refine evSucc ?_
   simp only [impl_LogText.l0]
   have hs := logRaw_size (l.take i)
   have hln : (l.take i).length ≤ i := by simp; omega
   have he := entryT_size l[i]
   have hv := varS_size ((entryT l[i]).size : Int) (by omega)
   rw [rdE l i hi, w64 (by omega) (by omega), ci]
   refine evPos (by omega) (evPos (by omega) (evPos (by omega) (Ev.bind (ev_impl_EntryText _ _ _ _ _ _) ?_)))
   show Ev (fun k => if (entryT l[i]).toList = ([] : List UInt8) then _ else _) _
   cases ho : okE l[i]
   ·refine evPos ((entryT_nil _).2 ho) (evEq (Ev.now _) ?_)
    rw [if_neg (fun z => notAll l i hi ho z.2)]
   ·refine evNeg (fun z => by rw [(entryT_nil _).1 z] at ho; cases ho) (Ev.bind (ev_impl_ShortText (entryT l[i]) (by omega)) (evPos ?_ ?_))
    ·show _ + (varS _ ++ entryT l[i]).size ≤ _
     rw [sizeApp]; omega
    ·rw [← ByteArray.append_assoc]
     have := ih (by rw [allSnoc l i hi, hp, ho]; rfl)
     rw [logRaw_step l i hi] at this
     exact this
  ·intro hp
   refine evSucc ?_
   simp only [impl_LogText.l0]
   rw [List.take_length] at hp ⊢
   rw [if_pos ⟨h, hp⟩]
   exact evNeg (by omega) (Ev.now _)
 ·rw [if_neg (fun z => h z.1)]
  exact evPos (by omega) (Ev.now _)
def segTextS (a : Int) (b : ByteArray) (l : List S70) (d : ByteArray) : ByteArray × Bool :=
 if segB a b l d = true ∧ (logRaw l).size ≤ 15000 then sealB (((varS a ++ b) ++ varS ((logRaw l).size : Int)) ++ logRaw l) else (⟨#[]⟩, false)
theorem segB_facts {a : Int} {b : ByteArray} {l : List S70} {d : ByteArray} (h : segB a b l d = true) : 0 ≤ a ∧ a ≤ 200 ∧ b.size = 32 ∧ 1 ≤ l.length ∧ l.length ≤ 200 ∧ l.all okE = true ∧ d = headS b l := by
 unfold segB at h
 split at h
 ·rename_i hc
  exact ⟨hc.1, hc.2.1, hc.2.2.1, hc.2.2.2.1, hc.2.2.2.2.1, hc.2.2.2.2.2, toList_inj (by simpa using h)⟩
 ·simp at h
theorem ev_spec_SegmentText (a : Int) (b : ByteArray) (l : List S70) (d : ByteArray) : Ev (fun k => spec_SegmentText.f k a b l d) (segTextS a b l d) := by
 have no : ∀ s x, x = (⟨#[]⟩, false) → Ev (fun k => spec_SegmentText.j0 k s true a b l d) x := fun s x hx => by
  subst hx
  refine evSucc ?_
  simp only [spec_SegmentText.j0]
  exact evPos (by simp) (Ev.now _)
 simp only [spec_SegmentText.f]
 refine Ev.bind (ev_spec_LogText l) (Ev.bind (ev_spec_SegmentOk a b l d) ?_)
 unfold segTextS
 cases hs : segB a b l d
 ·exact evNeg (by simp) (no _ _ (if_neg (fun z => by cases z.1)))
 ·obtain ⟨a0, a1, hb, l0, l1, ha, _⟩ := segB_facts hs
  have hl := logRaw_size l
  have hv := varS_size a (by omega)
  refine evPos rfl ?_
  rw [show logB l = (logRaw l, true) from if_pos ⟨l1, ha⟩]
  refine evPos rfl ?_
  by_cases h2 : (logRaw l).size ≤ 15000
  ·have hv2 := varS_size ((logRaw l).size : Int) (by omega)
   rw [if_pos (⟨rfl, h2⟩ : true = true ∧ (logRaw l).size ≤ 15000), show decide (((logRaw l, true) : ByteArray × Bool).1.size > (15000 : Int)) = false by simp; omega]
   refine evSucc ?_
   simp only [spec_SegmentText.j0]
   refine evNeg (by simp) (Ev.bind (ev_spec_l01Var a a0 (by omega)) (evPos (by omega) (Ev.bind (ev_spec_l01Var _ (by omega) (by omega)) (evPos (by rw [sizeApp]; omega) (evPos (by rw [sizeApp, sizeApp]; omega) ?_)))))
   exact Ev.bind (ev_spec_Sealed _ (by rw [sizeApp, sizeApp, sizeApp]; omega)) (Ev.now _)
  ·rw [show decide (((logRaw l, true) : ByteArray × Bool).1.size > (15000 : Int)) = true by simp; omega]
   exact no _ _ (if_neg (fun z => h2 z.2))
theorem ev_impl_SegmentText (a : Int) (b : ByteArray) (l : List S70) (d : ByteArray) : Ev (fun k => impl_SegmentText.f k a b l d) (segTextS a b l d) := by
 have no : ∀ s x, x = (⟨#[]⟩, false) → Ev (fun k => impl_SegmentText.j0 k s true a b l d) x := fun s x hx => by
  subst hx
  refine evSucc ?_
  simp only [impl_SegmentText.j0]
  exact evPos (by simp) (Ev.now _)
 simp only [impl_SegmentText.f]
 refine Ev.bind (ev_impl_LogText l) (Ev.bind (ev_impl_SegmentOk a b l d) ?_)
 unfold segTextS
 cases hs : segB a b l d
 ·exact evNeg (by simp) (no _ _ (if_neg (fun z => by cases z.1)))
 ·obtain ⟨a0, a1, hb, l0, l1, ha, _⟩ := segB_facts hs
  have hl := logRaw_size l
  have hv := varS_size a (by omega)
  refine evPos rfl ?_
  rw [show logB l = (logRaw l, true) from if_pos ⟨l1, ha⟩]
  refine evPos rfl ?_
  by_cases h2 : (logRaw l).size ≤ 15000
  ·have hv2 := varS_size ((logRaw l).size : Int) (by omega)
   rw [if_pos (⟨rfl, h2⟩ : true = true ∧ (logRaw l).size ≤ 15000), show decide (((logRaw l, true) : ByteArray × Bool).1.size > (15000 : Int)) = false by simp; omega]
   refine evSucc ?_
   simp only [impl_SegmentText.j0]
   refine evNeg (by simp) (Ev.bind (ev_impl_VarText_ok a a0 (by omega)) (Ev.bind (ev_impl_ShortText _ (by omega)) (evPos ?_ (evPos ?_ ?_))))
   ·show (varS a).size + _ ≤ _
    omega
   ·show (varS a ++ b).size + (varS _ ++ logRaw l).size ≤ _
    rw [sizeApp, sizeApp]; omega
   ·have e : ((varS a ++ b) ++ varS ((logRaw l).size : Int)) ++ logRaw l = (varS a ++ b) ++ (varS ((logRaw l).size : Int) ++ logRaw l) := ByteArray.append_assoc
    rw [e]
    exact Ev.bind (ev_impl_Sealed ((varS a ++ b) ++ (varS ((logRaw l).size : Int) ++ logRaw l)) (by rw [sizeApp, sizeApp, sizeApp]; omega)) (Ev.now _)
  ·rw [show decide (((logRaw l, true) : ByteArray × Bool).1.size > (15000 : Int)) = true by simp; omega]
   exact no _ _ (if_neg (fun z => h2 z.2))
theorem bt_byte (t : ByteArray) (i : Nat) (h : i < t.size) : bt t (i : Int) = ((t[i]'h).toNat : Int) := by
 unfold bt
 rw [dif_pos (by simpa using h)]
 simp
theorem ext1 (t : ByteArray) (i : Nat) (h : i < t.size) : t.extract i (i + 1) = strOfNums [bt t (i : Int)] := by
 apply ByteArray.ext
 apply Array.ext'
 have hi : i < t.data.toList.length := by rw [← sizeData]; exact h
 rw [ByteArray.data_extract, Array.toList_extract, List.extract_eq_take_drop, List.drop_eq_getElem_cons hi, bt_byte t i h]
 simp [strOfNums]
 rfl
theorem extCat (t : ByteArray) (i j k : Nat) (h1 : i ≤ j) (h2 : j ≤ k) : t.extract i j ++ t.extract j k = t.extract i k := by
 rw [ByteArray.extract_append_extract, Nat.min_eq_left h1, Nat.max_eq_right h2]
theorem numsCat (a b : List Int) : strOfNums a ++ strOfNums b = strOfNums (a ++ b) := by
 apply ByteArray.ext
 simp [strOfNums]
theorem ext2 (t : ByteArray) (i : Nat) (h : i + 2 ≤ t.size) : t.extract i (i + 2) = strOfNums [bt t (i : Int), bt t ((i + 1 : Nat) : Int)] := by
 rw [← extCat t i (i + 1) (i + 2) (by omega) (by omega), ext1 t i (by omega), ext1 t (i + 1) (by omega), numsCat]
 rfl
theorem ext4 (t : ByteArray) (i : Nat) (h : i + 4 ≤ t.size) : t.extract i (i + 4) = strOfNums [bt t (i : Int), bt t ((i + 1 : Nat) : Int), bt t ((i + 2 : Nat) : Int), bt t ((i + 3 : Nat) : Int)] := by
 rw [← extCat t i (i + 2) (i + 4) (by omega) (by omega), ext2 t i (by omega), ext2 t (i + 2) (by omega), numsCat]
 rfl
theorem extAll (t : ByteArray) : t.extract 0 t.size = t := ByteArray.extract_zero_size
theorem catInj {a b c d : ByteArray} (h : a ++ b = c ++ d) (hs : a.size = c.size) : a = c ∧ b = d := by
 have h1 : a.data.toList ++ b.data.toList = c.data.toList ++ d.data.toList := by
  have := congrArg (fun s : ByteArray => s.data.toList) h
  simpa using this
 have hl : a.data.toList.length = c.data.toList.length := by rw [← sizeData, ← sizeData]; exact hs
 obtain ⟨h2, h3⟩ := List.append_inj h1 hl
 exact ⟨ByteArray.ext (Array.ext' h2), ByteArray.ext (Array.ext' h3)⟩
theorem or_add (n m i : Nat) (hn : n < 2 ^ i) (hm : 2 ^ i * m + n < 9223372036854775808) : Go.bits .or .i64 (n : Int) ((m * 2 ^ i : Nat) : Int) = ((2 ^ i * m + n : Nat) : Int) := by
 have hm' : m * 2 ^ i < 18446744073709551616 := by rw [Nat.mul_comm]; omega
 rw [bits_nat]
 show IntKind.wrap .i64 ((BitVec.ofInt 64 (n : Int) ||| BitVec.ofInt 64 ((m * 2 ^ i : Nat) : Int)).toNat : Int) = _
 rw [BitVec.toNat_or, ofInt_nat64 n (by omega), ofInt_nat64 _ hm', wrap_i64, Nat.or_comm, Nat.mul_comm m, ← Nat.two_pow_add_eq_or_of_lt hn, w64 (by omega) (by omega)]
theorem or_comm64 (x y : Int) : Go.bits .or .i64 x y = Go.bits .or .i64 y x := by
 rw [bits_nat, bits_nat]
 show IntKind.wrap .i64 _ = IntKind.wrap .i64 _
 rw [BitVec.or_comm]
theorem or_hi (n m i : Nat) (hn : n < 2 ^ i) (hm : 2 ^ i * m + n < 9223372036854775808) : Go.bits .or .i64 ((m * 2 ^ i : Nat) : Int) (n : Int) = ((2 ^ i * m + n : Nat) : Int) := by
 rw [or_comm64]; exact or_add n m i hn hm
def fourV (t : ByteArray) (i : Int) : Int := (Go.bits .or .i64 (Go.bits .or .i64 (Go.bits .or .i64 (wrap64 ((wrap64 (bt t i)) * 16777216)) (wrap64 ((wrap64 (bt t (i + 1))) * 65536))) (wrap64 ((wrap64 (bt t (i + 2))) * 256))) (wrap64 (bt t (i + 3))))
theorem fourV_eq (t : ByteArray) (i : Int) : fourV t i = bt t i * 16777216 + bt t (i + 1) * 65536 + bt t (i + 2) * 256 + bt t (i + 3) := by
 have h0 := bt_range t i
 have h1 := bt_range t (i + 1)
 have h2 := bt_range t (i + 2)
 have h3 := bt_range t (i + 3)
 unfold fourV
 rw [w64 (x := bt t i) (by omega) (by omega), w64 (x := bt t (i + 1)) (by omega) (by omega), w64 (x := bt t (i + 2)) (by omega) (by omega), w64 (x := bt t (i + 3)) (by omega) (by omega),
  w64 (by omega) (by omega), w64 (by omega) (by omega), w64 (by omega) (by omega)]
 obtain ⟨a, ha⟩ := Int.eq_ofNat_of_zero_le h0.1
 obtain ⟨b, hb⟩ := Int.eq_ofNat_of_zero_le h1.1
 obtain ⟨c, hc⟩ := Int.eq_ofNat_of_zero_le h2.1
 obtain ⟨d, hd⟩ := Int.eq_ofNat_of_zero_le h3.1
 rw [ha, hb, hc, hd]
 have s1 : Go.bits .or .i64 ((a : Int) * 16777216) ((b : Int) * 65536) = (((a * 256 + b) * 2 ^ 16 : Nat) : Int) := by
  have h := or_hi (b * 65536) a 24 (by omega) (by omega)
  rw [show ((a : Int) * 16777216) = ((a * 2 ^ 24 : Nat) : Int) by omega, show ((b : Int) * 65536) = ((b * 65536 : Nat) : Int) by omega, h]
  omega
 have s2 : Go.bits .or .i64 (((a * 256 + b) * 2 ^ 16 : Nat) : Int) ((c : Int) * 256) = (((a * 65536 + b * 256 + c) * 2 ^ 8 : Nat) : Int) := by
  have h := or_hi (c * 256) (a * 256 + b) 16 (by omega) (by omega)
  rw [show ((c : Int) * 256) = ((c * 256 : Nat) : Int) by omega, h]
  omega
 have s3 : Go.bits .or .i64 (((a * 65536 + b * 256 + c) * 2 ^ 8 : Nat) : Int) (d : Int) = ((a * 16777216 + b * 65536 + c * 256 + d : Nat) : Int) := by
  have h := or_hi d (a * 65536 + b * 256 + c) 8 (by omega) (by omega)
  rw [h]
  omega
 rw [s1, s2, s3]
 omega
theorem fourV_rng (t : ByteArray) (i : Int) : 0 ≤ fourV t i ∧ fourV t i < 4294967296 := by
 have h0 := bt_range t i
 have h1 := bt_range t (i + 1)
 have h2 := bt_range t (i + 2)
 have h3 := bt_range t (i + 3)
 rw [fourV_eq]
 omega
theorem four4_fourV (t : ByteArray) (i : Nat) (h : i + 4 ≤ t.size) : four4 (fourV t (i : Int)) = t.extract i (i + 4) := by
 have h0 := bt_range t (i : Int)
 have h1 := bt_range t ((i : Int) + 1)
 have h2 := bt_range t ((i : Int) + 2)
 have h3 := bt_range t ((i : Int) + 3)
 rw [ext4 t i h, fourV_eq]
 unfold four4
 rw [show ((i + 1 : Nat) : Int) = (i : Int) + 1 by omega, show ((i + 2 : Nat) : Int) = (i : Int) + 2 by omega, show ((i + 3 : Nat) : Int) = (i : Int) + 3 by omega]
 rw [show (bt t (i : Int) * 16777216 + bt t ((i : Int) + 1) * 65536 + bt t ((i : Int) + 2) * 256 + bt t ((i : Int) + 3)) / 16777216 % 256 = bt t (i : Int) by omega,
  show (bt t (i : Int) * 16777216 + bt t ((i : Int) + 1) * 65536 + bt t ((i : Int) + 2) * 256 + bt t ((i : Int) + 3)) / 65536 % 256 = bt t ((i : Int) + 1) by omega,
  show (bt t (i : Int) * 16777216 + bt t ((i : Int) + 1) * 65536 + bt t ((i : Int) + 2) * 256 + bt t ((i : Int) + 3)) / 256 % 256 = bt t ((i : Int) + 2) by omega,
  show (bt t (i : Int) * 16777216 + bt t ((i : Int) + 1) * 65536 + bt t ((i : Int) + 2) * 256 + bt t ((i : Int) + 3)) % 256 = bt t ((i : Int) + 3) by omega]
theorem four4_inj {x y : Int} (hx : 0 ≤ x ∧ x < 4294967296) (hy : 0 ≤ y ∧ y < 4294967296) (h : four4 x = four4 y) : x = y := by
 unfold four4 at h
 have key : ∀ (a b : List Int), (∀ z ∈ a, 0 ≤ z ∧ z < 256) → (∀ z ∈ b, 0 ≤ z ∧ z < 256) → strOfNums a = strOfNums b → a = b := by
  intro a b ha hb hab
  have h1 : a.map (fun z => UInt8.ofNat z.toNat) = b.map (fun z => UInt8.ofNat z.toNat) := by
   have := congrArg (fun s : ByteArray => s.data.toList) hab
   simpa [strOfNums] using this
  have h2 : ∀ (l : List Int), (∀ z ∈ l, 0 ≤ z ∧ z < 256) → (l.map (fun z => UInt8.ofNat z.toNat)).map (fun b => (b.toNat : Int)) = l := by
   intro l hl
   rw [List.map_map]
   conv => rhs; rw [← List.map_id l]
   apply List.map_congr_left
   intro z hz
   have := hl z hz
   simp
   omega
  rw [← h2 a ha, ← h2 b hb, h1]
 have := key _ _ (by intro z hz; simp at hz; rcases hz with rfl | rfl | rfl | rfl <;> omega) (by intro z hz; simp at hz; rcases hz with rfl | rfl | rfl | rfl <;> omega) h
 simp at this
 omega
theorem fourAt_impl (t : ByteArray) (i : Int) (h0 : 0 ≤ i) (h1 : i + 4 ≤ (t.size : Int)) (hb : t.size ≤ 140737488351232) : impl_fourAt.f t i = some (fourV t i) := by
 unfold impl_fourAt.f
 rw [w64 (x := i + 1) (by omega) (by omega), w64 (x := i + 2) (by omega) (by omega), w64 (x := i + 3) (by omega) (by omega),
  if_pos (by omega), if_pos (by omega), if_pos (by omega), if_pos (by omega), if_pos (by omega), if_pos (by omega), if_pos (by omega), if_pos (by omega)]
 rfl
theorem fourAt_spec (t : ByteArray) (i : Int) (h0 : 0 ≤ i) (h1 : i + 4 ≤ (t.size : Int)) (hb : t.size ≤ 140737488351232) : spec_l17Four.f t i = some (fourV t i) := by
 unfold spec_l17Four.f
 rw [w64 (x := i + 1) (by omega) (by omega), w64 (x := i + 2) (by omega) (by omega), w64 (x := i + 3) (by omega) (by omega),
  if_pos (by omega), if_pos (by omega), if_pos (by omega), if_pos (by omega), if_pos (by omega), if_pos (by omega), if_pos (by omega), if_pos (by omega)]
 rfl
def unsealS (t : ByteArray) : ByteArray × Bool :=
 if 4 ≤ t.size ∧ t.size ≤ 20004 ∧ t.extract (t.size - 4) t.size = four4 (sumS (t.extract 0 (t.size - 4))) then (t.extract 0 (t.size - 4), true) else (⟨#[]⟩, false)
theorem unsealS_ok {t s : ByteArray} (h : unsealS t = (s, true)) : t = s ++ four4 (sumS s) ∧ s.size ≤ 20000 := by
 unfold unsealS at h
 split at h
 ·rename_i hc
  simp only [Prod.mk.injEq, and_true] at h
  subst h
  refine ⟨?_, by rw [ByteArray.size_extract]; omega⟩
  rw [← hc.2.2, extCat t 0 _ _ (by omega) (by omega), extAll]
 ·simp at h
theorem ev_spec_Unsealed (t : ByteArray) (ht : t.size ≤ 140737488351232) : Ev (fun k => spec_Unsealed.f k t) (unsealS t) := by
 simp only [spec_Unsealed.f]
 unfold unsealS
 rw [w64 (by omega) (by omega)]
 by_cases h1 : t.size < 4
 ·rw [if_neg (by omega)]
  exact evPos (by omega) (Ev.now _)
 by_cases h2 : 20004 < t.size
 ·rw [if_neg (by omega)]
  exact evNeg (by omega) (evPos (by omega) (Ev.now _))
 have e : ((t.size : Int) - 4).toNat = t.size - 4 := by omega
 refine evNeg (by omega) (evNeg (by omega) (evPos (by omega) (evPos (by omega) ?_)))
 rw [e]
 simp only [spec_SumOf.f]
 refine Ev.bind (Ev.bind (ev_spec_SumMore _ _ (by omega) (by rw [ByteArray.size_extract]; omega)) (Ev.now _)) ?_
 simp only [spec_four2, Option.bind_some]
 by_cases h3 : t.extract (t.size - 4) t.size = four4 (sumS (t.extract 0 (t.size - 4)))
 ·exact evEq (evPos (toList_iff.2 h3) (Ev.now _)) (if_pos (show 4 ≤ t.size ∧ t.size ≤ 20004 ∧ _ from ⟨by omega, by omega, h3⟩)).symm
 ·exact evEq (evNeg (fun z => h3 (toList_iff.1 z)) (Ev.now _)) (if_neg (fun z => h3 z.2.2)).symm
theorem ev_impl_Unsealed (t : ByteArray) (ht : t.size ≤ 140737488351232) : Ev (fun k => impl_Unsealed.f k t) (unsealS t) := by
 simp only [impl_Unsealed.f, impl_in, Option.bind_some]
 unfold unsealS
 rw [w64 (by omega) (by omega)]
 by_cases h1 : t.size < 4
 ·rw [if_neg (by omega), show rng ((t.size : Int) - 4) 0 20000 = false by unfold rng; simp; omega]
  exact evNeg (by simp) (Ev.now _)
 by_cases h2 : 20004 < t.size
 ·rw [if_neg (by omega), show rng ((t.size : Int) - 4) 0 20000 = false by unfold rng; simp; omega]
  exact evNeg (by simp) (Ev.now _)
 have e : ((t.size : Int) - 4).toNat = t.size - 4 := by omega
 have e2 : ((t.size : Int) - 4) = ((t.size - 4 : Nat) : Int) := by omega
 rw [show rng ((t.size : Int) - 4) 0 20000 = true by unfold rng; simp; omega]
 refine evPos rfl (evPos (by omega) (evPos (by omega) ?_))
 rw [e]
 simp only [impl_SumOf.f]
 refine Ev.bind (Ev.bind (ev_impl_SumMore _ _ (by omega) (by rw [ByteArray.size_extract]; omega)) (Ev.now _)) ?_
 rw [fourAt_impl t _ (by omega) (by omega) ht, show sumAll 4294967295 (t.extract 0 (t.size - 4)) (t.extract 0 (t.size - 4)).size = sumS (t.extract 0 (t.size - 4)) from rfl]
 simp only [Option.bind_some]
 have hr := sumS_rng (t.extract 0 (t.size - 4))
 have h4 := four4_fourV t (t.size - 4) (by omega)
 rw [show t.size - 4 + 4 = t.size by omega] at h4
 rw [w64 (by omega) (by omega), e2]
 by_cases h3 : t.extract (t.size - 4) t.size = four4 (sumS (t.extract 0 (t.size - 4)))
 ·refine evEq (evPos ?_ (Ev.now _)) (if_pos (show 4 ≤ t.size ∧ t.size ≤ 20004 ∧ _ from ⟨by omega, by omega, h3⟩)).symm
  exact four4_inj hr (fourV_rng _ _) (by rw [h4, h3])
 ·exact evEq (evNeg (fun z => h3 (by rw [← h4, ← z])) (Ev.now _)) (if_neg (fun z => h3 z.2.2)).symm
def rvGo (t : ByteArray) (a : Int) : Nat → Int → Nat → Int × Int × Bool
 | 0, _, _ => (0, 0, false)
 | d + 1, n, i =>
  if a + i < t.size then
   (if bt t (a + i) < 128 then
    (if n + bt t (a + i) * (128 ^ i : Nat) ≤ 1000000000 ∧ varS (n + bt t (a + i) * (128 ^ i : Nat)) = t.extract a.toNat (a.toNat + i + 1) then (n + bt t (a + i) * (128 ^ i : Nat), a + i + 1, true) else (0, 0, false))
   else rvGo t a d (n + (bt t (a + i) - 128) * (128 ^ i : Nat)) (i + 1))
  else (0, 0, false)
def readVarS (t : ByteArray) (a : Int) : Int × Int × Bool := if 0 ≤ a ∧ a ≤ t.size then rvGo t a 5 0 0 else (0, 0, false)
theorem rvGo_ok (t : ByteArray) (a : Int) (ha : 0 ≤ a) {x e : Int} : ∀ d n i, 0 ≤ n → rvGo t a d n i = (x, e, true) → 0 ≤ x ∧ x ≤ 1000000000 ∧ a < e ∧ e ≤ t.size ∧ e ≤ a + i + d ∧ varS x = t.extract a.toNat e.toNat := by
 intro d
 induction d with
 | zero => intro n i _ h; simp [rvGo] at h
 | succ d ih =>
  intro n i hn h
  have hb := bt_range t (a + i)
  unfold rvGo at h
  split at h
  ·split at h
   ·split at h
    ·rename_i h1 _ h2
     simp only [Prod.mk.injEq, and_true] at h
     obtain ⟨rfl, rfl⟩ := h
     refine ⟨?_, h2.1, by omega, by omega, by omega, ?_⟩
     ·have := Int.mul_nonneg hb.1 (Int.natCast_nonneg (128 ^ i))
      omega
     ·rw [h2.2]
      congr 1
      omega
    ·simp at h
   ·obtain ⟨y1, y2, y3, y4, y5, y6⟩ := ih _ _ (by have := Int.mul_nonneg (show (0 : Int) ≤ bt t (a + i) - 128 by omega) (Int.natCast_nonneg (128 ^ i)); omega) h
    exact ⟨y1, y2, y3, y4, by omega, y6⟩
  ·simp at h
theorem readVarS_ok {t : ByteArray} {a x e : Int} (h : readVarS t a = (x, e, true)) : 0 ≤ a ∧ 0 ≤ x ∧ x ≤ 1000000000 ∧ a < e ∧ e ≤ t.size ∧ e ≤ a + 5 ∧ varS x = t.extract a.toNat e.toNat := by
 unfold readVarS at h
 split at h
 ·rename_i hc
  have := rvGo_ok t a hc.1 5 0 0 (Int.le_refl _) h
  exact ⟨hc.1, this.1, this.2.1, this.2.2.1, this.2.2.2.1, by omega, this.2.2.2.2.2⟩
 ·simp at h
theorem pow128 (i : Nat) (h : i ≤ 4) : 1 ≤ 128 ^ i ∧ 128 ^ i ≤ 268435456 ∧ 2 ^ (7 * i) = 128 ^ i := by
 refine ⟨Nat.pow_pos (by omega), ?_, by rw [Nat.pow_mul]⟩
 exact Nat.pow_le_pow_right (by omega) h
theorem and_u8_127 (x : Int) (h0 : 0 ≤ x) (h1 : x ≤ 255) : Go.bits .and .u8 x 127 = x % 128 := by
 obtain ⟨n, rfl⟩ := Int.eq_ofNat_of_zero_le h0
 rw [bits_nat]
 show IntKind.wrap .u8 ((BitVec.ofInt 8 (n : Int) &&& BitVec.ofInt 8 ((127 : Nat) : Int)).toNat : Int) = _
 rw [BitVec.toNat_and, show (BitVec.ofInt 8 (n : Int)).toNat = n by rw [BitVec.toNat_ofInt]; omega, show (BitVec.ofInt 8 ((127 : Nat) : Int)).toNat = 127 by decide]
 have : n &&& 127 = n % 128 := Nat.and_two_pow_sub_one_eq_mod n 7
 rw [this]
 show ((n % 128 : Nat) : Int) % 256 = _
 omega
theorem or_var (n b : Int) (i : Nat) (hi : i ≤ 4) (hn : 0 ≤ n) (hn2 : n < (128 ^ i : Nat)) (h0 : 0 ≤ b) (h1 : b ≤ 255) :
 Go.bits .or .i64 n (shl .i64 (wrap64 (Go.bits .and .u8 b 127)) (wrap64 (7 * (i : Int)))) = n + (b % 128) * (128 ^ i : Nat) := by
 obtain ⟨p1, p2, p3⟩ := pow128 i hi
 rw [and_u8_127 b h0 h1, w64 (x := b % 128) (by omega) (by omega), w64 (x := 7 * (i : Int)) (by omega) (by omega)]
 obtain ⟨m, rfl⟩ := Int.eq_ofNat_of_zero_le hn
 obtain ⟨c, hc⟩ := Int.eq_ofNat_of_zero_le (show 0 ≤ b % 128 by omega)
 have hcb : c < 128 := by omega
 rw [hc]
 have hle : c * 128 ^ i ≤ 127 * 268435456 := Nat.mul_le_mul (by omega) p2
 unfold shl
 rw [show min (7 * (i : Int)).toNat (IntKind.bits .i64) = 7 * i by show min _ 64 = _; omega, i64_w]
 rw [show (c : Int) * 2 ^ (7 * i) = ((c * 2 ^ (7 * i) : Nat) : Int) by rw [Int.natCast_mul, Int.natCast_pow]; rfl, p3, w64 (by omega) (by omega)]
 have := or_add m c (7 * i) (by rw [p3]; omega) (by rw [p3, Nat.mul_comm]; omega)
 rw [p3] at this
 rw [this, Nat.mul_comm, Int.natCast_add, Int.natCast_mul]
 omega
theorem mulPow (c : Int) (i : Nat) (hi : i ≤ 4) (h0 : 0 ≤ c) (h1 : c ≤ 127) : 0 ≤ c * (128 ^ i : Nat) ∧ c * (128 ^ i : Nat) ≤ 127 * (128 ^ i : Nat) ∧ c * (128 ^ i : Nat) ≤ 34091302912 := by
 obtain ⟨p1, p2, _⟩ := pow128 i hi
 have h2 : c * (128 ^ i : Nat) ≤ 127 * (128 ^ i : Nat) := Int.mul_le_mul_of_nonneg_right h1 (by omega)
 exact ⟨Int.mul_nonneg h0 (by omega), h2, by omega⟩
theorem powSucc (i : Nat) : ((128 ^ (i + 1) : Nat) : Int) = 128 * ((128 ^ i : Nat) : Int) := by rw [Nat.pow_succ]; omega
theorem ev_impl_rv (t : ByteArray) (a : Int) (ht : t.size ≤ 140737488351232) (ha : 0 ≤ a) (hb : a ≤ t.size) :
 ∀ (d i : Nat) (n : Int), i + d = 5 → 0 ≤ n → n < (128 ^ i : Nat) → Ev (fun k => impl_ReadVar.l0 k t a n (i : Int)) (rvGo t a d n i) := by
 intro d
 induction d with
 | zero =>
  intro i n hi _ _
  refine evSucc ?_
  simp only [impl_ReadVar.l0]
  refine evNeg (by omega) (evSucc ?_)
  simp only [impl_ReadVar.j1]
  exact evNeg (by simp) (Ev.now _)
 | succ d ih =>
  intro i n hi hn hn2
  have hr := bt_range t (a + i)
  obtain ⟨p1, p2, p3⟩ := pow128 i (by omega)
  refine evSucc ?_
  simp only [impl_ReadVar.l0]
  refine evPos (by omega) (evSucc ?_)
  simp only [impl_ReadVar.j1]
  rw [w64 (x := a + (i : Int)) (by omega) (by omega)]
  unfold rvGo
  by_cases h1 : a + i < t.size
  ·rw [if_pos h1]
   refine evPos (by simpa using h1) (evPos (by omega) (evPos h1 (evPos (by rw [w64 (by omega) (by omega)]; omega) ?_)))
   rw [or_var n (bt t (a + i)) i (by omega) hn hn2 hr.1 hr.2]
   by_cases h2 : bt t (a + i) < 128
   ·rw [if_pos h2, show bt t (a + i) % 128 = bt t (a + i) by omega]
    have hm := mulPow (bt t (a + i)) i (by omega) hr.1 (by omega)
    have hx : 0 ≤ n + bt t (a + i) * (128 ^ i : Nat) ∧ n + bt t (a + i) * (128 ^ i : Nat) ≤ 40000000000 := by omega
    generalize n + bt t (a + i) * (128 ^ i : Nat) = x at hx ⊢
    refine evNeg (by omega) ?_
    rw [w64 (x := a + (i : Int) + 1) (by omega) (by omega)]
    by_cases hc : x ≤ 1000000000
    ·refine Ev.bind (ev_impl_VarText_ok x hx.1 hc) (evPos rfl (evPos ha (evPos (by omega) (evPos (by omega) ?_))))
     rw [show (a + (i : Int) + 1).toNat = a.toNat + i + 1 by omega]
     show Ev (fun k => if (varS x).toList = _ then _ else _) _
     by_cases hv : varS x = t.extract a.toNat (a.toNat + i + 1)
     ·exact evEq (evPos (toList_iff.2 hv) (Ev.now _)) (if_pos ⟨hc, hv⟩).symm
     ·exact evEq (evNeg (fun z => hv (toList_iff.1 z)) (Ev.now _)) (if_neg (fun z => hv z.2)).symm
    ·rw [if_neg (fun z => hc z.1)]
     refine Ev.bind (evEq (ev_impl_VarText x) (if_neg (by unfold rng; simp; omega))) ?_
     exact evNeg (by simp) (Ev.now _)
   ·rw [if_neg h2, show bt t (a + i) % 128 = bt t (a + i) - 128 by omega, w64 (x := (i : Int) + 1) (by omega) (by omega), ci]
    refine evPos (by omega) ?_
    have hm := mulPow (bt t (a + i) - 128) i (by omega) (by omega) (by omega)
    exact ih (i + 1) _ (by omega) (by omega) (by rw [powSucc]; omega)
  ·rw [if_neg h1]
   exact evNeg (by simpa using h1) (Ev.now _)
theorem ev_impl_ReadVar (t : ByteArray) (a : Int) (ht : t.size ≤ 140737488351232) : Ev (fun k => impl_ReadVar.f k t a) (readVarS t a) := by
 simp only [impl_ReadVar.f, impl_in, Option.bind_some]
 unfold readVarS
 by_cases h : 0 ≤ a ∧ a ≤ t.size
 ·rw [if_pos h, show rng a 0 (t.size : Int) = true by unfold rng; simp; omega]
  refine evPos rfl ?_
  exact ev_impl_rv t a ht h.1 h.2 5 0 0 (by omega) (by omega) (by decide)
 ·rw [if_neg h, show rng a 0 (t.size : Int) = false by unfold rng; simp; omega]
  exact evNeg (by simp) (Ev.now _)
theorem ev_spec_rv (t : ByteArray) (a : Int) (ht : t.size ≤ 140737488351232) (ha : 0 ≤ a) (hb : a ≤ t.size) :
 ∀ (d i : Nat) (n : Int), i + d = 5 → 0 ≤ n → n < (128 ^ i : Nat) → Ev (fun k => spec_ReadVar.l0 k t a n ((128 ^ i : Nat) : Int) (a + (i : Int))) (rvGo t a d n i) := by
 intro d
 induction d with
 | zero =>
  intro i n hi _ _
  refine evSucc ?_
  simp only [spec_ReadVar.l0]
  have no : Ev (fun k => spec_ReadVar.j1 k t a n ((128 ^ i : Nat) : Int) (a + (i : Int)) false) (rvGo t a 0 n i) := by
   refine evSucc ?_
   simp only [spec_ReadVar.j1]
   exact evNeg (by simp) (Ev.now _)
  rw [show decide (a + (i : Int) < wrap64 (a + 5)) = false by rw [w64 (by omega) (by omega)]; simp; omega]
  by_cases h : a + (i : Int) < t.size
  ·exact evPos h no
  ·exact evNeg h no
 | succ d ih =>
  intro i n hi hn hn2
  have hr := bt_range t (a + i)
  obtain ⟨p1, p2, p3⟩ := pow128 i (by omega)
  refine evSucc ?_
  simp only [spec_ReadVar.l0]
  rw [show decide (a + (i : Int) < wrap64 (a + 5)) = true by rw [w64 (by omega) (by omega)]; simp; omega]
  unfold rvGo
  by_cases h1 : a + i < t.size
  ·rw [if_pos h1]
   refine evPos h1 (evSucc ?_)
   simp only [spec_ReadVar.j1]
   refine evPos (by simp) (evPos (by omega) (evPos h1 ?_))
   rw [w64 (x := bt t (a + i)) (by omega) (by omega), Int.tmod_eq_emod_of_nonneg hr.1]
   have hm := mulPow (bt t (a + i) % 128) i (by omega) (by omega) (by omega)
   rw [w64 (x := bt t (a + i) % 128 * (128 ^ i : Nat)) (by omega) (by omega), w64 (x := n + bt t (a + i) % 128 * (128 ^ i : Nat)) (by omega) (by omega)]
   by_cases h2 : bt t (a + i) < 128
   ·rw [if_pos h2]
    rw [show bt t (a + i) % 128 = bt t (a + i) by omega] at hm ⊢
    have hx : 0 ≤ n + bt t (a + i) * (128 ^ i : Nat) ∧ n + bt t (a + i) * (128 ^ i : Nat) ≤ 40000000000 := by omega
    generalize n + bt t (a + i) * (128 ^ i : Nat) = x at hx ⊢
    refine evPos h2 ?_
    rw [w64 (x := a + (i : Int) + 1) (by omega) (by omega)]
    by_cases hc : x ≤ 1000000000
    ·refine evNeg (by omega) (Ev.bind (ev_spec_l01Var x hx.1 hc) (evPos ha (evPos (by omega) (evPos (by omega) ?_))))
     rw [show (a + (i : Int) + 1).toNat = a.toNat + i + 1 by omega]
     by_cases hv : varS x = t.extract a.toNat (a.toNat + i + 1)
     ·exact evEq (evPos (toList_iff.2 hv) (Ev.now _)) (if_pos ⟨hc, hv⟩).symm
     ·exact evEq (evNeg (fun z => hv (toList_iff.1 z)) (Ev.now _)) (if_neg (fun z => hv z.2)).symm
    ·rw [if_neg (fun z => hc z.1)]
     exact evPos (by omega) (Ev.now _)
   ·rw [if_neg h2]
    rw [show bt t (a + i) % 128 = bt t (a + i) - 128 by omega] at hm ⊢
    rw [w64 (x := a + (i : Int) + 1) (by omega) (by omega), w64 (x := ((128 ^ i : Nat) : Int) * 128) (by omega) (by omega)]
    refine evNeg h2 ?_
    have := ih (i + 1) (n + (bt t (a + i) - 128) * (128 ^ i : Nat)) (by omega) (by omega) (by rw [powSucc]; omega)
    rw [powSucc, show a + ((i + 1 : Nat) : Int) = a + (i : Int) + 1 by omega, Int.mul_comm 128] at this
    exact this
  ·rw [if_neg h1]
   refine evNeg h1 (evSucc ?_)
   simp only [spec_ReadVar.j1]
   exact evNeg (by simp) (Ev.now _)
theorem ev_spec_ReadVar (t : ByteArray) (a : Int) (ht : t.size ≤ 140737488351232) : Ev (fun k => spec_ReadVar.f k t a) (readVarS t a) := by
 simp only [spec_ReadVar.f, spec_in, Option.bind_some]
 unfold readVarS
 by_cases h : 0 ≤ a ∧ a ≤ t.size
 ·rw [if_pos h, show rng a 0 (t.size : Int) = true by unfold rng; simp; omega]
  refine evPos rfl ?_
  have := ev_spec_rv t a ht h.1 h.2 5 0 0 (by omega) (by omega) (by decide)
  rw [show a + ((0 : Nat) : Int) = a by omega] at this
  exact this
 ·rw [if_neg h, show rng a 0 (t.size : Int) = false by unfold rng; simp; omega]
  exact evNeg (by simp) (Ev.now _)
def noFrame : Int × Int × Int × Int × Int × Int × Int × Bool := (0, 0, 0, 0, 0, 0, 0, false)
def rfIn (s : ByteArray) : Int × Int × Int × Int × Int × Int × Int × Bool :=
 if 2 ≤ s.size then
  if (readVarS s 2).2.2 = true ∧ (readVarS s 2).2.1 + 9 ≤ s.size then
   if (readVarS s ((readVarS s 2).2.1 + 9)).2.2 = true ∧ (readVarS s ((readVarS s 2).2.1 + 9)).2.1 = s.size ∧
    frameB (bt s 0) (bt s 1) (readVarS s 2).1 (bt s (readVarS s 2).2.1) (fourV s ((readVarS s 2).2.1 + 1)) (fourV s ((readVarS s 2).2.1 + 5)) (readVarS s ((readVarS s 2).2.1 + 9)).1 = true then
    (bt s 0, bt s 1, (readVarS s 2).1, bt s (readVarS s 2).2.1, fourV s ((readVarS s 2).2.1 + 1), fourV s ((readVarS s 2).2.1 + 5), (readVarS s ((readVarS s 2).2.1 + 9)).1, true)
   else noFrame
  else noFrame
 else noFrame
def readFrameS (t : ByteArray) : Int × Int × Int × Int × Int × Int × Int × Bool := if (unsealS t).2 = true then rfIn (unsealS t).1 else noFrame
theorem raw_read (s : ByteArray) (seq at_ count e : Int) (h2 : 2 ≤ s.size) (hv : readVarS s 2 = (seq, at_, true)) (h9 : at_ + 9 ≤ s.size) (hc : readVarS s (at_ + 9) = (count, e, true)) :
 frameRaw (bt s 0) (bt s 1) seq (bt s at_) (fourV s (at_ + 1)) (fourV s (at_ + 5)) count = s.extract 0 e.toNat := by
 obtain ⟨_, _, _, q1, q2, _, q3⟩ := readVarS_ok hv
 obtain ⟨_, _, _, r1, r2, _, r3⟩ := readVarS_ok hc
 have b0 := bt_range s 0
 have b1 := bt_range s 1
 have ba := bt_range s at_
 obtain ⟨m, rfl⟩ := Int.eq_ofNat_of_zero_le (show 0 ≤ at_ by omega)
 unfold frameRaw
 rw [show bt s 0 % 256 = bt s 0 by omega, show bt s 1 % 256 = bt s 1 by omega, show bt s (m : Int) % 256 = bt s (m : Int) by omega]
 have e2 := ext2 s 0 (by omega)
 rw [show ((0 : Nat) : Int) = 0 from rfl, show ((0 + 1 : Nat) : Int) = 1 from rfl] at e2
 rw [← e2, ← ext1 s m (by omega), q3, r3]
 have f1 := four4_fourV s (m + 1) (by omega)
 have f2 := four4_fourV s (m + 5) (by omega)
 rw [show ((m + 1 : Nat) : Int) = (m : Int) + 1 by omega] at f1
 rw [show ((m + 5 : Nat) : Int) = (m : Int) + 5 by omega] at f2
 rw [f1, f2, show ((2 : Int)).toNat = 2 from rfl, show ((m : Int) + 9).toNat = m + 9 by omega, show ((m : Int)).toNat = m by omega]
 rw [extCat s 0 2 m (by omega) (by omega), extCat s 0 m (m + 1) (by omega) (by omega), extCat s 0 (m + 1) (m + 1 + 4) (by omega) (by omega), extCat s 0 (m + 5) (m + 5 + 4) (by omega) (by omega), extCat s 0 (m + 9) e.toNat (by omega) (by omega)]
theorem readFrameS_ok {t : ByteArray} {a b c d e f g : Int} (h : readFrameS t = (a, b, c, d, e, f, g, true)) : frameS a b c d e f g = (t, true) := by
 unfold readFrameS at h
 split at h
 ·rename_i hu
  obtain ⟨s, hs⟩ : ∃ s, unsealS t = (s, true) := ⟨_, Prod.ext rfl hu⟩
  rw [hs] at h
  unfold rfIn at h
  split at h
  ·rename_i h2
   split at h
   ·rename_i h3
    split at h
    ·rename_i h4
     obtain ⟨seq, at_, hv⟩ : ∃ x y, readVarS s 2 = (x, y, true) := ⟨_, _, Prod.ext rfl (Prod.ext rfl h3.1)⟩
     simp only [hv] at h h3 h4
     obtain ⟨count, e', hc⟩ : ∃ x y, readVarS s (at_ + 9) = (x, y, true) := ⟨_, _, Prod.ext rfl (Prod.ext rfl h4.1)⟩
     simp only [hc] at h h4
     have hraw := raw_read s seq at_ count e' h2 hv h3.2 hc
     simp only [Prod.mk.injEq, and_true] at h
     obtain ⟨rfl, rfl, rfl, rfl, rfl, rfl, rfl⟩ := h
     unfold frameS
     rw [if_pos h4.2.2, hraw, h4.2.1, Int.toNat_natCast, extAll, ← (unsealS_ok hs).1]
    ·simp [noFrame] at h
   ·simp [noFrame] at h
  ·simp [noFrame] at h
 ·simp [noFrame] at h
theorem ev_impl_ReadFrame (t : ByteArray) (ht : t.size ≤ 140737488351232) : Ev (fun k => impl_ReadFrame.f k t) (readFrameS t) := by
 have no : ∀ s, Ev (fun k => impl_ReadFrame.j0 k s true) noFrame := fun s => by
  refine evSucc ?_
  simp only [impl_ReadFrame.j0]
  exact evPos (by simp) (Ev.now _)
 simp only [impl_ReadFrame.f]
 refine Ev.bind (ev_impl_Unsealed t ht) ?_
 unfold readFrameS
 cases hu : (unsealS t).2
 ·exact evNeg (by simp) (evEq (no _) (if_neg (by simp)).symm)
 ·rw [if_pos rfl]
  refine evPos rfl ?_
  have hs : (unsealS t).1.size ≤ 20000 := (unsealS_ok (t := t) (s := (unsealS t).1) (Prod.ext rfl hu)).2
  generalize (unsealS t).1 = s at hs ⊢
  unfold rfIn
  by_cases h2 : 2 ≤ s.size
  ·rw [if_pos h2, show decide ((s.size : Int) < 2) = false by simp; omega]
   refine evSucc ?_
   simp only [impl_ReadFrame.j0]
   refine evNeg (by simp) (Ev.bind (ev_impl_ReadVar s 2 (by omega)) ?_)
   have no1 : ∀ x y, Ev (fun k => impl_ReadFrame.j1 k s x y true) noFrame := fun x y => by
    refine evSucc ?_
    simp only [impl_ReadFrame.j1]
    exact evPos (by simp) (Ev.now _)
   cases hv : (readVarS s 2).2.2
   ·rw [if_neg (by simp)]
    exact evNeg (by simp) (no1 _ _)
   ·obtain ⟨seq, at_, hv'⟩ : ∃ x y, readVarS s 2 = (x, y, true) := ⟨_, _, Prod.ext rfl (Prod.ext rfl hv)⟩
    obtain ⟨_, _, _, q1, q2, _, q3⟩ := readVarS_ok hv'
    rw [hv']
    refine evPos rfl ?_
    simp only [true_and]
    rw [w64 (x := (s.size : Int) - at_) (by omega) (by omega)]
    by_cases h9 : at_ + 9 ≤ s.size
    ·rw [if_pos h9, show decide ((s.size : Int) - at_ < 9) = false by simp; omega]
     refine evSucc ?_
     simp only [impl_ReadFrame.j1]
     rw [w64 (x := at_ + 9) (by omega) (by omega), w64 (x := at_ + 1) (by omega) (by omega), w64 (x := at_ + 5) (by omega) (by omega)]
     refine evNeg (by simp) (Ev.bind (ev_impl_ReadVar s (at_ + 9) (by omega)) (evPos (by omega) (evPos (by omega) (evPos (by omega) (evPos (by omega) ?_)))))
     have b0 := bt_range s 0
     have b1 := bt_range s 1
     have ba := bt_range s at_
     rw [fourAt_impl s (at_ + 1) (by omega) (by omega) (by omega), fourAt_impl s (at_ + 5) (by omega) (by omega) (by omega), w64 (x := bt s 0) (by omega) (by omega), w64 (x := bt s 1) (by omega) (by omega), w64 (x := bt s at_) (by omega) (by omega)]
     simp only [Option.bind_some]
     cases hc : (readVarS s (at_ + 9)).2.2
     ·exact evEq (evNeg (by simp) (Ev.now _)) (if_neg (fun z => by cases z.1)).symm
     ·refine evPos rfl ?_
      by_cases he : (readVarS s (at_ + 9)).2.1 = s.size
      ·refine evPos he (Ev.bind (ev_impl_FrameOk _ _ _ _ _ _ _) ?_)
       cases hf : frameB (bt s 0) (bt s 1) seq (bt s at_) (fourV s (at_ + 1)) (fourV s (at_ + 5)) (readVarS s (at_ + 9)).1
       ·exact evEq (evNeg (by simp) (Ev.now _)) (if_neg (fun z => by cases z.2.2)).symm
       ·exact evEq (evPos rfl (Ev.now _)) (if_pos ⟨rfl, he, rfl⟩).symm
      ·rw [if_neg (fun z => he z.2.1)]
       exact evNeg he (Ev.now _)
    ·rw [if_neg h9, show decide ((s.size : Int) - at_ < 9) = true by simp; omega]
     exact no1 _ _
  ·rw [if_neg h2, show decide ((s.size : Int) < 2) = true by simp; omega]
   exact no _
theorem ev_spec_ReadFrame (t : ByteArray) (ht : t.size ≤ 140737488351232) : Ev (fun k => spec_ReadFrame.f k t) (readFrameS t) := by
 have no : ∀ s, Ev (fun k => spec_ReadFrame.j0 k t s true) noFrame := fun s => by
  refine evSucc ?_
  simp only [spec_ReadFrame.j0]
  exact evPos (by simp) (Ev.now _)
 simp only [spec_ReadFrame.f]
 refine Ev.bind (ev_spec_Unsealed t ht) ?_
 unfold readFrameS
 cases hu : (unsealS t).2
 ·exact evNeg (by simp) (evEq (no _) (if_neg (by simp)).symm)
 ·rw [if_pos rfl]
  refine evPos rfl ?_
  obtain ⟨hts, hs⟩ := unsealS_ok (t := t) (s := (unsealS t).1) (Prod.ext rfl hu)
  generalize (unsealS t).1 = s at hts hs ⊢
  unfold rfIn
  by_cases h2 : 2 ≤ s.size
  ·rw [if_pos h2, show decide ((s.size : Int) < 2) = false by simp; omega]
   refine evSucc ?_
   simp only [spec_ReadFrame.j0]
   refine evNeg (by simp) (Ev.bind (ev_spec_ReadVar s 2 (by omega)) ?_)
   have no1 : ∀ x y, Ev (fun k => spec_ReadFrame.j1 k t s x y true) noFrame := fun x y => by
    refine evSucc ?_
    simp only [spec_ReadFrame.j1]
    exact evPos (by simp) (Ev.now _)
   cases hv : (readVarS s 2).2.2
   ·rw [if_neg (by simp)]
    exact evNeg (by simp) (no1 _ _)
   ·obtain ⟨seq, at_, hv'⟩ : ∃ x y, readVarS s 2 = (x, y, true) := ⟨_, _, Prod.ext rfl (Prod.ext rfl hv)⟩
    obtain ⟨_, _, _, q1, q2, _, q3⟩ := readVarS_ok hv'
    rw [hv']
    refine evPos rfl ?_
    simp only [true_and]
    rw [w64 (x := (s.size : Int) - at_) (by omega) (by omega)]
    by_cases h9 : at_ + 9 ≤ s.size
    ·rw [if_pos h9, show decide ((s.size : Int) - at_ < 9) = false by simp; omega]
     refine evSucc ?_
     simp only [spec_ReadFrame.j1]
     rw [w64 (x := at_ + 9) (by omega) (by omega), w64 (x := at_ + 1) (by omega) (by omega), w64 (x := at_ + 5) (by omega) (by omega)]
     refine evNeg (by simp) (Ev.bind (ev_spec_ReadVar s (at_ + 9) (by omega)) (evPos (by omega) (evPos (by omega) (evPos (by omega) (evPos (by omega) ?_)))))
     have b0 := bt_range s 0
     have b1 := bt_range s 1
     have ba := bt_range s at_
     rw [fourAt_spec s (at_ + 1) (by omega) (by omega) (by omega), fourAt_spec s (at_ + 5) (by omega) (by omega) (by omega), w64 (x := bt s 0) (by omega) (by omega), w64 (x := bt s 1) (by omega) (by omega), w64 (x := bt s at_) (by omega) (by omega)]
     simp only [Option.bind_some]
     refine Ev.bind (ev_spec_FrameText _ _ _ _ _ _ _) ?_
     cases hc : (readVarS s (at_ + 9)).2.2
     ·exact evEq (evNeg (by simp) (Ev.now _)) (if_neg (fun z => by cases z.1)).symm
     ·obtain ⟨count, e', hc'⟩ : ∃ x y, readVarS s (at_ + 9) = (x, y, true) := ⟨_, _, Prod.ext rfl (Prod.ext rfl hc)⟩
      obtain ⟨_, _, _, r1, r2, _, r3⟩ := readVarS_ok hc'
      have hraw := raw_read s seq at_ count e' h2 hv' h9 hc'
      rw [hc']
      refine evPos rfl ?_
      unfold frameS
      cases hf : frameB (bt s 0) (bt s 1) seq (bt s at_) (fourV s (at_ + 1)) (fourV s (at_ + 5)) count
      ·exact evEq (evNeg (by simp) (Ev.now _)) (if_neg (fun z => by cases z.2.2)).symm
      ·refine evPos rfl ?_
       by_cases he : e' = s.size
       ·refine evEq (evPos ?_ (Ev.now _)) (if_pos ⟨rfl, he, rfl⟩).symm
        rw [if_pos rfl, hraw, he, Int.toNat_natCast, extAll, hts]
       ·refine evEq (evNeg (fun z => ?_) (Ev.now _)) (if_neg (fun z => he z.2.1)).symm
        rw [if_pos rfl, hraw] at z
        have hz := congrArg ByteArray.size (toList_inj z)
        rw [hts, sizeApp, sizeApp, four4_size, four4_size, ByteArray.size_extract] at hz
        omega
    ·rw [if_neg h9, show decide ((s.size : Int) - at_ < 9) = true by simp; omega]
     exact no1 _ _
  ·rw [if_neg h2, show decide ((s.size : Int) < 2) = true by simp; omega]
   exact no _
theorem dataApp (a b : ByteArray) : (a ++ b).data.toList = a.data.toList ++ b.data.toList := by simp
theorem ext_mid (p s q : ByteArray) : ((p ++ s) ++ q).extract p.size (p.size + s.size) = s := by
 apply ByteArray.ext
 apply Array.ext'
 rw [ByteArray.data_extract, Array.toList_extract, List.extract_eq_take_drop, dataApp, dataApp, List.append_assoc, sizeData p, sizeData s, List.drop_left, Nat.add_sub_cancel_left, List.take_left]
theorem bt_list (s : ByteArray) (i : Nat) : bt s (i : Int) = ((s.data.toList[i]?).map (fun b => (b.toNat : Int))).getD 0 := by
 by_cases h : i < s.size
 ·rw [bt_byte s i h]
  have hl : i < s.data.toList.length := by rw [← sizeData]; exact h
  rw [List.getElem?_eq_getElem hl]
  rfl
 ·unfold bt
  rw [dif_neg (by simpa using h), List.getElem?_eq_none (by rw [← sizeData]; omega)]
  rfl
theorem bt_left (p q : ByteArray) (i : Nat) (h : i < p.size) : bt (p ++ q) (i : Int) = bt p (i : Int) := by
 rw [bt_list, bt_list, dataApp, List.getElem?_append_left (by rw [← sizeData]; exact h)]
theorem bt_right (p q : ByteArray) (i : Nat) : bt (p ++ q) ((p.size + i : Nat) : Int) = bt q (i : Int) := by
 rw [bt_list, bt_list, dataApp, List.getElem?_append_right (by rw [← sizeData]; omega), sizeData p, Nat.add_sub_cancel_left]
theorem bt_nums (l : List Int) (i : Nat) (hi : i < l.length) (h : ∀ x ∈ l, 0 ≤ x ∧ x < 256) : bt (strOfNums l) (i : Int) = l[i] := by
 have e : (strOfNums l).data.toList = l.map (fun z => UInt8.ofNat z.toNat) := by simp [strOfNums]
 have hx := h _ (List.getElem_mem hi)
 rw [bt_list, e, List.getElem?_map, List.getElem?_eq_getElem hi]
 simp
 omega
theorem varL_rng (n : Nat) : ∀ x ∈ varL n, 0 ≤ x ∧ x < 256 := by
 induction n using Nat.strongRecOn with
 | ind n ih =>
  intro x hx
  by_cases h : n ≤ 127
  ·rw [varL_small n h] at hx
   rw [List.mem_singleton.1 hx]; omega
  ·rw [varL_big n (by omega)] at hx
   rcases List.mem_cons.1 hx with rfl | hx
   ·omega
   ·exact ih _ (by omega) x hx
theorem readVar_back (p q : ByteArray) (N : Nat) (hN : N ≤ 1000000000) : readVarS ((p ++ varS (N : Int)) ++ q) (p.size : Int) = ((N : Int), ((p.size + (varS (N : Int)).size : Nat) : Int), true) := by
 have hv : varS (N : Int) = strOfNums (varL N) := by unfold varS; rw [Int.toNat_natCast]
 have hsz : (varS (N : Int)).size = (varL N).length := by rw [hv, strOfNums_size]
 have key : ∀ (m : Nat) (i d : Nat) (n : Nat) (pre : List Int), varL N = pre ++ varL m → pre.length = i → n + m * 128 ^ i = N → i + d = 5 → (varL m).length ≤ d →
  rvGo ((p ++ varS (N : Int)) ++ q) (p.size : Int) d (n : Int) i = ((N : Int), ((p.size + (varS (N : Int)).size : Nat) : Int), true) := by
  intro m
  induction m using Nat.strongRecOn with
  | ind m ih =>
   intro i d n pre h1 h2 h3 h4 h5
   have hbyte : ∀ (x : Int) (tl : List Int), varL m = x :: tl → bt ((p ++ varS (N : Int)) ++ q) ((p.size : Int) + (i : Int)) = x ∧ i < (varS (N : Int)).size := by
    intro x tl hx
    have hlen : i < (varL N).length := by rw [h1, hx, List.length_append, List.length_cons]; omega
    have hi : i < (varS (N : Int)).size := by rw [hsz]; exact hlen
    refine ⟨?_, hi⟩
    rw [ByteArray.append_assoc, show (p.size : Int) + (i : Int) = ((p.size + i : Nat) : Int) by omega, bt_right, bt_left _ _ _ hi, hv, bt_nums _ _ hlen (varL_rng N)]
    have : (varL N)[i]? = some x := by
     rw [h1, hx, List.getElem?_append_right (by omega), h2, Nat.sub_self]
     rfl
    rw [List.getElem?_eq_getElem hlen] at this
    exact Option.some.inj this
   have htot : (((p ++ varS (N : Int)) ++ q).size : Int) = p.size + (varS (N : Int)).size + q.size := by rw [sizeApp, sizeApp]; omega
   obtain ⟨d, rfl⟩ : ∃ d', d = d' + 1 := ⟨d - 1, by
    have : 0 < (varL m).length := by
     by_cases h : m ≤ 127
     ·rw [varL_small m h]; simp
     ·rw [varL_big m (by omega)]; simp
    omega⟩
   unfold rvGo
   by_cases hm : m ≤ 127
   ·obtain ⟨hb, hi⟩ := hbyte (m : Int) [] (varL_small m hm)
    rw [if_pos (by omega), hb, if_pos (by omega)]
    have hx : (n : Int) + (m : Int) * ((128 ^ i : Nat) : Int) = (N : Int) := by
     have h3' : ((n + m * 128 ^ i : Nat) : Int) = (N : Int) := congrArg Int.ofNat h3
     rw [Int.natCast_add, Int.natCast_mul] at h3'
     exact h3'
    have hlast : (varS (N : Int)).size = i + 1 := by rw [hsz, h1, varL_small m hm, List.length_append, h2, List.length_singleton]
    rw [hx, if_pos ⟨by omega, by
     rw [Int.toNat_natCast, Nat.add_assoc, ← hlast]
     exact (ext_mid p _ q).symm⟩, hlast]
    rw [show (p.size : Int) + (i : Int) + 1 = ((p.size + (i + 1) : Nat) : Int) by omega]
   ·obtain ⟨hb, hi⟩ := hbyte _ _ (varL_big m (by omega))
    rw [if_pos (by omega), hb, if_neg (by omega)]
    have hlen5 := h5
    rw [varL_big m (by omega), List.length_cons] at hlen5
    have hn' : (n : Int) + (((m % 128 + 128 : Nat) : Int) - 128) * ((128 ^ i : Nat) : Int) = ((n + (m % 128) * 128 ^ i : Nat) : Int) := by
     have q1 : ((m % 128 + 128 : Nat) : Int) - 128 = ((m % 128 : Nat) : Int) := by omega
     rw [q1, Int.natCast_add n, Int.natCast_mul (m % 128)]
    rw [hn']
    refine ih (m / 128) (by omega) (i + 1) d _ (pre ++ [((m % 128 + 128 : Nat) : Int)]) ?_ ?_ ?_ (by omega) (by omega)
    ·rw [h1, varL_big m (by omega), List.append_assoc]
     rfl
    ·rw [List.length_append, List.length_singleton, h2]
    ·rw [Nat.pow_succ, ← h3]
     have : m * 128 ^ i = (128 * (m / 128) + m % 128) * 128 ^ i := by rw [Nat.div_add_mod]
     rw [this, Nat.add_mul, Nat.mul_comm (128 ^ i) 128, ← Nat.mul_assoc, Nat.mul_comm (m / 128) 128]
     omega
 have h5 := varL_len N hN
 have := key N 0 5 0 [] rfl rfl (by simp) rfl h5
 unfold readVarS
 rw [if_pos ⟨by omega, by rw [sizeApp, sizeApp]; omega⟩]
 exact this
def rsS (t : ByteArray) (a : Int) : ByteArray × Int × Bool :=
 if (readVarS t a).2.2 = true ∧ (readVarS t a).1 ≤ 20000 ∧ (readVarS t a).2.1 + (readVarS t a).1 ≤ t.size then
  (t.extract (readVarS t a).2.1.toNat ((readVarS t a).2.1.toNat + (readVarS t a).1.toNat), (readVarS t a).2.1 + (readVarS t a).1, true)
 else (⟨#[]⟩, 0, false)
theorem rsS_ok {t s : ByteArray} {a e : Int} (h : rsS t a = (s, e, true)) : 0 ≤ a ∧ a < e ∧ e ≤ t.size ∧ s.size ≤ 20000 ∧ t.extract a.toNat e.toNat = varS (s.size : Int) ++ s := by
 unfold rsS at h
 split at h
 ·rename_i hc
  obtain ⟨n, f, hv⟩ : ∃ x y, readVarS t a = (x, y, true) := ⟨_, _, Prod.ext rfl (Prod.ext rfl hc.1)⟩
  obtain ⟨q1, q2, q3, q4, q5, q6, q7⟩ := readVarS_ok hv
  simp only [hv, Prod.mk.injEq, and_true] at h hc
  obtain ⟨rfl, rfl⟩ := h
  have hsz : (t.extract f.toNat (f.toNat + n.toNat)).size = n.toNat := by rw [ByteArray.size_extract]; omega
  refine ⟨q1, by omega, by omega, by omega, ?_⟩
  rw [hsz, Int.toNat_of_nonneg q2, q7, extCat t _ _ _ (by omega) (by omega)]
  congr 1
  omega
 ·simp at h
theorem rsS_no {t : ByteArray} {a : Int} (h : (rsS t a).2.2 = false) : rsS t a = (⟨#[]⟩, 0, false) := by
 unfold rsS at h ⊢
 split at h
 ·simp at h
 ·rename_i hc
  rw [if_neg hc]
theorem ev_spec_ReadShort (t : ByteArray) (a : Int) (ht : t.size ≤ 140737488351232) : Ev (fun k => spec_ReadShort.f k t a) (rsS t a) := by
 simp only [spec_ReadShort.f]
 refine Ev.bind (ev_spec_ReadVar t a ht) ?_
 unfold rsS
 cases hc : (readVarS t a).2.2
 ·exact evEq (evNeg (by simp) (Ev.now _)) (if_neg (fun z => by cases z.1)).symm
 ·obtain ⟨n, f, hv⟩ : ∃ x y, readVarS t a = (x, y, true) := ⟨_, _, Prod.ext rfl (Prod.ext rfl hc)⟩
  obtain ⟨q1, q2, q3, q4, q5, q6, q7⟩ := readVarS_ok hv
  simp only [hv]
  refine evPos (by simp) ?_
  by_cases h1 : n ≤ 20000
  ·refine evNeg (by omega) ?_
   rw [w64 (x := (t.size : Int) - f) (by omega) (by omega), w64 (x := f + n) (by omega) (by omega)]
   by_cases h2 : f + n ≤ t.size
   ·refine evEq (evNeg (by omega) (evPos (by omega) (evPos (by omega) (evPos (by omega) (Ev.now _))))) ?_
    rw [if_pos ⟨by simp, h1, h2⟩, show (f + n).toNat = f.toNat + n.toNat by omega]
   ·exact evEq (evPos (by omega) (Ev.now _)) (if_neg (fun z => h2 z.2.2)).symm
  ·exact evEq (evPos (by omega) (Ev.now _)) (if_neg (fun z => h1 z.2.1)).symm
theorem ev_impl_ReadShort (t : ByteArray) (a : Int) (ht : t.size ≤ 140737488351232) : Ev (fun k => impl_ReadShort.f k t a) (rsS t a) := by
 simp only [impl_ReadShort.f]
 refine Ev.bind (ev_impl_ReadVar t a ht) ?_
 unfold rsS
 cases hc : (readVarS t a).2.2
 ·exact evEq (evNeg (by simp) (Ev.now _)) (if_neg (fun z => by cases z.1)).symm
 ·obtain ⟨n, f, hv⟩ : ∃ x y, readVarS t a = (x, y, true) := ⟨_, _, Prod.ext rfl (Prod.ext rfl hc)⟩
  obtain ⟨q1, q2, q3, q4, q5, q6, q7⟩ := readVarS_ok hv
  simp only [hv]
  refine evPos (by simp) ?_
  by_cases h1 : n ≤ 20000
  ·refine evNeg (by omega) ?_
   rw [w64 (x := (t.size : Int) - f) (by omega) (by omega), w64 (x := f + n) (by omega) (by omega)]
   by_cases h2 : f + n ≤ t.size
   ·refine evEq (evNeg (by omega) (evPos (by omega) (evPos (by omega) (evPos (by omega) (Ev.now _))))) ?_
    rw [if_pos ⟨by simp, h1, h2⟩, show (f + n).toNat = f.toNat + n.toNat by omega]
   ·exact evEq (evPos (by omega) (Ev.now _)) (if_neg (fun z => h2 z.2.2)).symm
  ·exact evEq (evPos (by omega) (Ev.now _)) (if_neg (fun z => h1 z.2.1)).symm
def mkE (f : Int × Int × Int × Int × Int × Int × Int × Bool) : S70 := ⟨f.2.1, f.2.2.1, ⟨f.2.2.2.1, f.2.2.2.2.1, f.2.2.2.2.2.1, f.2.2.2.2.2.2.1⟩⟩
def rlGo (t : ByteArray) : Nat → List S70 → Int → List S70 × Bool
 | 0, _, _ => ([], false)
 | d + 1, out, a =>
  if a < t.size then
   (if (rsS t a).2.2 = true ∧ (readFrameS (rsS t a).1).2.2.2.2.2.2.2 = true ∧ (readFrameS (rsS t a).1).1 = 1 ∧ out.length ≠ 200 then rlGo t d (out ++ [mkE (readFrameS (rsS t a).1)]) (rsS t a).2.1 else ([], false))
  else (out, true)
def readLogS (t : ByteArray) : List S70 × Bool := rlGo t (t.size + 1) [] 0
theorem rlGo_len (t : ByteArray) : ∀ d out a, out.length ≤ 200 → (rlGo t d out a).1.length ≤ 200 := by
 intro d
 induction d with
 | zero => intro out a _; exact Nat.zero_le _
 | succ d ih =>
  intro out a h
  unfold rlGo
  split
  ·split
   ·rename_i hc
    exact ih _ _ (by have := hc.2.2.2; simp; omega)
   ·exact Nat.zero_le _
  ·exact h
theorem readLogS_len (t : ByteArray) : (readLogS t).1.length ≤ 200 := rlGo_len t _ _ _ (Nat.zero_le _)
theorem rsS_size (t : ByteArray) (a : Int) : (rsS t a).1.size ≤ 20000 := by
 cases hc : (rsS t a).2.2
 ·rw [rsS_no hc]; decide
 ·exact (rsS_ok (t := t) (a := a) (s := (rsS t a).1) (e := (rsS t a).2.1) (Prod.ext rfl (Prod.ext rfl hc))).2.2.2.1
theorem ev_impl_rl (t : ByteArray) (ht : t.size ≤ 2000000000) : ∀ (d : Nat) (out : List S70) (a : Int), 0 ≤ a → a ≤ t.size → out.length ≤ 200 → (t.size : Int) - a < d → Ev (fun k => impl_ReadLog.l0 k t out a) (rlGo t d out a) := by
 intro d
 induction d with
 | zero => intro out a h0 h1 h2 h3; omega
 | succ d ih =>
  intro out a h0 h1 h2 h3
  refine evSucc ?_
  simp only [impl_ReadLog.l0]
  unfold rlGo
  by_cases hlt : a < t.size
  ·rw [if_pos hlt]
   have hsz := rsS_size t a
   refine evPos hlt (Ev.bind (ev_impl_ReadShort t a (by omega)) (Ev.bind (ev_impl_ReadFrame _ (by omega)) ?_))
   cases hs : (rsS t a).2.2
   ·exact evEq (evNeg (by simp) (Ev.now _)) (if_neg (fun z => by cases z.1)).symm
   ·refine evPos rfl ?_
    cases hf : (readFrameS (rsS t a).1).2.2.2.2.2.2.2
    ·exact evEq (evNeg (by simp) (Ev.now _)) (if_neg (fun z => by cases z.2.1)).symm
    ·refine evPos rfl ?_
     by_cases hk : (readFrameS (rsS t a).1).1 = 1
     ·refine evPos hk ?_
      by_cases hl : out.length = 200
      ·exact evEq (evPos (by omega) (Ev.now _)) (if_neg (fun z => z.2.2.2 hl)).symm
      ·rw [if_pos (⟨rfl, rfl, hk, hl⟩ : true = true ∧ true = true ∧ _ ∧ _)]
       obtain ⟨_, r1, r2, _, _⟩ := rsS_ok (t := t) (a := a) (s := (rsS t a).1) (e := (rsS t a).2.1) (Prod.ext rfl (Prod.ext rfl hs))
       refine evNeg (by omega) (evPos (by omega) ?_)
       exact ih _ _ (by omega) (by omega) (by simp; omega) (by omega)
     ·exact evEq (evNeg hk (Ev.now _)) (if_neg (fun z => hk z.2.2.1)).symm
  ·rw [if_neg hlt]
   exact evNeg hlt (Ev.now _)
theorem ev_impl_ReadLog (t : ByteArray) (ht : t.size ≤ 2000000000) : Ev (fun k => impl_ReadLog.f k t) (readLogS t) := by
 simp only [impl_ReadLog.f]
 exact ev_impl_rl t ht _ _ _ (by omega) (by omega) (by simp) (by omega)
theorem frameS_snd (a b c d e f g : Int) : (frameS a b c d e f g).2 = frameB a b c d e f g := by
 unfold frameS
 cases frameB a b c d e f g <;> rfl
theorem mkE_read {t : ByteArray} (h1 : (readFrameS t).2.2.2.2.2.2.2 = true) (h2 : (readFrameS t).1 = 1) : okE (mkE (readFrameS t)) = true ∧ entryT (mkE (readFrameS t)) = t := by
 obtain ⟨a, b, c, d, e, f, g, h⟩ : ∃ a b c d e f g, readFrameS t = (a, b, c, d, e, f, g, true) := ⟨_, _, _, _, _, _, _, Prod.ext rfl (Prod.ext rfl (Prod.ext rfl (Prod.ext rfl (Prod.ext rfl (Prod.ext rfl (Prod.ext rfl h1))))))⟩
 rw [h] at h2 ⊢
 obtain rfl : a = 1 := h2
 have hf := readFrameS_ok h
 constructor
 ·have := frameS_snd 1 b c d e f g
  rw [hf] at this
  exact this.symm
 ·show (frameS 1 b c d e f g).1 = t
  rw [hf]
theorem spec_full (t : ByteArray) (out : List S70) (a : Int) (h : out.length = 201) : Ev (fun k => spec_ReadLog.l0 k t [] out a) ([], false) := by
 have no : Ev (fun k => spec_ReadLog.j1 k t [] out a false) ([], false) := by
  refine evSucc ?_
  simp only [spec_ReadLog.j1]
  refine evNeg (by simp) (Ev.bind (evEq (ev_spec_LogText out) (if_neg (fun z => by omega))) ?_)
  exact evNeg (by simp) (Ev.now _)
 refine evSucc ?_
 simp only [spec_ReadLog.l0]
 rw [show decide ((out.length : Int) ≤ 200) = false by simp; omega]
 by_cases hlt : a < t.size
 ·exact evPos hlt no
 ·exact evNeg hlt no
theorem ev_spec_rl (t : ByteArray) (ht : t.size ≤ 2000000000) : ∀ (d : Nat) (out : List S70) (a : Int), 0 ≤ a → a ≤ t.size → out.length ≤ 200 → (t.size : Int) - a < d → out.all okE = true → logRaw out = t.extract 0 a.toNat →
 Ev (fun k => spec_ReadLog.l0 k t [] out a) (rlGo t d out a) := by
 intro d
 induction d with
 | zero => intro out a h0 h1 h2 h3; omega
 | succ d ih =>
  intro out a h0 h1 h2 h3 h4 h5
  refine evSucc ?_
  simp only [spec_ReadLog.l0]
  rw [show decide ((out.length : Int) ≤ 200) = true by simp; omega]
  unfold rlGo
  by_cases hlt : a < t.size
  ·rw [if_pos hlt]
   have hsz := rsS_size t a
   refine evPos hlt (evSucc ?_)
   simp only [spec_ReadLog.j1]
   refine evPos (by simp) (Ev.bind (ev_spec_ReadShort t a (by omega)) (Ev.bind (ev_spec_ReadFrame _ (by omega)) ?_))
   cases hs : (rsS t a).2.2
   ·exact evEq (evNeg (by simp) (Ev.now _)) (if_neg (fun z => by cases z.1)).symm
   ·refine evPos rfl ?_
    cases hf : (readFrameS (rsS t a).1).2.2.2.2.2.2.2
    ·exact evEq (evNeg (by simp) (Ev.now _)) (if_neg (fun z => by cases z.2.1)).symm
    ·refine evPos rfl ?_
     by_cases hk : (readFrameS (rsS t a).1).1 = 1
     ·obtain ⟨_, r1, r2, _, r3⟩ := rsS_ok (t := t) (a := a) (s := (rsS t a).1) (e := (rsS t a).2.1) (Prod.ext rfl (Prod.ext rfl hs))
      obtain ⟨m1, m2⟩ := mkE_read hf hk
      refine evPos hk (evPos (by omega) ?_)
      by_cases hl : out.length = 200
      ·refine evEq (spec_full t _ _ ?_) (if_neg (fun z => z.2.2.2 hl)).symm
       simp; omega
      ·rw [if_pos (⟨rfl, rfl, hk, hl⟩ : true = true ∧ true = true ∧ _ ∧ _)]
       refine ih _ _ (by omega) (by omega) (by simp; omega) (by omega) ?_ ?_
       ·rw [List.all_append, h4]
        simp
        exact m1
       ·show logRaw (out ++ [mkE (readFrameS (rsS t a).1)]) = _
        rw [logRaw_snoc, h5, m2, ByteArray.append_assoc, ← r3, extCat t _ _ _ (by omega) (by omega)]
     ·exact evEq (evNeg hk (Ev.now _)) (if_neg (fun z => hk z.2.2.1)).symm
  ·rw [if_neg hlt]
   refine evNeg hlt (evSucc ?_)
   simp only [spec_ReadLog.j1]
   refine evNeg (by simp) (Ev.bind (evEq (ev_spec_LogText out) (if_pos ⟨h2, h4⟩)) ?_)
   refine evPos rfl (evPos ?_ (Ev.now _))
   rw [h5, show a.toNat = t.size by omega, extAll]
theorem ev_spec_ReadLog (t : ByteArray) (ht : t.size ≤ 2000000000) : Ev (fun k => spec_ReadLog.f k t) (readLogS t) := by
 simp only [spec_ReadLog.f]
 refine ev_spec_rl t ht _ _ _ (by omega) (by omega) (by simp) (by omega) rfl ?_
 show (⟨#[]⟩ : ByteArray) = _
 apply ByteArray.ext
 simp
theorem rsS_back (p s q : ByteArray) (hs : s.size ≤ 20000) : rsS (p ++ ((varS (s.size : Int) ++ s) ++ q)) (p.size : Int) = (s, ((p.size + ((varS (s.size : Int)).size + s.size) : Nat) : Int), true) := by
 have h := readVar_back p (s ++ q) s.size (by omega)
 have e : (p ++ varS (s.size : Int)) ++ (s ++ q) = p ++ ((varS (s.size : Int) ++ s) ++ q) := by simp only [ByteArray.append_assoc]
 rw [e] at h
 have htot : (p ++ ((varS (s.size : Int) ++ s) ++ q)).size = p.size + (varS (s.size : Int)).size + s.size + q.size := by simp only [sizeApp]; omega
 unfold rsS
 simp only [h]
 rw [if_pos ⟨trivial, by omega, by omega⟩]
 have hm := ext_mid (p ++ varS (s.size : Int)) s q
 have e2 : ((p ++ varS (s.size : Int)) ++ s) ++ q = p ++ ((varS (s.size : Int) ++ s) ++ q) := by simp only [ByteArray.append_assoc]
 rw [e2, sizeApp] at hm
 rw [Int.toNat_natCast, Int.toNat_natCast, hm]
 congr 2
 omega
def noSeg : Int × ByteArray × List S70 × ByteArray × Bool := (0, ⟨#[]⟩, [], ⟨#[]⟩, false)
def rsgIn (t x : ByteArray) (from_ at_ : Int) : Int × ByteArray × List S70 × ByteArray × Bool :=
 if (rsS x (at_ + 32)).2.2 = true ∧ (readLogS (rsS x (at_ + 32)).1).2 = true ∧ segTextS from_ (x.extract at_.toNat (at_ + 32).toNat) (readLogS (rsS x (at_ + 32)).1).1 (headS (x.extract at_.toNat (at_ + 32).toNat) (readLogS (rsS x (at_ + 32)).1).1) = (t, true) then
  (from_, x.extract at_.toNat (at_ + 32).toNat, (readLogS (rsS x (at_ + 32)).1).1, headS (x.extract at_.toNat (at_ + 32).toNat) (readLogS (rsS x (at_ + 32)).1).1, true)
 else noSeg
def readSegS (t : ByteArray) : Int × ByteArray × List S70 × ByteArray × Bool :=
 if (unsealS t).2 = true ∧ (readVarS (unsealS t).1 0).2.2 = true ∧ (readVarS (unsealS t).1 0).2.1 + 32 ≤ (unsealS t).1.size then rsgIn t (unsealS t).1 (readVarS (unsealS t).1 0).1 (readVarS (unsealS t).1 0).2.1 else noSeg
theorem rsgIn_len (t x : ByteArray) (f a : Int) : (rsgIn t x f a).2.2.1.length ≤ 200 := by
 unfold rsgIn
 split
 ·exact readLogS_len _
 ·exact Nat.zero_le _
theorem readSegS_len (t : ByteArray) : (readSegS t).2.2.1.length ≤ 200 := by
 unfold readSegS
 split
 ·exact rsgIn_len _ _ _ _
 ·exact Nat.zero_le _
theorem pairEq {a : ByteArray × Bool} {t : ByteArray} (h1 : a.2 = true) (h2 : a.1.toList = t.toList) : a = (t, true) := Prod.ext (toList_inj h2) h1
theorem segEnd {t x : ByteArray} {f a : Int} {l : List S70} {d : ByteArray} (hu : unsealS t = (x, true)) (hv : readVarS x 0 = (f, a, true)) (ha : a + 32 ≤ x.size) (hs : segTextS f (x.extract a.toNat (a + 32).toNat) l d = (t, true)) :
 (rsS x (a + 32)).2.1 = (x.size : Int) := by
 obtain ⟨ht, hx⟩ := unsealS_ok hu
 obtain ⟨v0, v1, v2, v3, v4, v5, v6⟩ := readVarS_ok hv
 unfold segTextS at hs
 split at hs
 ·rename_i hc
  have hbs : (x.extract a.toNat (a + 32).toNat).size = 32 := by rw [ByteArray.size_extract]; omega
  have hvs : (varS f).size = a.toNat := by rw [v6, ByteArray.size_extract]; omega
  have hp : (varS f ++ x.extract a.toNat (a + 32).toNat).size = (a + 32).toNat := by rw [sizeApp, hvs, hbs]; omega
  generalize hL : logRaw l = L at hs hc
  unfold sealB at hs
  split at hs
  ·simp only [Prod.mk.injEq, and_true] at hs
   have hss : (((varS f ++ x.extract a.toNat (a + 32).toNat) ++ varS (L.size : Int)) ++ L).size = x.size := by
    have := congrArg ByteArray.size (hs.trans ht)
    simp only [sizeApp, four4_size] at this ⊢
    omega
   have hxx := (catInj (hs.trans ht) hss).1
   have hb := rsS_back (varS f ++ x.extract a.toNat (a + 32).toNat) L ⟨#[]⟩ (by omega)
   have e : (varS f ++ x.extract a.toNat (a + 32).toNat) ++ ((varS (L.size : Int) ++ L) ++ ⟨#[]⟩) = x := by
    rw [ByteArray.append_assoc] at hxx
    rw [show ((varS (L.size : Int) ++ L) ++ (⟨#[]⟩ : ByteArray)) = varS (L.size : Int) ++ L from ByteArray.append_empty]
    exact hxx
   rw [e, hp, Int.toNat_of_nonneg (by omega)] at hb
   rw [hb]
   show (((a + 32).toNat + _ : Nat) : Int) = _
   have h5 := hss
   rw [sizeApp, sizeApp, hp] at h5
   omega
  ·simp at hs
 ·simp at hs
theorem ev_spec_ReadSegment (t : ByteArray) (ht : t.size ≤ 140737488351232) : Ev (fun k => spec_ReadSegment.f k t) (readSegS t) := by
 have no : ∀ (x : ByteArray) (a b : Int) (y : Bool), y = true → Ev (fun k => spec_ReadSegment.j0 k t x a b y 0 ⟨#[]⟩ ⟨#[]⟩) noSeg := by
  rintro x a b y rfl
  refine evSucc ?_
  simp only [spec_ReadSegment.j0]
  exact evPos trivial (Ev.now _)
 simp only [spec_ReadSegment.f]
 refine Ev.bind (ev_spec_Unsealed t ht) ?_
 unfold readSegS
 cases hu : (unsealS t).2
 ·exact evEq (evNeg (by simp) (Ev.now _)) (if_neg (fun z => by cases z.1)).symm
 have hx := (unsealS_ok (t := t) (s := (unsealS t).1) (Prod.ext rfl hu)).2
 generalize (unsealS t).1 = x at hx ⊢
 refine evPos rfl (Ev.bind (ev_spec_ReadVar x 0 (by omega)) ?_)
 cases hv : (readVarS x 0).2.2
 ·exact evEq (evNeg (by simp) (no _ _ _ _ rfl)) (if_neg (fun z => by cases z.2.1)).symm
 obtain ⟨v0, v1, v2, v3, v4, v5, v6⟩ := readVarS_ok (t := x) (a := 0) (x := (readVarS x 0).1) (e := (readVarS x 0).2.1) (Prod.ext rfl (Prod.ext rfl hv))
 generalize (readVarS x 0).1 = f at *
 generalize (readVarS x 0).2.1 = a at *
 refine evPos rfl ?_
 rw [w64 (x := a + 32) (by omega) (by omega)]
 by_cases h32 : a + 32 ≤ x.size
 ·rw [if_pos (show true = true ∧ true = true ∧ _ from ⟨rfl, rfl, h32⟩)]
  refine evSucc ?_
  simp only [spec_ReadSegment.j0]
  rw [w64 (x := a + 32) (by omega) (by omega)]
  refine evNeg (by simp; omega) (Ev.bind (ev_spec_ReadShort x _ (by omega)) ?_)
  unfold rsgIn
  have hrs := rsS_size x (a + 32)
  cases hr : (rsS x (a + 32)).2.2
  ·exact evEq (evNeg (by simp) (Ev.now _)) (if_neg (fun z => by cases z.1)).symm
  refine evPos rfl (Ev.bind (ev_spec_ReadLog _ (by omega)) ?_)
  have hll := readLogS_len (rsS x (a + 32)).1
  generalize (rsS x (a + 32)).1 = g at *
  cases hg : (readLogS g).2
  ·exact evEq (evNeg (by simp) (Ev.now _)) (if_neg (fun z => by cases z.2.1)).symm
  have hbs : (x.extract a.toNat (a + 32).toNat).size ≤ 32 := by rw [ByteArray.size_extract]; omega
  refine evPos rfl (evPos (by omega) (evPos (by omega) (evPos (by omega) (Ev.bind (ev_spec_HeadFrom _ _ (by omega) (by omega)) (Ev.bind (ev_spec_SegmentText _ _ _ _) ?_)))))
  generalize hq : segTextS f (x.extract a.toNat (a + 32).toNat) (readLogS g).1 (headS (x.extract a.toNat (a + 32).toNat) (readLogS g).1) = q
  by_cases h1 : q.2 = true
  ·by_cases h2 : q.1.toList = t.toList
   ·exact evEq (evPos h1 (evPos h2 (Ev.now _))) (if_pos (⟨rfl, rfl, pairEq h1 h2⟩ : true = true ∧ true = true ∧ q = (t, true))).symm
   ·exact evEq (evPos h1 (evNeg h2 (Ev.now _))) (if_neg (fun z => h2 (by rw [z.2.2]))).symm
  ·exact evEq (evNeg h1 (Ev.now _)) (if_neg (fun z => h1 (by rw [z.2.2]))).symm
 ·rw [if_neg (fun z => h32 z.2.2)]
  exact no _ _ _ _ (by simp; omega)
theorem ev_impl_ReadSegment (t : ByteArray) (ht : t.size ≤ 140737488351232) : Ev (fun k => impl_ReadSegment.f k t) (readSegS t) := by
 have no : ∀ (x : ByteArray) (a b : Int) (y : Bool), y = true → Ev (fun k => impl_ReadSegment.j0 k t x a b y) noSeg := by
  rintro x a b y rfl
  refine evSucc ?_
  simp only [impl_ReadSegment.j0]
  exact evPos trivial (Ev.now _)
 have no1 : ∀ (y : Bool) (a : Int) (b : ByteArray) (l : List S70) (d : ByteArray), y = true → Ev (fun k => impl_ReadSegment.j1 k t y a b l d) noSeg := by
  rintro y a b l d rfl
  refine evSucc ?_
  simp only [impl_ReadSegment.j1]
  exact evPos trivial (Ev.now _)
 simp only [impl_ReadSegment.f]
 refine Ev.bind (ev_impl_Unsealed t ht) ?_
 unfold readSegS
 cases hu : (unsealS t).2
 ·exact evEq (evNeg (by simp) (Ev.now _)) (if_neg (fun z => by cases z.1)).symm
 have hux : unsealS t = ((unsealS t).1, true) := Prod.ext rfl hu
 have hx := (unsealS_ok hux).2
 generalize (unsealS t).1 = x at hx hux ⊢
 refine evPos rfl (Ev.bind (ev_impl_ReadVar x 0 (by omega)) ?_)
 cases hv : (readVarS x 0).2.2
 ·exact evEq (evNeg (by simp) (no _ _ _ _ rfl)) (if_neg (fun z => by cases z.2.1)).symm
 have hvx : readVarS x 0 = ((readVarS x 0).1, (readVarS x 0).2.1, true) := Prod.ext rfl (Prod.ext rfl hv)
 obtain ⟨v0, v1, v2, v3, v4, v5, v6⟩ := readVarS_ok hvx
 generalize (readVarS x 0).1 = f at *
 generalize (readVarS x 0).2.1 = a at *
 refine evPos rfl ?_
 rw [w64 (x := (x.size : Int) - a) (by omega) (by omega)]
 by_cases h32 : a + 32 ≤ x.size
 ·rw [if_pos (show true = true ∧ true = true ∧ _ from ⟨rfl, rfl, h32⟩)]
  refine evSucc ?_
  simp only [impl_ReadSegment.j0]
  rw [w64 (x := a + 32) (by omega) (by omega)]
  have hrs := rsS_size x (a + 32)
  have hll := readLogS_len (rsS x (a + 32)).1
  have hbs : (x.extract a.toNat (a + 32).toNat).size ≤ 32 := by rw [ByteArray.size_extract]; omega
  have hse := fun l d => segEnd (l := l) (d := d) hux hvx h32
  refine evNeg (by simp; omega) (Ev.bind (ev_impl_ReadShort x _ (by omega)) (Ev.bind (ev_impl_ReadLog _ (by omega)) (evPos (by omega) (evPos (by omega) (evPos (by omega) (Ev.bind (ev_impl_HeadFrom _ _ (by omega) (by omega)) ?_))))))
  unfold rsgIn
  cases hr : (rsS x (a + 32)).2.2
  ·exact evEq (evNeg (by simp) (no1 _ _ _ _ _ rfl)) (if_neg (fun z => by cases z.1)).symm
  generalize (rsS x (a + 32)).1 = g at *
  cases hg : (readLogS g).2
  ·exact evEq (evPos rfl (evNeg (by simp) (no1 _ _ _ _ _ rfl))) (if_neg (fun z => by cases z.2.1)).symm
  refine evPos rfl (evPos rfl ?_)
  generalize hd : headS (x.extract a.toNat (a + 32).toNat) (readLogS g).1 = d
  generalize hq : segTextS f (x.extract a.toNat (a + 32).toNat) (readLogS g).1 d = q
  by_cases he : (rsS x (a + 32)).2.1 = (x.size : Int)
  ·refine evSucc ?_
   simp only [impl_ReadSegment.j1]
   refine evNeg (by rw [he]; simp) (Ev.bind (evEq (ev_impl_SegmentText _ _ _ _) hq) ?_)
   by_cases h1 : q.2 = true
   ·by_cases h2 : q.1.toList = t.toList
    ·exact evEq (evPos h1 (evPos h2 (Ev.now _))) (if_pos ⟨trivial, trivial, pairEq h1 h2⟩).symm
    ·exact evEq (evPos h1 (evNeg h2 (Ev.now _))) (if_neg (fun z => h2 (by rw [z.2.2]))).symm
   ·exact evEq (evNeg h1 (Ev.now _)) (if_neg (fun z => h1 (by rw [z.2.2]))).symm
  ·exact evEq (no1 _ _ _ _ _ (by simpa using he)) (if_neg (fun z => he (hse _ _ (hq.trans z.2.2)))).symm
 ·rw [if_neg (fun z => h32 z.2.2)]
  exact no _ _ _ _ (by simp; omega)
def mkdE (k : Int) : S70 := ⟨k, k + 1, ⟨k + 2, k + 3, k + 4, k + 5⟩⟩
def markE (l : List S70) (k : Int) : List S70 := (List.range l.length).map (fun (j : Nat) => mkdE (k + 6 * (j : Int)))
theorem rd_setE (l : List S70) (i : Nat) (x : S70) (hi : i < l.length) : rd_T70 (l.set i x) (i : Int) = x := by
 simp [rd_T70, hi]
theorem setsetE (l : List S70) (i : Nat) (x y : S70) : (l.set i x).set i y = l.set i y := by simp
theorem ev_markEntryS (l : List S70) (k0 : Int) (h0 : 0 ≤ k0) (h1 : k0 ≤ 1000000000) (hl : l.length ≤ 1048576) : Ev (fun k => laws_markEntryS.f k l k0) (k0 + 6 * (l.length : Int), markE l k0) := by
 have key : ∀ d i (cur : List S70), i + d = l.length → cur = (List.range i).map (fun (j : Nat) => mkdE (k0 + 6 * (j : Int))) ++ l.drop i → Ev (fun k => laws_markEntryS.l0 k cur (k0 + 6 * (i : Int)) (i : Int)) (k0 + 6 * (l.length : Int), markE l k0) := by
  intro d
  induction d with
  | zero =>
   intro i cur hi hc
   have hcl : cur.length = l.length := by rw [hc]; simp; omega
   refine evSucc ?_
   simp only [laws_markEntryS.l0]
   refine evNeg (by omega) (evEq (Ev.now _) ?_)
   rw [hc, List.drop_of_length_le (by omega), List.append_nil, show i = l.length by omega]
   rfl
  | succ d ih =>
   intro i cur hi hc
   have hcl : cur.length = l.length := by rw [hc]; simp; omega
   refine evSucc ?_
   simp only [laws_markEntryS.l0]
   refine evPos (by omega) (evPos (by omega) ?_)
   simp only [Option.bind_some, Int.toNat_natCast]
   rw [w64 (x := k0 + 6 * (i : Int) + 1) (by omega) (by omega), w64 (x := k0 + 6 * (i : Int) + 1 + 1) (by omega) (by omega), w64 (x := k0 + 6 * (i : Int) + 1 + 1 + 1) (by omega) (by omega), w64 (x := k0 + 6 * (i : Int) + 1 + 1 + 1 + 1) (by omega) (by omega), w64 (x := k0 + 6 * (i : Int) + 1 + 1 + 1 + 1 + 1) (by omega) (by omega), w64 (x := k0 + 6 * (i : Int) + 1 + 1 + 1 + 1 + 1 + 1) (by omega) (by omega), w64 (x := (i : Int) + 1) (by omega) (by omega)]
   have hi' : i < cur.length := by omega
   simp only [rd_setE _ _ _ hi', setsetE, rd_setE _ _ _ (show i < (cur.set i _).length by simpa using hi')]
   rw [ci, show k0 + 6 * (i : Int) + 1 + 1 + 1 + 1 + 1 + 1 = k0 + 6 * ((i + 1 : Nat) : Int) by omega]
   refine ih (i + 1) _ (by omega) ?_
   have hlt : i < l.length := by omega
   have hrl : ((List.range i).map (fun (j : Nat) => mkdE (k0 + 6 * (j : Int)))).length = i := by simp
   rw [hc, List.set_append_right _ _ (by rw [hrl]; omega), hrl, Nat.sub_self, List.drop_eq_getElem_cons hlt, List.set_cons_zero, List.range_succ, List.map_append, List.append_assoc]
   congr 1
   simp [mkdE]
   omega
 have := key l.length 0 l (by omega) (by simp)
 rw [show k0 + 6 * ((0 : Nat) : Int) = k0 by omega] at this
 exact this
theorem markE_len (l : List S70) (k : Int) : (markE l k).length = l.length := by simp [markE]
theorem rdMarkE (l : List S70) (k : Int) (i : Nat) (hi : i < l.length) : rd_T70 (markE l k) (i : Int) = mkdE (k + 6 * (i : Int)) := by
 simp [rd_T70, markE, hi]
theorem ev_heldEntryS (l : List S70) (k0 : Int) (h0 : 0 ≤ k0) (h1 : k0 ≤ 900000000) (hl : l.length ≤ 1048576) : Ev (fun k => laws_heldEntryS.f k (markE l k0) k0) (k0 + 6 * (l.length : Int)) := by
 have hml := markE_len l k0
 have key := evUp (r := k0 + 6 * (l.length : Int)) l.length (fun i k => laws_heldEntryS.l0 k (markE l k0) (k0 + 6 * (i : Int)) (i : Int)) ?_ ?_
 ·refine Ev.congr (fun k => ?_) key
  unfold laws_heldEntryS.f
  rw [show k0 + 6 * ((0 : Nat) : Int) = k0 by omega]
  rfl
 ·intro i hi ih
  refine evSucc ?_
  simp only [laws_heldEntryS.l0]
  rw [rdMarkE l k0 i hi, w64 (x := k0 + 6 * (i : Int) + 1) (by omega) (by omega), w64 (x := k0 + 6 * (i : Int) + 1 + 1) (by omega) (by omega), w64 (x := k0 + 6 * (i : Int) + 1 + 1 + 1) (by omega) (by omega), w64 (x := k0 + 6 * (i : Int) + 1 + 1 + 1 + 1) (by omega) (by omega), w64 (x := k0 + 6 * (i : Int) + 1 + 1 + 1 + 1 + 1) (by omega) (by omega), w64 (x := k0 + 6 * (i : Int) + 1 + 1 + 1 + 1 + 1 + 1) (by omega) (by omega), w64 (x := (i : Int) + 1) (by omega) (by omega)]
  simp only [mkdE]
  refine evPos (by omega) (evPos (by omega) (evPos trivial (evPos trivial (evPos (by omega) (evPos (by omega) (evPos (by omega) (evPos (by omega) ?_)))))))
  rw [show k0 + 6 * (i : Int) + 1 + 1 + 1 + 1 + 1 + 1 = k0 + 6 * ((i + 1 : Nat) : Int) by omega, ci]
  exact ih
 ·refine evSucc ?_
  simp only [laws_heldEntryS.l0]
  exact evNeg (by omega) (Ev.now _)
theorem ev_eqSegment (a : Int) (b : ByteArray) (l : List S70) (d : ByteArray) (hl : l.length ≤ 1048576) : Ev (fun k => laws_eqSegment.f k a b l d a b l d) true := by
 simp only [laws_eqSegment.f]
 exact evPos (by simp) (evPos (by simp) (Ev.bind (ev_eqEntryS l hl) (evPos (by simp) (evPos (by simp) (Ev.now _)))))
theorem FnExactReadSegment : PureFnExactReadSegment.Stated := by
 intro t _
 refine Ev.rounds ?_
 simp only [laws_FnExactReadSegment.f]
 by_cases hbig : (t.size : Int) > 1048576
 ·exact evPos hbig (Ev.now _)
 refine evNeg hbig ?_
 have hl := readSegS_len t
 have e1 := ev_spec_ReadSegment t (by omega)
 have e2 := ev_impl_ReadSegment t (by omega)
 generalize readSegS t = x at hl e1 e2
 obtain ⟨a, b, l, d, ok⟩ := x
 have hl' : l.length ≤ 1048576 := by have : l.length ≤ 200 := hl; omega
 refine Ev.bind e1 (Ev.bind e2 (Ev.bind (ev_eqSegment a b l d hl') (evPos rfl (evSucc ?_))))
 simp only [laws_FnExactReadSegment.j0]
 have hm : Ev (fun k => laws_markSegment.f k a b l d 1) (1 + 6 * (l.length : Int), markE l 1) := by
  simp only [laws_markSegment.f]
  exact Ev.bind (ev_markEntryS l 1 (by omega) (by omega) hl') (Ev.now _)
 have hh : Ev (fun k => laws_heldSegment.f k a b (markE l 1) d 1) (1 + 6 * (l.length : Int)) := by
  simp only [laws_heldSegment.f]
  exact Ev.bind (ev_heldEntryS l 1 (by omega) (by omega) hl') (evNeg (by omega) (Ev.now _))
 refine evNeg (by simp) (Ev.bind hm (Ev.bind hh (evNeg (by omega) (evPos rfl (Ev.bind e2 (Ev.bind (ev_eqSegment a b l d hl') (evPos rfl (evSucc ?_))))))))
 simp only [laws_FnExactReadSegment.j1]
 exact evNeg (by simp) (Ev.bind hh (evNeg (by omega) (evPos rfl (Ev.now _))))

end Go.Proofs.YtdhjolglbcoijaaDoor.Pure

namespace Go.Proofs.YtdhjolglbcoijaaDoor.fnExactReadSegment
open Go.ChangeShapes Go.WideShapes Go.ChangeAt Go.RowKit Go.Proofs.YtdhjolglbcoijaaDoor.PA Go.Proofs.YtdhjolglbcoijaaDoor.PureFnExactReadSegment Go.Proofs.YtdhjolglbcoijaaDoorW.PrintWords
open Go.ChangeMaps (open_string shut_string)
set_option linter.unusedVariables false
set_option linter.unusedSimpArgs false
theorem own : ownKnob Tryd.prog.godebug = none := by kernel_rfl
theorem laidOut : laidOutB Tryd.prog = true := by kernel_rfl
def laidV : List (String × DataW Unit) := [("loop.example/g00397/impl.shaWords", Rows.laid_loop_example_g00397_impl_shaWords)]
theorem gTab : Tryd.prog.globalNamed "loop.example/g00397/impl.shaWords" = some 0 := by kernel_rfl
theorem gTabType : (Tryd.prog.globals[0]?).map (·.type) = some 107 := by kernel_rfl
theorem door_met (os : Os) (args : Array Value) : laidMetH Tryd.prog laidV ((World.doorLaid Tryd.prog 4000 os).forCall (fun _ _ => 0) ⟨#[], args, []⟩).memory :=
 laidMetH_of_parts3 (fuel := 8) (laidMet_of_run' 8 (by kernel_rfl) (by kernel_rfl)) (by kernel_rfl) (by kernel_rfl)
/-- The table reads behind as before. -/
theorem vars_back {H : Type} {enc : TypeId × Value → H} {W W' : World} (hb : Below W.heap.size W W') {gs : List (DataW H)} {ps : List MemPlace} (h : DataW.TrodVars enc Tryd.prog W (fun _ => true) ["loop.example/g00397/impl.shaWords"] gs ps) :
 DataW.TrodVars enc Tryd.prog W' (fun b => decide (b < W.heap.size)) ["loop.example/g00397/impl.shaWords"] gs ps := by
 obtain ⟨g, t, cs, fu, d, p, rfl, hg, ht, hv, htr, rfl⟩ := trodVars_one h
 have hg2 := hg
 have ht2 := ht
 obtain rfl := Option.some.inj (gTab.symm.trans hg)
 obtain rfl := Option.some.inj (gTabType.symm.trans ht)
 have lt := DataW.trod_lt _ _ _ _ htr
 have hk : DataW.Trod enc Tryd.prog W' 0 (fun b => decide (b < W.heap.size)) true 107 (.agg cs) d p := Below.trod laidOut (by kernel_rfl) (of_decide_eq_true (by kernel_rfl)) (show DataW.Trod enc Tryd.prog W 0 (fun _ => true) true 107 (.agg cs) d p from ⟨fu, htr⟩) hb lt
 obtain ⟨m, hm⟩ := hk
 have hv2 : W'.var? Tryd.prog "loop.example/g00397/impl.shaWords" = some cs := by
  unfold World.var? at hv ⊢
  rw [gTab, Option.bind_some] at hv ⊢
  have hlt : 0 < W.heap.size := by
   rcases Nat.lt_or_ge 0 W.heap.size with h' | h'
   ·exact h'
   ·rw [Array.getElem?_eq_none h'] at hv; cases hv
  rw [hb.block 0 hlt]
  exact hv
 exact trodVars_mk1 hg2 ht2 hv2 hm
set_option maxRecDepth 100000 in
theorem lifted (os : Os) (started : os.Started) (H : Type) (enc : TypeId × Value → H) :
 ReturnsInHanded {} Tryd.checked os 9 .any (fun w args => (Rows.fnExactReadSegmentSpec.pre enc Tryd.prog Tryd.f9 [] false w args ∧ laidMetH Tryd.prog laidV w) ∧ sizedMet enc Tryd.prog Tryd.f9 (OpenSpec.ofChange Rows.fnExactReadSegmentSpec) false w args) (Rows.fnExactReadSegmentSpec.post enc Tryd.prog Tryd.f9 false true false false) := by
 refine returnsInHanded_of_change_and (C := Tryd.checked) (X := fun w _ => laidMetH Tryd.prog laidV w) (fun _ _ _ hh h => h.of_heap hh) own started (by kernel_rfl) Tryd.func9
  (ChangeSpec.witness_shaped (enc := enc) (C := Tryd.checked) (os := os) (X := fun w _ => laidMetH Tryd.prog laidV w) false (World.doorLaid Tryd.prog 4000 os) #[.string ByteArray.empty] 8 rfl (World.shaped_of_RefB (by kernel_rfl) (by kernel_rfl)) (by kernel_rfl) (by kernel_rfl) (by kernel_rfl) (door_met os _)) ?_
 intro W base args ds gs before hval0 hW _ _ hL _
 have hT : PA.Tab W := by
  rw [MakeChecks.laidMetH_plain _ _ _ (by kernel_rfl)] at hL
  exact Lib.tabIs_of_head (rest := []) gTab gTabType (t := 107) (e := 104) (n := 64) (by kernel_rfl) (by kernel_rfl) (by kernel_rfl) (by kernel_rfl) hL
 have hval : ∀ (j : Nat) t v, Tryd.f9.params[j]? = some t → args[j]? = some v → Value.okWide Tryd.prog W .any base t v := hval0
 have hW' := hW
 obtain ⟨p, q, hA0, hV, rfl, hfz, hnd⟩ := hW
 have hA : DataW.TrodAll enc Tryd.prog W 0 (fun _ => true) true Tryd.f9.params.toList args.toList ds p := hA0
 rw [Tryd.params9] at hA hval
 obtain ⟨v0, vs0, d0, ds0, p0, q0, hargs, rfl, rfl, h0, r0⟩ := trodAll_cons hA
 obtain ⟨rfl, rfl, rfl⟩ := trodAll_nil r0
 obtain rfl : args = #[v0] := by cases args; simp_all
 obtain ⟨g1, t1, cs1, fu1, dv, pv1, rfl, _⟩ := trodVars_one hV
 have k0 := h0
 have lt0 : ∀ x ∈ p0, x.block < W.heap.size := by obtain ⟨m, hm⟩ := k0; exact DataW.trod_lt m _ _ _ hm
 obtain ⟨x0, rfl, rfl, rfl, hG0⟩ := open_string Tryd.underlying9 (hval 0 9 v0 rfl rfl) h0
 obtain ⟨k, h⟩ := Pure.FnExactReadSegment x0 hG0
 refine (laws_FnExactReadSegment.calls k x0 true W  hT rfl h).mono fun e W' ⟨he, bel⟩ => ?_
 subst he
 exact ⟨_, rfl, _, _, _, [], _, _, hW', trodAll_mk1 (shut_bool Tryd.underlying4 _), (trodAll_cons_mk (Below.trod laidOut (by kernel_rfl) (of_decide_eq_true (by kernel_rfl)) k0 bel lt0) trodAll_mk0), vars_back bel hV, bel.frame _, fun h => by cases h⟩
theorem over : Rows.fnExactReadSegmentRow.holds Tryd.pinned (OpenSpec.ofChange Rows.fnExactReadSegmentSpec) :=
 OpenClaim.holds_of_wide 9 Tryd.f9 rfl rfl rfl rfl rfl rfl rfl ⟨rfl, rfl, rfl, rfl, rfl⟩ rfl rfl rfl rfl rfl (by kernel_rfl) Tryd.func9 (by kernel_rfl)
  (of_decide_eq_true (by kernel_rfl)) (by unfold Func.isWrapper; first | (rw [if_pos (by decide +kernel)]; kernel_rfl) | (rw [if_neg (by decide +kernel)]; exact ⟨rfl, rfl⟩))
  (fun os started H enc _ => lifted os started H enc)
theorem proved : Rows.FnExactReadSegmentSaid := over
#print axioms proved
end Go.Proofs.YtdhjolglbcoijaaDoor.fnExactReadSegment
namespace Go.Proofs.YtdhjolglbcoijaaDoor
/-- The tied card, under a short name, for the claim. -/
theorem fnExactReadSegment_holds : Rows.FnExactReadSegmentCardSaid :=
 Claim7.holds_tied_plain_at .later [] [.data] true (true, "86c5b83168afbe62a9fd9dd9b188a8bbcb0f32602a88b45c4d3f3879959306bb") false
  fnExactReadSegment.proved (fun _ h => by cases h) (by kernel_rfl) (fun _ h => by cases h) fnExactReadSegment_row_tie rfl ⟨rfl, rfl⟩ (by kernel_rfl) rfl
  (fun f fn hf hfn => by
   obtain rfl : f = 9 := Option.some.inj ((show Tryd.prog.funcNamed "loop.example/g00397/laws.FnExactReadSegment" = some 9 by kernel_rfl).symm.trans hf) |>.symm
   obtain rfl : fn = Tryd.f9 := (Option.some.inj (Tryd.func9.symm.trans hfn)).symm
   exact ⟨by kernel_rfl, fun j t ht => by
    rw [Tryd.params9] at ht
    have h3 : t = 9 := by
     match j, ht with
     | 0, ht => simp at ht; subst ht; simp
     | _ + 1, ht => simp at ht
    rcases h3 with rfl
    ·exact (show Tryd.prog.wantsStandIn 9 = false by kernel_rfl)⟩)
  (by kernel_rfl)
end Go.Proofs.YtdhjolglbcoijaaDoor
