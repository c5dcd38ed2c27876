/- Contracts of functions of the program and of the reference, and plain lemmas on what they compute: a part of the proof of the law FnExactCutLog. No condition. -/
import Derived.Test.YtdhjolglbcoijaaDoorGe1c07x0
import Derived.Test.YtdhjolglbcoijaaDoorG64108x0
import Derived.Test.YtdhjolglbcoijaaDoorG5622ax0
import Derived.Test.YtdhjolglbcoijaaDoorG2b405x0
import Derived.Test.YtdhjolglbcoijaaDoorGd11e3x0
import Derived.Test.YtdhjolglbcoijaaDoorGfd38cx0
import Derived.Test.YtdhjolglbcoijaaDoorGd503cx0
import Derived.Test.YtdhjolglbcoijaaDoorG42a48x0
import Derived.Test.YtdhjolglbcoijaaDoorV0
import Derived.ChangeArms
import Derived.ChangeOld
import Derived.WideShapes
import Derived.OpenShut
import Derived.DataElems
import Derived.Test.YtdhjolglbcoijaaDoorG8b2f3x0
import Derived.Test.YtdhjolglbcoijaaDoorRows
import Derived.WalkKit
import Derived.ProofKit
import Derived.ShutString
import Derived.Below
import Derived.SizedLaws
import Derived.Carry
import Derived.LaidLaws
import Derived.LaidMore
import Derived.MakeChecks
import Derived.Stop.Joined
import Derived.ChangeVars
import Derived.Lib.LaidTab
import Derived.Test.YtdhjolglbcoijaaDoorCards
import Derived.Test.YtdhjolglbcoijaaDoorTie
import Derived.SevenTiedAt
import Derived.Test.YtdhjolglbcoijaaDoorShortV
set_option maxHeartbeats 8000000
set_option maxRecDepth 100000
namespace Go.Proofs.YtdhjolglbcoijaaDoor.PA
open Go.RowKit Go.Proofs.YtdhjolglbcoijaaDoor.Short Go.Proofs.YtdhjolglbcoijaaDoorW.PrintWords Go.Proofs.YtdhjolglbcoijaaDoorW.PrintLast Go.Proofs.YtdhjolglbcoijaaDoorW.PrintMore
attribute [local go_sem] max2_int min2_int max_two min_two max_three min_three max_four min_four   -- for this text's walks alone
set_option linter.unusedVariables false
set_option linter.unusedSimpArgs false

mutual
def laws_FnExactCutLog.j0 : Nat → List (S91) → Int → List (S30) → Bool → List (S70) → List (S30) → Bool → Bool → Option (Bool)
 | 0, _, _, _, _, _, _, _, _ => none
 | k + 1, x0, x1, x6, x7, x8, x9, x10, x44 => if x44 = true then (some false) else ((laws_toEntryS.f k x0).bind fun t349 => ((laws_eqEntryS.f k x8 t349).bind fun t352 => (if t352 = true then ((laws_markEntryS.f k x8 1).bind fun bt353 => (if bt353.1 < 0 then (laws_FnExactCutLog.j1 k x0 x1 x6 x7 x9 true) else ((laws_eqSegmentS.f k x9 x6).bind fun t355 => (if t355 = true then (laws_FnExactCutLog.j1 k x0 x1 x6 x7 x9 (x10 != x7)) else (laws_FnExactCutLog.j1 k x0 x1 x6 x7 x9 true))))) else (some false))))
def laws_FnExactCutLog.j1 : Nat → List (S91) → Int → List (S30) → Bool → List (S30) → Bool → Option (Bool)
 | 0, _, _, _, _, _, _ => none
 | k + 1, x0, x1, x6, x7, x9, x65 => if x65 = true then (some false) else ((laws_markSegmentS.f k x9 1).bind fun bt356 => ((laws_heldSegmentS.f k bt356.2 1).bind fun t358 => (if t358 < 0 then (some false) else (if t358 = bt356.1 then ((laws_toEntryS.f k x0).bind fun t359 => ((impl_CutLog.f k t359 x1).bind fun bt362 => ((laws_eqSegmentS.f k bt362.1 x6).bind fun t366 => (if t366 = true then (laws_FnExactCutLog.j2 k bt356.2 bt356.1 (bt362.2 != x7)) else (laws_FnExactCutLog.j2 k bt356.2 bt356.1 true))))) else (some false)))))
def laws_FnExactCutLog.j2 : Nat → List (S30) → Int → Bool → Option (Bool)
 | 0, _, _, _ => none
 | k + 1, x9, x12, x92 => if x92 = true then (some false) else ((laws_heldSegmentS.f k x9 1).bind fun t367 => (if t367 < 0 then (some false) else (if t367 = x12 then (some true) else (some false))))
end
def laws_FnExactCutLog.f (k : Nat) (l0 : List (S91)) (a1 : Int) : Option (Bool) := (laws_szEntryS.f l0 1048576).bind fun t333 => (if t333 < 0 then (some true) else ((laws_toEntryS.f k l0).bind fun t334 => ((spec_CutLog.f k t334 a1).bind fun bt337 => ((laws_toEntryS.f k l0).bind fun t341 => ((impl_CutLog.f k t341 a1).bind fun bt344 => ((laws_eqSegmentS.f k bt344.1 bt337.1).bind fun t348 => (if t348 = true then (laws_FnExactCutLog.j0 k l0 a1 bt337.1 bt337.2 t341 bt344.1 bt344.2 (bt344.2 != bt337.2)) else (laws_FnExactCutLog.j0 k l0 a1 bt337.1 bt337.2 t341 bt344.1 bt344.2 true))))))))
theorem laws_FnExactCutLog.mono_l : ∀ k, (∀ y0 y1 y2 y3 y4 y5 y6 y7, LeO (laws_FnExactCutLog.j0 k y0 y1 y2 y3 y4 y5 y6 y7) (laws_FnExactCutLog.j0 (k + 1) y0 y1 y2 y3 y4 y5 y6 y7)) ∧ (∀ y0 y1 y2 y3 y4 y5, LeO (laws_FnExactCutLog.j1 k y0 y1 y2 y3 y4 y5) (laws_FnExactCutLog.j1 (k + 1) y0 y1 y2 y3 y4 y5)) ∧ (∀ y0 y1 y2, LeO (laws_FnExactCutLog.j2 k y0 y1 y2) (laws_FnExactCutLog.j2 (k + 1) y0 y1 y2))
 | 0 => ⟨fun _ _ _ _ _ _ _ _ r h => by simp [laws_FnExactCutLog.j0] at h, fun _ _ _ _ _ _ r h => by simp [laws_FnExactCutLog.j1] at h, fun _ _ _ r h => by simp [laws_FnExactCutLog.j2] at h⟩
 | k + 1 => by
  obtain ⟨ih0, ih1, ih2⟩ := laws_FnExactCutLog.mono_l k
  refine ⟨?_, ?_, ?_⟩
  ·intro y0 y1 y2 y3 y4 y5 y6 y7
   unfold laws_FnExactCutLog.j0
   have m0 := @impl_CutLog.mono
   have m1 := @laws_eqEntryS.mono
   have m2 := @laws_eqSegmentS.mono
   have m3 := @laws_heldSegmentS.mono
   have m4 := @laws_markEntryS.mono
   have m5 := @laws_markSegmentS.mono
   have m6 := @laws_toEntryS.mono
   have m7 := @spec_CutLog.mono
   exact mo_
  ·intro y0 y1 y2 y3 y4 y5
   unfold laws_FnExactCutLog.j1
   have m0 := @impl_CutLog.mono
   have m1 := @laws_eqEntryS.mono
   have m2 := @laws_eqSegmentS.mono
   have m3 := @laws_heldSegmentS.mono
   have m4 := @laws_markEntryS.mono
   have m5 := @laws_markSegmentS.mono
   have m6 := @laws_toEntryS.mono
   have m7 := @spec_CutLog.mono
   exact mo_
  ·intro y0 y1 y2
   unfold laws_FnExactCutLog.j2
   have m0 := @impl_CutLog.mono
   have m1 := @laws_eqEntryS.mono
   have m2 := @laws_eqSegmentS.mono
   have m3 := @laws_heldSegmentS.mono
   have m4 := @laws_markEntryS.mono
   have m5 := @laws_markSegmentS.mono
   have m6 := @laws_toEntryS.mono
   have m7 := @spec_CutLog.mono
   exact mo_
theorem laws_FnExactCutLog.mono : ∀ a0 a1 k, LeO (laws_FnExactCutLog.f k a0 a1) (laws_FnExactCutLog.f (k + 1) a0 a1) := by
 intro a0 a1 k
 obtain ⟨ih0, ih1, ih2⟩ := laws_FnExactCutLog.mono_l k
 unfold laws_FnExactCutLog.f
 have m0 := @impl_CutLog.mono
 have m1 := @laws_eqEntryS.mono
 have m2 := @laws_eqSegmentS.mono
 have m3 := @laws_heldSegmentS.mono
 have m4 := @laws_markEntryS.mono
 have m5 := @laws_markSegmentS.mono
 have m6 := @laws_toEntryS.mono
 have m7 := @spec_CutLog.mono
 exact mo_
theorem sHand_7 {α : Type} {d : Kd α} {e base : Nat} {w : World} {ok : Nat → Prop} {v : Value} {xs : List α} (h : Kd.S d e w base ok v xs) : ∃ P_ : Nat → Prop, Kd.S d e w base P_ v xs ∧ ∀ k, P_ k → ok k ∧ base ≤ k ∧ k < w.heap.size ∧ ∃ q, q ∈ e :: d.E ∧ ∃ cells, w.heap[k]? = some (.cells cells q (0, 0)) := ⟨_, Kd.S_bound h, fun _ hk => hk⟩
theorem sBig_7 {α : Type} {d : Kd α} {e base : Nat} {w : World} {ok : Nat → Prop} {v : Value} {xs : List α} (h : Kd.S d e w base ok v xs) : Kd.S d e w base (fun k => ok k ∧ base ≤ k) v xs := Kd.S_mono (Kd.S_bound h) (fun _ hk => ⟨hk.1, hk.2.1⟩)
theorem sTypes_7 {w : World} {k b : Nat} {L L' : List Nat} (h : k < b ∧ ∃ q, q ∈ L ∧ ∃ cells, w.heap[k]? = some (.cells cells q (0, 0))) (h' : ∃ q, q ∈ L' ∧ ∃ cells, w.heap[k]? = some (.cells cells q (0, 0))) (hn : ∀ q, q ∈ L → ∀ q', q' ∈ L' → q ≠ q') : False := by
 obtain ⟨_, q, hq, c, hc⟩ := h
 obtain ⟨q', hq', c', hc'⟩ := h'
 rw [hc] at hc'
 injection hc' with hc'
 injection hc' with _ hc'
 exact hn q hq q' hq' hc'
theorem laws_FnExactCutLog.calls (k : Nat) (A0 : Option Addr) (c0 : Nat) (l0 : List (S91)) (a1 : Int) (r : Bool) (w : World) (hr0 : Kd.C k91 w A0 l0.length l0) (hc0 : l0.length ≤ c0) (hT : Tab w) (hr1 : r = true) (h : laws_FnExactCutLog.f k l0 a1 = some r) :
 Calls Tryd.prog 7 #[.slice A0 l0.length c0, .int .i64 a1] w fun e w' => e = .returned (.bool r) ∧ Below w.heap.size w w' := by
 have HR0 := Aside0.mk hr0
 have HC0 := Aside0.mk hc0
 clear hr0 hc0
 have HT := Aside0.mk hT
 clear hT
 have HR1 := Aside0.mk hr1
 clear hr1
 have HB := Aside0.mk (Below.refl w.heap.size w)
 have H := h
 unfold laws_FnExactCutLog.f at H
 clear h
 replace H := bs_ H
 obtain ⟨t333, A3, H⟩ := H
 try dsimp only at H
 by_cases c4 : t333 < 0
 ·rw [if_pos c4] at H
  have c4b0 := decide_eq_true c4
  clear c4
  obtain rfl := Option.some.inj H
  go_enter Tryd.func7, Tryd.ntmps7
  go_wp2_with (first | ((with_reducible refine gate_callee (f := 24) rfl ?_); refine gs_ (some 18) Tryd.func24 #[.slice A0 l0.length c0, .int .i64 1048576] ?_; (with_reducible refine (laws_szEntryS.calls _ _ l0 1048576 t333 _ ?side1 ?side2 A3.out).mono ?_); (case side1 => exact cs_ HR0.out); (case side2 => exact HC0.out); rintro e w' ⟨rfl, ⟨nd, rfl⟩⟩; refine ⟨_, rfl, ?_⟩))
  go_ret
  exact ⟨er_, bl_⟩
 rw [if_neg c4] at H
 have c4b0 := decide_eq_false c4
 clear c4
 replace H := bs_ H
 obtain ⟨t334, A5, H⟩ := H
 try dsimp only at H
 replace H := bs_ H
 obtain ⟨⟨t337, t338⟩, A6, H⟩ := H
 try dsimp only at H
 replace H := bs_ H
 obtain ⟨t341, A7, H⟩ := H
 try dsimp only at H
 replace H := bs_ H
 obtain ⟨⟨t344, t345⟩, A8, H⟩ := H
 try dsimp only at H
 have HC9 := Aside0.mk H
 clear H
 go_enter Tryd.func7, Tryd.ntmps7
 go_upto_region 8 with (first | ((with_reducible refine gate_callee (f := 24) rfl ?_); refine gs_ (some 18) Tryd.func24 #[.slice A0 l0.length c0, .int .i64 1048576] ?_; (with_reducible refine (laws_szEntryS.calls _ _ l0 1048576 t333 _ ?side1 ?side2 A3.out).mono ?_); (case side1 => exact cs_ HR0.out); (case side2 => exact HC0.out); rintro e w' ⟨rfl, ⟨nd, rfl⟩⟩; refine ⟨_, rfl, ?_⟩) | ((with_reducible refine gate_callee (f := 26) rfl ?_); refine gs_ (some 23) Tryd.func26 #[.slice A0 l0.length c0] ?_; (with_reducible refine (laws_toEntryS.calls k _ _ l0 t334 _ ?side1 ?side2 A5.out).mono ?_); (case side1 => exact cs_ HR0.out); (case side2 => exact HC0.out); rintro e w10 ⟨v335, rfl, ho0, hb⟩; refine ⟨_, rfl, ?_⟩; have HO336 := Aside0.mk (Kd.R_lower ho0 (below_size bl_)); replace HB := Aside0.mk (below_step bl_ hb); (try clear hb); (try clear ho0); obtain ⟨Ao11, co11, eo11⟩ := Kd.R_slice HO336.out; subst eo11) | ((with_reducible refine gate_callee (f := 33) rfl ?_); refine gs_ (some 25) Tryd.func33 #[.slice Ao11 t334.length co11, .int .i64 a1] ?_; (with_reducible refine (spec_CutLog.calls k _ _ t334 a1 t337 t338 _ ?side1 ?side2 A6.out).mono ?_); (case side1 => exact cs_ ((Kd.R_reads' HO336.out).2.2)); (case side2 => exact (Kd.R_reads' HO336.out).2.1); rintro e w12 ⟨v339, rfl, ho0, hb⟩; refine ⟨_, rfl, ?_⟩; have HO340 := Aside0.mk (Kd.S_lower (Kd.S_new' ho0 (Kd.R_lt (ra_ HO336.out))) (below_size bl_)); replace HO336 := Aside0.mk (Kd.R_below (ra_ HO336.out) hb); replace HB := Aside0.mk (below_step bl_ hb); (try clear hb); (try clear ho0)) | ((with_reducible refine gate_callee (f := 26) rfl ?_); refine gs_ (some 29) Tryd.func26 #[.slice A0 l0.length c0] ?_; (with_reducible refine (laws_toEntryS.calls k _ _ l0 t341 _ ?side1 ?side2 A7.out).mono ?_); (case side1 => exact cb_ HR0.out HB.out); (case side2 => exact HC0.out); rintro e w13 ⟨v342, rfl, ho0, hb⟩; refine ⟨_, rfl, ?_⟩; replace HO340 := Aside0.mk (Kd.S_elder' (by (with_reducible repeat (first | apply Kd.S_alloc | apply Kd.S_drewN | apply Kd.S_drew)); exact HO340.out) (Kd.R_base ho0) hb); have HO343 := Aside0.mk (Kd.R_lower (Kd.R_new' ho0 (Kd.R_lt (ra_ HO336.out))) (below_size bl_)); replace HO336 := Aside0.mk (Kd.R_elder' (ra_ HO336.out) (Kd.R_base ho0) hb); replace HB := Aside0.mk (below_step bl_ hb); (try clear hb); (try clear ho0); obtain ⟨Ao14, co14, eo14⟩ := Kd.R_slice HO343.out; subst eo14) | ((with_reducible refine gate_callee (f := 34) rfl ?_); refine gs_ (some 33) Tryd.func34 #[.slice Ao14 t341.length co14, .int .i64 a1] ?_; (with_reducible refine (impl_CutLog.calls k _ _ t341 a1 t344 t345 _ ?side1 ?side2 ?side3 A8.out).mono ?_); (case side1 => exact cs_ ((Kd.R_reads' HO343.out).2.2)); (case side2 => exact (Kd.R_reads' HO343.out).2.1); (case side3 => exact tab_of HT.out bl_); rintro e w15 ⟨v346, rfl, ho0, hb⟩; refine ⟨_, rfl, ?_⟩; have HO347 := Aside0.mk (Kd.S_lower (sBig_7 (Kd.S_new' (Kd.S_new' (Kd.S_new' ho0 (Kd.R_lt (ra_ HO336.out))) (Kd.S_lt (by (with_reducible repeat (first | apply Kd.S_alloc | apply Kd.S_drewN | apply Kd.S_drew)); exact HO340.out))) (Kd.R_lt (ra_ HO343.out)))) (below_size bl_)); replace HO336 := Aside0.mk (Kd.R_below (ra_ HO336.out) hb); replace HO340 := Aside0.mk (Kd.S_told (Kd.S_old (by (with_reducible repeat (first | apply Kd.S_alloc | apply Kd.S_drewN | apply Kd.S_drew)); exact HO340.out) hb) (Kd.S_base ho0)); replace HO343 := Aside0.mk (Kd.R_below (ra_ HO343.out) hb); replace HB := Aside0.mk (below_step bl_ hb); (try clear hb); (try clear ho0)))
 (try simp only [Act.put, List.setIfInBounds_toArray, List.set_cons_zero, List.set_cons_succ])
 go_cut [44] (fun v44 wc => ∃ (kq : Nat) (x44_8 : Bool), v44 = .bool x44_8 ∧ Aside0 (laws_FnExactCutLog.j0 kq l0 a1 t337 t338 t341 t344 t345 x44_8 = some r) ∧ Aside0 (kq ≤ k) ∧ Aside0 (Kd.S k30 30 wc w.heap.size (fun k_ => some k_ ≠ ((.slice Ao14 t341.length co14) : Value).ownBlock ∧ some k_ ≠ (v346 : Value).ownBlock ∧ k_ < w13.heap.size) v339 t337) ∧ Aside0 (Kd.R k70 70 wc w.heap.size (fun _ => True) (.slice Ao14 t341.length co14) t341) ∧ Aside0 (Kd.S k30 30 wc w.heap.size (fun k_ => some k_ ≠ (v339 : Value).ownBlock ∧ some k_ ≠ ((.slice Ao14 t341.length co14) : Value).ownBlock ∧ w13.heap.size ≤ k_) v346 t344) ∧ Aside0 (Below w.heap.size w wc))
 case first =>
  have H := HC9.out
  clear HC9
  replace H := bs_ H
  obtain ⟨t348, A16, H⟩ := H
  try dsimp only at H
  by_cases c17 : t348 = true
  ·subst c17
   rw [if_pos rfl] at H
   have H' := Aside0.mk H
   clear H
   obtain ⟨Ao18, co18, eo18⟩ := Kd.S_slice HO347.out
   subst eo18
   obtain ⟨Ao19, co19, eo19⟩ := Kd.S_slice HO340.out
   subst eo19
   go_wp2_with (first | ((with_reducible refine gate_callee (f := 35) rfl ?_); refine gs_ (some 38) Tryd.func35 #[.slice Ao18 t344.length co18, .slice Ao19 t337.length co19] ?_; (with_reducible refine (laws_eqSegmentS.calls k _ _ t344 _ _ t337 true _ ?side1 ?side2 ?side3 ?side4 A16.out).mono ?_); (case side1 => exact cs_ ((Kd.S_reads' HO347.out).2.2)); (case side2 => exact (Kd.S_reads' HO347.out).2.1); (case side3 => exact cs_ ((Kd.S_reads' HO340.out).2.2)); (case side4 => exact (Kd.S_reads' HO340.out).2.1); rintro e w20 ⟨rfl, hb⟩; refine ⟨_, rfl, ?_⟩; replace HO336 := Aside0.mk (Kd.R_below (ra_ HO336.out) hb); replace HO340 := Aside0.mk (Kd.S_below (by (with_reducible repeat (first | apply Kd.S_alloc | apply Kd.S_drewN | apply Kd.S_drew)); exact HO340.out) hb); replace HO343 := Aside0.mk (Kd.R_below (ra_ HO343.out) hb); replace HO347 := Aside0.mk (Kd.S_below (by (with_reducible repeat (first | apply Kd.S_alloc | apply Kd.S_drewN | apply Kd.S_drew)); exact HO347.out) hb); replace HB := Aside0.mk (below_step bl_ hb); (try clear hb)))
   go_meet
   case rel => exact ⟨_, ((t345 != t338)), (sr_), H', ⟨by first | omega | exact Nat.le_refl _⟩, ⟨by (with_reducible repeat (first | apply Kd.S_alloc | apply Kd.S_drewN | apply Kd.S_drew)); exact Kd.S_mono HO340.out (fun _ hk => ⟨hk.1.1.2, ⟨hk.1.2, hk.2⟩⟩)⟩, ⟨by (with_reducible repeat (first | apply Kd.R_alloc | apply Kd.R_drewN | apply Kd.R_drew)); exact Kd.R_mono HO343.out (fun _ hk => trivial)⟩, ⟨by (with_reducible repeat (first | apply Kd.S_alloc | apply Kd.S_drewN | apply Kd.S_drew)); exact Kd.S_mono HO347.out (fun _ hk => ⟨hk.1.1.2, ⟨hk.1.2, hk.2⟩⟩)⟩, ⟨bl_⟩⟩
  replace c17 := Bool.eq_false_iff.mpr c17
  subst c17
  rw [nf_] at H
  have H' := Aside0.mk H
  clear H
  obtain ⟨Ao21, co21, eo21⟩ := Kd.S_slice HO347.out
  subst eo21
  obtain ⟨Ao22, co22, eo22⟩ := Kd.S_slice HO340.out
  subst eo22
  go_wp2_with (first | ((with_reducible refine gate_callee (f := 35) rfl ?_); refine gs_ (some 38) Tryd.func35 #[.slice Ao21 t344.length co21, .slice Ao22 t337.length co22] ?_; (with_reducible refine (laws_eqSegmentS.calls k _ _ t344 _ _ t337 false _ ?side1 ?side2 ?side3 ?side4 A16.out).mono ?_); (case side1 => exact cs_ ((Kd.S_reads' HO347.out).2.2)); (case side2 => exact (Kd.S_reads' HO347.out).2.1); (case side3 => exact cs_ ((Kd.S_reads' HO340.out).2.2)); (case side4 => exact (Kd.S_reads' HO340.out).2.1); rintro e w23 ⟨rfl, hb⟩; refine ⟨_, rfl, ?_⟩; replace HO336 := Aside0.mk (Kd.R_below (ra_ HO336.out) hb); replace HO340 := Aside0.mk (Kd.S_below (by (with_reducible repeat (first | apply Kd.S_alloc | apply Kd.S_drewN | apply Kd.S_drew)); exact HO340.out) hb); replace HO343 := Aside0.mk (Kd.R_below (ra_ HO343.out) hb); replace HO347 := Aside0.mk (Kd.S_below (by (with_reducible repeat (first | apply Kd.S_alloc | apply Kd.S_drewN | apply Kd.S_drew)); exact HO347.out) hb); replace HB := Aside0.mk (below_step bl_ hb); (try clear hb)))
  go_meet
  case rel => exact ⟨_, (true), (sr_), H', ⟨by first | omega | exact Nat.le_refl _⟩, ⟨by (with_reducible repeat (first | apply Kd.S_alloc | apply Kd.S_drewN | apply Kd.S_drew)); exact Kd.S_mono HO340.out (fun _ hk => ⟨hk.1.1.2, ⟨hk.1.2, hk.2⟩⟩)⟩, ⟨by (with_reducible repeat (first | apply Kd.R_alloc | apply Kd.R_drewN | apply Kd.R_drew)); exact Kd.R_mono HO343.out (fun _ hk => trivial)⟩, ⟨by (with_reducible repeat (first | apply Kd.S_alloc | apply Kd.S_drewN | apply Kd.S_drew)); exact Kd.S_mono HO347.out (fun _ hk => ⟨hk.1.1.2, ⟨hk.1.2, hk.2⟩⟩)⟩, ⟨bl_⟩⟩
 clear HC9
 try clear c4
 try clear c4b0
 obtain ⟨kq, x44_8, rfl, HA, HJ8, HO_6, HO_8, HO_9, HB⟩ := hcut
 cases kq with
 | zero => exact absurd HA.out (by simp [laws_FnExactCutLog.j0])
 | succ kj8 => ?_
 have H := HA.out
 clear HA
 simp only [laws_FnExactCutLog.j0] at H
 by_cases c24 : x44_8 = true
 ·subst c24
  rw [if_pos rfl] at H
  exact absurd ((Option.some.inj H).trans HR1.out) (by decide)
 replace c24 := Bool.eq_false_iff.mpr c24
 subst c24
 rw [nf_] at H
 replace H := bs_ H
 obtain ⟨t349, A25, H⟩ := H
 try dsimp only at H
 replace H := bs_ H
 obtain ⟨t352, A26, H⟩ := H
 try dsimp only at H
 by_cases c27 : t352 = true
 rotate_left
 ·replace c27 := Bool.eq_false_iff.mpr c27
  subst c27
  rw [nf_] at H
  exact absurd ((Option.some.inj H).trans HR1.out) (by decide)
 subst c27
 rw [if_pos rfl] at H
 replace H := bs_ H
 obtain ⟨⟨t353, t354⟩, A28, H⟩ := H
 try dsimp only at H
 have HC29 := Aside0.mk H
 clear H
 go_upto_region 14 with (first | ((with_reducible refine gate_callee (f := 26) rfl ?_); refine gs_ (some 47) Tryd.func26 #[.slice A0 l0.length c0] ?_; (with_reducible refine (laws_toEntryS.calls kj8 _ _ l0 t349 _ ?side1 ?side2 A25.out).mono ?_); (case side1 => exact cb_ HR0.out HB.out); (case side2 => exact HC0.out); rintro e w30 ⟨v350, rfl, ho0, hb⟩; refine ⟨_, rfl, ?_⟩; replace HO_6 := Aside0.mk (Kd.S_elder' (by (with_reducible repeat (first | apply Kd.S_alloc | apply Kd.S_drewN | apply Kd.S_drew)); exact HO_6.out) (Kd.R_base ho0) hb); replace HO_9 := Aside0.mk (Kd.S_elder' (by (with_reducible repeat (first | apply Kd.S_alloc | apply Kd.S_drewN | apply Kd.S_drew)); exact HO_9.out) (Kd.R_base ho0) hb); have HO351 := Aside0.mk (Kd.R_lower (Kd.R_new' ho0 (Kd.R_lt (ra_ HO_8.out))) (below_size bl_)); replace HO_8 := Aside0.mk (Kd.R_elder' (ra_ HO_8.out) (Kd.R_base ho0) hb); replace HB := Aside0.mk (below_step bl_ hb); (try clear hb); (try clear ho0); obtain ⟨Ao31, co31, eo31⟩ := Kd.R_slice HO351.out; subst eo31) | ((with_reducible refine gate_callee (f := 29) rfl ?_); refine gs_ (some 48) Tryd.func29 #[.slice Ao14 t341.length co14, .slice Ao31 t349.length co31] ?_; (with_reducible refine (laws_eqEntryS.calls kj8 _ _ t341 _ _ t349 true _ ?side1 ?side2 ?side3 ?side4 A26.out).mono ?_); (case side1 => exact cs_ ((Kd.R_reads' HO_8.out).2.2)); (case side2 => exact (Kd.R_reads' HO_8.out).2.1); (case side3 => exact cs_ ((Kd.R_reads' HO351.out).2.2)); (case side4 => exact (Kd.R_reads' HO351.out).2.1); rintro e w32 ⟨rfl, hb⟩; refine ⟨_, rfl, ?_⟩; replace HO_6 := Aside0.mk (Kd.S_below (by (with_reducible repeat (first | apply Kd.S_alloc | apply Kd.S_drewN | apply Kd.S_drew)); exact HO_6.out) hb); replace HO_8 := Aside0.mk (Kd.R_below (ra_ HO_8.out) hb); replace HO_9 := Aside0.mk (Kd.S_below (by (with_reducible repeat (first | apply Kd.S_alloc | apply Kd.S_drewN | apply Kd.S_drew)); exact HO_9.out) hb); replace HO351 := Aside0.mk (Kd.R_below (ra_ HO351.out) hb); replace HB := Aside0.mk (below_step bl_ hb); (try clear hb)) | ((with_reducible refine gate_callee (f := 30) rfl ?_); refine gs_ (some 52) Tryd.func30 #[.slice Ao14 t341.length co14, .int .i64 1] ?_; (with_reducible refine (laws_markEntryS.calls kj8 (fun k_ => some k_ = (.slice Ao14 t341.length co14 : Value).ownBlock) (.slice Ao14 t341.length co14) t341 1 t353 t354 w _ ?side1 ?side2 A28.out).mono ?_); (case side1 => repeat (first | (with_reducible first | exact HB.out | apply below_alloc | apply pw_below_drewN | apply below_drew1) | exact HB.out)); (case side2 => exact Kd.R_tight rfl HO_8.out); rintro e w33 ⟨rfl, hy0, hb, hkp⟩; refine ⟨_, rfl, ?_⟩; replace HO_6 := Aside0.mk (Kd.S_mono (ok' := fun k_ => some k_ ≠ (.slice Ao14 t341.length co14 : Value).ownBlock ∧ some k_ ≠ (v346 : Value).ownBlock ∧ some k_ ≠ (.slice Ao31 t349.length co31 : Value).ownBlock ∧ k_ < w13.heap.size) (Kd.S_keptB (HO_6.out) hkp (fun k_ hk_ hs_ => (hk_.1.1) hs_)) (fun k_ hk_ => ⟨hk_.1.1.1, hk_.1.1.2.1, hk_.1.2, hk_.1.1.2.2⟩)); replace HO_8 := Aside0.mk (Kd.R_reok rfl hy0 (fun k_ e_ => HO_8.out.1 k_ e_)); replace HO_9 := Aside0.mk (Kd.S_mono (ok' := fun k_ => some k_ ≠ (v339 : Value).ownBlock ∧ some k_ ≠ (.slice Ao14 t341.length co14 : Value).ownBlock ∧ some k_ ≠ (.slice Ao31 t349.length co31 : Value).ownBlock ∧ w13.heap.size ≤ k_) (Kd.S_keptB (HO_9.out) hkp (fun k_ hk_ hs_ => (hk_.1.2.1) hs_)) (fun k_ hk_ => ⟨hk_.1.1.1, hk_.1.1.2.1, hk_.1.2, hk_.1.1.2.2⟩)); replace HO351 := Aside0.mk (Kd.R_mono (ok' := fun k_ => some k_ ≠ (.slice Ao14 t341.length co14 : Value).ownBlock) (Kd.R_keptB (HO351.out) hkp (fun k_ hk_ hs_ => (hk_.2) hs_)) (fun k_ hk_ => hk_.1.2)); replace HB := Aside0.mk (hb); (try clear hb); (try clear hkp); (try clear hy0)))
 (try simp only [Act.put, List.setIfInBounds_toArray, List.set_cons_zero, List.set_cons_succ])
 go_cut [65] (fun v65 wc => ∃ (kq : Nat) (x65_28 : Bool), v65 = .bool x65_28 ∧ Aside0 (laws_FnExactCutLog.j1 kq l0 a1 t337 t338 t344 x65_28 = some r) ∧ Aside0 (kq ≤ kj8) ∧ Aside0 (Kd.S k30 30 wc w.heap.size (fun k_ => some k_ ≠ (v346 : Value).ownBlock ∧ k_ < w13.heap.size) v339 t337) ∧ Aside0 (Kd.S k30 30 wc w.heap.size (fun k_ => some k_ ≠ (v339 : Value).ownBlock ∧ w13.heap.size ≤ k_) v346 t344) ∧ Aside0 (Below w.heap.size w wc))
 case first =>
  have H := HC29.out
  clear HC29
  by_cases c34 : t353 < 0
  ·rw [if_pos c34] at H
   have c34b0 := decide_eq_true c34
   clear c34
   (first | rw [c34b0] | (simp only [i64_w, i32_w]; rw [c34b0]) | skip)
   have H' := Aside0.mk H
   clear H
   go_wp2
   go_meet
   case rel => exact ⟨_, (true), (sr_), H', ⟨by have := HJ8.out; first | omega | exact Nat.le_refl _⟩, ⟨by (with_reducible repeat (first | apply Kd.S_alloc | apply Kd.S_drewN | apply Kd.S_drew)); exact Kd.S_mono HO_6.out (fun _ hk => ⟨hk.2.1, hk.2.2.2⟩)⟩, ⟨by (with_reducible repeat (first | apply Kd.S_alloc | apply Kd.S_drewN | apply Kd.S_drew)); exact Kd.S_mono HO_9.out (fun _ hk => ⟨hk.1, hk.2.2.2⟩)⟩, ⟨bl_⟩⟩
  rw [if_neg c34] at H
  have c34b0 := decide_eq_false c34
  clear c34
  (first | rw [c34b0] | (simp only [i64_w, i32_w]; rw [c34b0]) | skip)
  replace H := bs_ H
  obtain ⟨t355, A35, H⟩ := H
  try dsimp only at H
  by_cases c36 : t355 = true
  ·subst c36
   rw [if_pos rfl] at H
   have H' := Aside0.mk H
   clear H
   obtain ⟨Ao37, co37, eo37⟩ := Kd.S_slice HO_9.out
   subst eo37
   obtain ⟨Ao38, co38, eo38⟩ := Kd.S_slice HO_6.out
   subst eo38
   go_wp2_with (first | (go_at_call 35; (with_reducible refine (laws_eqSegmentS.calls kj8 _ _ t344 _ _ t337 true _ ?side1 ?side2 ?side3 ?side4 A35.out).mono ?_); (case side1 => exact cs_ ((Kd.S_reads' HO_9.out).2.2)); (case side2 => exact (Kd.S_reads' HO_9.out).2.1); (case side3 => exact cs_ ((Kd.S_reads' HO_6.out).2.2)); (case side4 => exact (Kd.S_reads' HO_6.out).2.1); rintro e w39 ⟨rfl, hb⟩; replace HO_6 := Aside0.mk (Kd.S_below (by (with_reducible repeat (first | apply Kd.S_alloc | apply Kd.S_drewN | apply Kd.S_drew)); exact HO_6.out) hb); replace HO_8 := Aside0.mk (Kd.R_below (ra_ HO_8.out) hb); replace HO_9 := Aside0.mk (Kd.S_below (by (with_reducible repeat (first | apply Kd.S_alloc | apply Kd.S_drewN | apply Kd.S_drew)); exact HO_9.out) hb); replace HO351 := Aside0.mk (Kd.R_below (ra_ HO351.out) hb); replace HB := Aside0.mk (below_step bl_ hb); (try clear hb)))
   go_meet
   case rel => exact ⟨_, ((t345 != t338)), (sr_), H', ⟨by have := HJ8.out; first | omega | exact Nat.le_refl _⟩, ⟨by (with_reducible repeat (first | apply Kd.S_alloc | apply Kd.S_drewN | apply Kd.S_drew)); exact Kd.S_mono HO_6.out (fun _ hk => ⟨hk.2.1, hk.2.2.2⟩)⟩, ⟨by (with_reducible repeat (first | apply Kd.S_alloc | apply Kd.S_drewN | apply Kd.S_drew)); exact Kd.S_mono HO_9.out (fun _ hk => ⟨hk.1, hk.2.2.2⟩)⟩, ⟨bl_⟩⟩
  replace c36 := Bool.eq_false_iff.mpr c36
  subst c36
  rw [nf_] at H
  have H' := Aside0.mk H
  clear H
  obtain ⟨Ao40, co40, eo40⟩ := Kd.S_slice HO_9.out
  subst eo40
  obtain ⟨Ao41, co41, eo41⟩ := Kd.S_slice HO_6.out
  subst eo41
  go_wp2_with (first | (go_at_call 35; (with_reducible refine (laws_eqSegmentS.calls kj8 _ _ t344 _ _ t337 false _ ?side1 ?side2 ?side3 ?side4 A35.out).mono ?_); (case side1 => exact cs_ ((Kd.S_reads' HO_9.out).2.2)); (case side2 => exact (Kd.S_reads' HO_9.out).2.1); (case side3 => exact cs_ ((Kd.S_reads' HO_6.out).2.2)); (case side4 => exact (Kd.S_reads' HO_6.out).2.1); rintro e w42 ⟨rfl, hb⟩; replace HO_6 := Aside0.mk (Kd.S_below (by (with_reducible repeat (first | apply Kd.S_alloc | apply Kd.S_drewN | apply Kd.S_drew)); exact HO_6.out) hb); replace HO_8 := Aside0.mk (Kd.R_below (ra_ HO_8.out) hb); replace HO_9 := Aside0.mk (Kd.S_below (by (with_reducible repeat (first | apply Kd.S_alloc | apply Kd.S_drewN | apply Kd.S_drew)); exact HO_9.out) hb); replace HO351 := Aside0.mk (Kd.R_below (ra_ HO351.out) hb); replace HB := Aside0.mk (below_step bl_ hb); (try clear hb)))
  go_meet
  case rel => exact ⟨_, (true), (sr_), H', ⟨by have := HJ8.out; first | omega | exact Nat.le_refl _⟩, ⟨by (with_reducible repeat (first | apply Kd.S_alloc | apply Kd.S_drewN | apply Kd.S_drew)); exact Kd.S_mono HO_6.out (fun _ hk => ⟨hk.2.1, hk.2.2.2⟩)⟩, ⟨by (with_reducible repeat (first | apply Kd.S_alloc | apply Kd.S_drewN | apply Kd.S_drew)); exact Kd.S_mono HO_9.out (fun _ hk => ⟨hk.1, hk.2.2.2⟩)⟩, ⟨bl_⟩⟩
 clear HC29
 try clear c4
 try clear c4b0
 try clear c24
 try clear c27
 obtain ⟨kq, x65_28, rfl, HA, HJ28, HO_6, HO_9, HB⟩ := hcut
 cases kq with
 | zero => exact absurd HA.out (by simp [laws_FnExactCutLog.j1])
 | succ kj28 => ?_
 have H := HA.out
 clear HA
 simp only [laws_FnExactCutLog.j1] at H
 by_cases c43 : x65_28 = true
 ·subst c43
  rw [if_pos rfl] at H
  exact absurd ((Option.some.inj H).trans HR1.out) (by decide)
 replace c43 := Bool.eq_false_iff.mpr c43
 subst c43
 rw [nf_] at H
 replace H := bs_ H
 obtain ⟨⟨t356, t357⟩, A44, H⟩ := H
 try dsimp only at H
 replace H := bs_ H
 obtain ⟨t358, A45, H⟩ := H
 try dsimp only at H
 by_cases c46 : t358 < 0
 ·rw [if_pos c46] at H
  have c46b0 := decide_eq_true c46
  clear c46
  exact absurd ((Option.some.inj H).trans HR1.out) (by decide)
 rw [if_neg c46] at H
 have c46b0 := decide_eq_false c46
 clear c46
 by_cases c47 : t358 = t356
 rotate_left
 ·rw [if_neg c47] at H
  have c47b0 : (t358 == t356) = false := beq_eq_false_iff_ne.mpr c47
  have c47b1 : (t358 != t356) = true := bne_iff_ne.mpr c47
  exact absurd ((Option.some.inj H).trans HR1.out) (by decide)
 rw [if_pos c47] at H
 have c47b0 : (t358 == t356) = true := beq_iff_eq.mpr c47
 have c47b1 : (t358 != t356) = false := bne_eq_false_iff_eq.mpr c47
 clear c47
 replace H := bs_ H
 obtain ⟨t359, A48, H⟩ := H
 try dsimp only at H
 replace H := bs_ H
 obtain ⟨⟨t362, t363⟩, A49, H⟩ := H
 try dsimp only at H
 have HC50 := Aside0.mk H
 clear H
 obtain ⟨Ao51, co51, eo51⟩ := Kd.S_slice HO_9.out
 subst eo51
 go_upto_region 25 with (first | ((with_reducible refine gate_callee (f := 36) rfl ?_); obtain ⟨PS_9_, hS_9_, hP_9_⟩ := sHand_7 (HO_9.out); refine gs_ (some 68) Tryd.func36 #[.slice Ao51 t344.length co51, .int .i64 1] ?_; (with_reducible refine (laws_markSegmentS.calls kj28 PS_9_ (.slice Ao51 t344.length co51) t344 1 t356 t357 w _ ?side1 ?side2 A44.out).mono ?_); (case side1 => repeat (first | (with_reducible first | exact HB.out | apply below_alloc | apply pw_below_drewN | apply below_drew1) | exact HB.out)); (case side2 => exact hS_9_); rintro e w52 ⟨rfl, hy0, hb, hkp⟩; refine ⟨_, rfl, ?_⟩; replace HO_9 := Aside0.mk (Kd.S_mono (ok' := fun k_ => some k_ ≠ (v339 : Value).ownBlock) hy0 (fun k_ hk_ => Or.elim hk_ (fun hs_ => (hP_9_ _ hs_).1.1) (fun hn_ => fun e_ => Nat.not_le.2 (Kd.S_lt HO_6.out k_ e_.symm) hn_))); replace HO_6 := Aside0.mk (Kd.S_mono (ok' := fun k_ => some k_ ≠ (.slice Ao51 t344.length co51 : Value).ownBlock ∧ k_ < w13.heap.size) (Kd.S_keptB (HO_6.out) hkp (fun k_ hk_ hs_ => (fun e_ => Nat.not_le.2 (hk_.2) ((hP_9_ _ e_).1.2)) hs_)) (fun k_ hk_ => ⟨hk_.1.1, hk_.1.2⟩)); replace HB := Aside0.mk (hb); (try clear hb); (try clear hkp); (try clear hy0); (try clear PS_9_ hS_9_ hP_9_)) | ((with_reducible refine gate_callee (f := 37) rfl ?_); refine goesL_ (some 71) rfl rfl Tryd.func37 (by kernel_rfl) rfl #[.slice Ao51 t357.length co51, .int .i64 1] rfl (by (try simp only [List.map_toArray, List.map_cons, List.map_nil]); first | done | (rw [show t357.length = t344.length from (Kd.S_reads' HO_9.out).1.symm] <;> rfl) | rfl | (simp only [List.length_drop, List.length_take]; rfl)) ?_; (with_reducible refine (laws_heldSegmentS.calls kj28 _ _ t357 1 t358 _ ?side1 ?side2 A45.out).mono ?_); (case side1 => exact cs_ ((Kd.S_reads' HO_9.out).2.2)); (case side2 => rw [show t357.length = t344.length from (Kd.S_reads' HO_9.out).1.symm]; exact (Kd.S_reads' HO_9.out).2.1); rintro e w53 ⟨rfl, hb⟩; refine ⟨_, rfl, ?_⟩; replace HO_6 := Aside0.mk (Kd.S_below (by (with_reducible repeat (first | apply Kd.S_alloc | apply Kd.S_drewN | apply Kd.S_drew)); exact HO_6.out) hb); replace HO_9 := Aside0.mk (Kd.S_below (by (with_reducible repeat (first | apply Kd.S_alloc | apply Kd.S_drewN | apply Kd.S_drew)); exact HO_9.out) hb); replace HB := Aside0.mk (below_step bl_ hb); (try clear hb)) | ((with_reducible refine gate_callee (f := 26) rfl ?_); refine gs_ (some 79) Tryd.func26 #[.slice A0 l0.length c0] ?_; (with_reducible refine (laws_toEntryS.calls kj28 _ _ l0 t359 _ ?side1 ?side2 A48.out).mono ?_); (case side1 => exact cb_ HR0.out HB.out); (case side2 => exact HC0.out); rintro e w54 ⟨v360, rfl, ho0, hb⟩; refine ⟨_, rfl, ?_⟩; replace HO_6 := Aside0.mk (Kd.S_elder' (by (with_reducible repeat (first | apply Kd.S_alloc | apply Kd.S_drewN | apply Kd.S_drew)); exact HO_6.out) (Kd.R_base ho0) hb); replace HO_9 := Aside0.mk (Kd.S_elder' (by (with_reducible repeat (first | apply Kd.S_alloc | apply Kd.S_drewN | apply Kd.S_drew)); exact HO_9.out) (Kd.R_base ho0) hb); have HO361 := Aside0.mk (Kd.R_lower ho0 (below_size bl_)); replace HB := Aside0.mk (below_step bl_ hb); (try clear hb); (try clear ho0); obtain ⟨Ao55, co55, eo55⟩ := Kd.R_slice HO361.out; subst eo55) | ((with_reducible refine gate_callee (f := 34) rfl ?_); refine gs_ (some 81) Tryd.func34 #[.slice Ao55 t359.length co55, .int .i64 a1] ?_; (with_reducible refine (impl_CutLog.calls kj28 _ _ t359 a1 t362 t363 _ ?side1 ?side2 ?side3 A49.out).mono ?_); (case side1 => exact cs_ ((Kd.R_reads' HO361.out).2.2)); (case side2 => exact (Kd.R_reads' HO361.out).2.1); (case side3 => exact tab_of HT.out bl_); rintro e w56 ⟨v364, rfl, ho0, hb⟩; refine ⟨_, rfl, ?_⟩; have HO365 := Aside0.mk (Kd.S_lower (sBig_7 (Kd.S_new' (Kd.S_new' (Kd.S_new' ho0 (Kd.S_lt (by (with_reducible repeat (first | apply Kd.S_alloc | apply Kd.S_drewN | apply Kd.S_drew)); exact HO_6.out))) (Kd.S_lt (by (with_reducible repeat (first | apply Kd.S_alloc | apply Kd.S_drewN | apply Kd.S_drew)); exact HO_9.out))) (Kd.R_lt (ra_ HO361.out)))) (below_size bl_)); replace HO_6 := Aside0.mk (Kd.S_told (Kd.S_old (by (with_reducible repeat (first | apply Kd.S_alloc | apply Kd.S_drewN | apply Kd.S_drew)); exact HO_6.out) hb) (Kd.S_base ho0)); replace HO_9 := Aside0.mk (Kd.S_told (Kd.S_old (by (with_reducible repeat (first | apply Kd.S_alloc | apply Kd.S_drewN | apply Kd.S_drew)); exact HO_9.out) hb) (Kd.S_base ho0)); replace HO361 := Aside0.mk (Kd.R_below (ra_ HO361.out) hb); replace HB := Aside0.mk (below_step bl_ hb); (try clear hb); (try clear ho0)))
 (try simp only [Act.put, List.setIfInBounds_toArray, List.set_cons_zero, List.set_cons_succ])
 go_cut [92] (fun v92 wc => ∃ (kq : Nat) (x92_49 : Bool), v92 = .bool x92_49 ∧ Aside0 (laws_FnExactCutLog.j2 kq t357 t356 x92_49 = some r) ∧ Aside0 (kq ≤ kj28) ∧ Aside0 (Kd.S k30 30 wc w.heap.size (fun k_ => k_ < w54.heap.size) (.slice Ao51 t344.length co51) t357) ∧ Aside0 (Below w.heap.size w wc))
 case first =>
  have H := HC50.out
  clear HC50
  replace H := bs_ H
  obtain ⟨t366, A57, H⟩ := H
  try dsimp only at H
  by_cases c58 : t366 = true
  ·subst c58
   rw [if_pos rfl] at H
   have H' := Aside0.mk H
   clear H
   obtain ⟨Ao59, co59, eo59⟩ := Kd.S_slice HO365.out
   subst eo59
   obtain ⟨Ao60, co60, eo60⟩ := Kd.S_slice HO_6.out
   subst eo60
   go_wp2_with (first | ((with_reducible refine gate_callee (f := 35) rfl ?_); refine gs_ (some 86) Tryd.func35 #[.slice Ao59 t362.length co59, .slice Ao60 t337.length co60] ?_; (with_reducible refine (laws_eqSegmentS.calls kj28 _ _ t362 _ _ t337 true _ ?side1 ?side2 ?side3 ?side4 A57.out).mono ?_); (case side1 => exact cs_ ((Kd.S_reads' HO365.out).2.2)); (case side2 => exact (Kd.S_reads' HO365.out).2.1); (case side3 => exact cs_ ((Kd.S_reads' HO_6.out).2.2)); (case side4 => exact (Kd.S_reads' HO_6.out).2.1); rintro e w61 ⟨rfl, hb⟩; refine ⟨_, rfl, ?_⟩; replace HO_6 := Aside0.mk (Kd.S_below (by (with_reducible repeat (first | apply Kd.S_alloc | apply Kd.S_drewN | apply Kd.S_drew)); exact HO_6.out) hb); replace HO_9 := Aside0.mk (Kd.S_below (by (with_reducible repeat (first | apply Kd.S_alloc | apply Kd.S_drewN | apply Kd.S_drew)); exact HO_9.out) hb); replace HO361 := Aside0.mk (Kd.R_below (ra_ HO361.out) hb); replace HO365 := Aside0.mk (Kd.S_below (by (with_reducible repeat (first | apply Kd.S_alloc | apply Kd.S_drewN | apply Kd.S_drew)); exact HO365.out) hb); replace HB := Aside0.mk (below_step bl_ hb); (try clear hb)))
   go_meet
   case rel => exact ⟨_, ((t363 != t338)), (sr_), H', ⟨by have := HJ8.out; have := HJ28.out; first | omega | exact Nat.le_refl _⟩, ⟨by (with_reducible repeat (first | apply Kd.S_alloc | apply Kd.S_drewN | apply Kd.S_drew)); exact Kd.S_mono HO_9.out (fun _ hk => hk.2)⟩, ⟨bl_⟩⟩
  replace c58 := Bool.eq_false_iff.mpr c58
  subst c58
  rw [nf_] at H
  have H' := Aside0.mk H
  clear H
  obtain ⟨Ao62, co62, eo62⟩ := Kd.S_slice HO365.out
  subst eo62
  obtain ⟨Ao63, co63, eo63⟩ := Kd.S_slice HO_6.out
  subst eo63
  go_wp2_with (first | ((with_reducible refine gate_callee (f := 35) rfl ?_); refine gs_ (some 86) Tryd.func35 #[.slice Ao62 t362.length co62, .slice Ao63 t337.length co63] ?_; (with_reducible refine (laws_eqSegmentS.calls kj28 _ _ t362 _ _ t337 false _ ?side1 ?side2 ?side3 ?side4 A57.out).mono ?_); (case side1 => exact cs_ ((Kd.S_reads' HO365.out).2.2)); (case side2 => exact (Kd.S_reads' HO365.out).2.1); (case side3 => exact cs_ ((Kd.S_reads' HO_6.out).2.2)); (case side4 => exact (Kd.S_reads' HO_6.out).2.1); rintro e w64 ⟨rfl, hb⟩; refine ⟨_, rfl, ?_⟩; replace HO_6 := Aside0.mk (Kd.S_below (by (with_reducible repeat (first | apply Kd.S_alloc | apply Kd.S_drewN | apply Kd.S_drew)); exact HO_6.out) hb); replace HO_9 := Aside0.mk (Kd.S_below (by (with_reducible repeat (first | apply Kd.S_alloc | apply Kd.S_drewN | apply Kd.S_drew)); exact HO_9.out) hb); replace HO361 := Aside0.mk (Kd.R_below (ra_ HO361.out) hb); replace HO365 := Aside0.mk (Kd.S_below (by (with_reducible repeat (first | apply Kd.S_alloc | apply Kd.S_drewN | apply Kd.S_drew)); exact HO365.out) hb); replace HB := Aside0.mk (below_step bl_ hb); (try clear hb)))
  go_meet
  case rel => exact ⟨_, (true), (sr_), H', ⟨by have := HJ8.out; have := HJ28.out; first | omega | exact Nat.le_refl _⟩, ⟨by (with_reducible repeat (first | apply Kd.S_alloc | apply Kd.S_drewN | apply Kd.S_drew)); exact Kd.S_mono HO_9.out (fun _ hk => hk.2)⟩, ⟨bl_⟩⟩
 clear HC50
 try clear c4
 try clear c4b0
 try clear c24
 try clear c27
 try clear c43
 try clear c46
 try clear c46b0
 try clear c47
 try clear c47b0
 try clear c47b1
 obtain ⟨kq, x92_49, rfl, HA, HJ49, HO_9, HB⟩ := hcut
 have hl9_49 := (Kd.S_reads' HO_9.out).1
 rw [hl9_49] at HO_9
 (try simp only [hl9_49])
 cases kq with
 | zero => exact absurd HA.out (by simp [laws_FnExactCutLog.j2])
 | succ kj49 => ?_
 have H := HA.out
 clear HA
 simp only [laws_FnExactCutLog.j2] at H
 by_cases c65 : x92_49 = true
 ·subst c65
  rw [if_pos rfl] at H
  exact absurd ((Option.some.inj H).trans HR1.out) (by decide)
 replace c65 := Bool.eq_false_iff.mpr c65
 subst c65
 rw [nf_] at H
 replace H := bs_ H
 obtain ⟨t367, A66, H⟩ := H
 try dsimp only at H
 by_cases c67 : t367 < 0
 ·rw [if_pos c67] at H
  have c67b0 := decide_eq_true c67
  clear c67
  exact absurd ((Option.some.inj H).trans HR1.out) (by decide)
 rw [if_neg c67] at H
 have c67b0 := decide_eq_false c67
 clear c67
 by_cases c68 : t367 = t356
 rotate_left
 ·rw [if_neg c68] at H
  have c68b0 : (t367 == t356) = false := beq_eq_false_iff_ne.mpr c68
  have c68b1 : (t367 != t356) = true := bne_iff_ne.mpr c68
  exact absurd ((Option.some.inj H).trans HR1.out) (by decide)
 rw [if_pos c68] at H
 have c68b0 : (t367 == t356) = true := beq_iff_eq.mpr c68
 have c68b1 : (t367 != t356) = false := bne_eq_false_iff_eq.mpr c68
 clear c68
 obtain rfl := Option.some.inj H
 go_wp2_with (first | ((with_reducible refine gate_callee (f := 37) rfl ?_); refine gs_ (some 95) Tryd.func37 #[.slice Ao51 t357.length co51, .int .i64 1] ?_; (with_reducible refine (laws_heldSegmentS.calls kj49 _ _ t357 1 t367 _ ?side1 ?side2 A66.out).mono ?_); (case side1 => exact cs_ ((Kd.S_reads' HO_9.out).2.2)); (case side2 => exact (Kd.S_reads' HO_9.out).2.1); rintro e w69 ⟨rfl, hb⟩; refine ⟨_, rfl, ?_⟩; replace HO_9 := Aside0.mk (Kd.S_below (by (with_reducible repeat (first | apply Kd.S_alloc | apply Kd.S_drewN | apply Kd.S_drew)); exact HO_9.out) hb); replace HB := Aside0.mk (below_step bl_ hb); (try clear hb)))
 go_ret
 exact ⟨er_, bl_⟩

end Go.Proofs.YtdhjolglbcoijaaDoor.PA

namespace Go.Proofs.YtdhjolglbcoijaaDoor.Op
open Go.RowKit Go.Proofs.YtdhjolglbcoijaaDoorW.PrintWords
set_option linter.unusedVariables false
set_option linter.unusedSimpArgs false

abbrev OkInt (k : IntKind) (n : Int) : Prop := (Lit.int k n).wf = true

structure Opens (P : Program) {α : Type} (d : Kd α) (t : TypeId) (G : α → Prop) : Prop where
 sz : d.sz = P.cellsOf t
 op : ∀ {H : Type} {enc : TypeId × Value → H} {w : World} {n : Nat} {cs : List Value} {x : DataW H × List MemPlace},
  DataW.trod enc P w 0 (fun _ => true) true n t cs = some x → ∃ a, d.K w a cs ∧ G a

theorem opInt {P : Program} {t : TypeId} {k : IntKind} (hu : P.underlying t = some (.int k)) (hc : P.cellsOf t = 1) : Opens P (Kd.int k) t (fun n => (Lit.int k n).wf = true) where
 sz := by rw [hc]; rfl
 op := fun h => by
  obtain ⟨n, rfl, _, hw⟩ := DataW.trod_int hu h
  exact ⟨n, rfl, hw⟩

theorem opBool {P : Program} {t : TypeId} (hu : P.underlying t = some .bool) (hc : P.cellsOf t = 1) : Opens P Kd.bool t (fun _ => True) where
 sz := by rw [hc]; rfl
 op := fun h => by
  obtain ⟨n, rfl, _⟩ := DataW.trod_bool hu h
  exact ⟨n, rfl, trivial⟩

theorem opStr {P : Program} {t : TypeId} (hu : P.underlying t = some .string) (hc : P.cellsOf t = 1) : Opens P Kd.string t (fun s => s.size ≤ 9223372036854775807) where
 sz := by rw [hc]; rfl
 op := fun h => by
  obtain ⟨s, rfl, _, hs⟩ := DataW.trod_string hu h
  exact ⟨s, rfl, hs⟩

theorem chooseList {α : Type} {Q : Nat → α → Prop} : ∀ (n : Nat), (∀ i, i < n → ∃ a, Q i a) → ∃ xs : List α, xs.length = n ∧ ∀ i a, xs[i]? = some a → Q i a
 | 0, _ => ⟨[], rfl, fun i a h => by simp at h⟩
 | n + 1, h => by
  obtain ⟨xs, hl, hx⟩ := chooseList n (fun i hi => h i (by omega))
  obtain ⟨a, ha⟩ := h n (by omega)
  refine ⟨xs ++ [a], by simp [hl], fun i b hb => ?_⟩
  by_cases hi : i < n
  ·rw [List.getElem?_append_left (by omega)] at hb
   exact hx i b hb
  ·rw [List.getElem?_append_right (by omega), hl] at hb
   have : i - n = 0 := by
    rcases Nat.eq_zero_or_pos (i - n) with h0 | h0
    ·exact h0
    ·rw [List.getElem?_eq_none (by simp; omega)] at hb
     simp at hb
   rw [this] at hb
   have hin : i = n := by omega
   simp at hb
   rw [hin, ← hb]
   exact ha

theorem cellsAt {w : World} {a : Addr} {n : Nat} {cs : List Value} (h : w.cells? 0 a n = some cs) : cs.length = n ∧ ∀ i u, cs[i]? = some u → w.cell? (a.add i) = some u := by
 unfold World.cells? at h
 rw [if_pos (Nat.zero_le _)] at h
 have hl : cs.length = n := by simpa using mapM_some_length h
 refine ⟨hl, fun i u hu => ?_⟩
 have hi : i < n := by
  rcases Nat.lt_or_ge i n with h1 | h1
  ·exact h1
  ·rw [List.getElem?_eq_none (by omega)] at hu
   simp at hu
 have := mapM_some_get h i i (by simp [hi])
 rw [this, hu]

theorem opSlice {P : Program} {α : Type} {d : Kd α} {t e : TypeId} {G : α → Prop} (hu : P.underlying t = some (.slice e)) (hc : P.cellsOf t = 1) (E : Nat) (o : Opens P d e G) :
 Opens P (Kd.slice E d) t (fun l => (∀ a ∈ l, G a) ∧ l.length ≤ 9223372036854775807) where
 sz := by rw [hc]; rfl
 op := fun {H enc w n cs x} h => by
  rcases DataW.trod_slice hu h with ⟨rfl, _⟩ | ⟨a, len, cap, elems, rest, m, _, rfl, _, _, hl, hcap, hlen, hel, _⟩
  ·exact ⟨[], ⟨none, 0, rfl, Nat.le_refl _, rfl, by simp, fun h0 => by simp at h0⟩, fun a ha => by simp at ha, by simp⟩
  ·have hcap' : cap ≤ 9223372036854775807 := hcap
   have key : ∀ i, i < len → ∃ b, ∃ c, d.K w b c ∧ G b ∧ c.length = d.sz ∧ ∀ j u, c[j]? = some u → w.cell? ((a.add (i * d.sz)).add j) = some u := by
    intro i hi
    have h1 := hel i hi
    rw [List.getElem?_eq_getElem (by omega)] at h1
    obtain ⟨cs', h2, h3⟩ := Option.bind_eq_some_iff.1 h1
    obtain ⟨b, hK, hG⟩ := o.op h3
    obtain ⟨h4, h5⟩ := cellsAt h2
    rw [← o.sz] at h5
    exact ⟨b, cs', hK, hG, d.K_len hK, h5⟩
   obtain ⟨xs, hx, hall⟩ := chooseList len key
   refine ⟨xs, ⟨some a, cap, by rw [hx], by omega, rfl, by omega, fun _ => ⟨a, rfl, fun j p hp => ?_⟩⟩, fun b hb => ?_, by omega⟩
   ·obtain ⟨c, hK, _, hs, hcell⟩ := hall j p hp
    exact ⟨c, hs, hK, fun i u hiu => by rw [← Addr.add_add]; exact hcell i u hiu⟩
   ·obtain ⟨i, hi, rfl⟩ := List.getElem_of_mem hb
    obtain ⟨_, _, hG, _⟩ := hall i _ (List.getElem?_eq_getElem hi)
    exact hG

structure Fields (P : Program) (off : Nat) (fs : List Field) {α : Type} (d : Kd α) (G : α → Prop) : Prop where
 op : ∀ {H : Type} {enc : TypeId × Value → H} {w : World} {n : Nat} {cs : List Value}, cs.length = off + d.sz →
  (∀ f ∈ fs, ∃ y, DataW.trod enc P w 0 (fun _ => true) true n f.type ((cs.drop f.offset).take (P.cellsOf f.type)) = some y) → ∃ a, d.K w a (cs.drop off) ∧ G a

theorem fieldsOne {P : Program} {off : Nat} {f : Field} {α : Type} {d : Kd α} {G : α → Prop} (o : Opens P d f.type G) (hf : f.offset = off) : Fields P off [f] d G where
 op := fun {H enc w n cs} hl h => by
  obtain ⟨y, hy⟩ := h f (by simp)
  rw [hf, List.take_of_length_le (by rw [← o.sz]; simp; omega)] at hy
  exact o.op hy

theorem fieldsCons {P : Program} {off : Nat} {f : Field} {fs : List Field} {α β : Type} {d : Kd α} {d' : Kd β} {G : α → Prop} {G' : β → Prop} (o : Opens P d f.type G) (hf : f.offset = off) (r : Fields P (off + d.sz) fs d' G') :
 Fields P off (f :: fs) (Kd.pair d d') (fun x => G x.1 ∧ G' x.2) where
 op := fun {H enc w n cs} hl h => by
  have hl' : cs.length = off + (d.sz + d'.sz) := hl
  obtain ⟨y, hy⟩ := h f (by simp)
  rw [hf] at hy
  obtain ⟨a, ha, hg⟩ := o.op hy
  obtain ⟨b, hb, hg'⟩ := r.op (by omega) (fun g hg => h g (by simp [hg]))
  refine ⟨(a, b), ⟨_, _, ?_, ha, hb⟩, hg, hg'⟩
  rw [← o.sz, show cs.drop (off + d.sz) = (cs.drop off).drop d.sz from (List.drop_drop ..).symm]
  exact (List.take_append_drop _ _).symm

theorem opStruct {P : Program} {t : TypeId} {fs : Array Field} {α β : Type} {d : Kd α} {f : β → α} {G : α → Prop} {G' : β → Prop} (hu : P.underlying t = some (.struct fs)) (hc : P.cellsOf t = d.sz)
 (r : Fields P 0 fs.toList d G) (g : α → β) (hfg : ∀ a, f (g a) = a) (hG : ∀ a, G a → G' (g a)) : Opens P (Kd.iso d f) t G' where
 sz := by rw [hc]; rfl
 op := fun {H enc w n cs x} h => by
  obtain ⟨xs, m, rfl, _, hl, hxs, hall⟩ := DataW.trod_struct hu h
  obtain ⟨a, ha, hGa⟩ := r.op (w := w) (n := m) (cs := cs) (by omega) (fun f' hf' => by
   obtain ⟨i, hi, rfl⟩ := List.getElem_of_mem hf'
   have hi' : i < fs.size := by simpa using hi
   have h1 := hall i fs.toList[i] (by simp [hi'])
   rw [List.getElem?_eq_getElem (by omega)] at h1
   exact ⟨_, h1⟩)
  rw [List.drop_zero] at ha
  refine ⟨g a, ?_, hG a hGa⟩
  show d.K w (f (g a)) cs
  rw [hfg]
  exact ha
end Go.Proofs.YtdhjolglbcoijaaDoor.Op

namespace Go.Proofs.YtdhjolglbcoijaaDoor.PureFnExactCutLog
open Go.RowKit Go.Proofs.YtdhjolglbcoijaaDoor.PA
def ok89 (x : S89) : Prop := (Op.OkInt .i64 x.f0) ∧ (Op.OkInt .i64 x.f1) ∧ (Op.OkInt .i64 x.f2) ∧ (Op.OkInt .i64 x.f3)
def ok91 (x : S91) : Prop := (Op.OkInt .i64 x.f0) ∧ (Op.OkInt .i64 x.f1) ∧ (ok89 x.f2)
def Stated : Prop := ∀ (x0 : List S91) (x1 : Int), ((∀ e_ ∈ x0, ok91 e_) ∧ x0.length ≤ 9223372036854775807) → (Op.OkInt .i64 x1) → ∃ k, laws_FnExactCutLog.f k x0 x1 = some true
end Go.Proofs.YtdhjolglbcoijaaDoor.PureFnExactCutLog

namespace Go.Proofs.YtdhjolglbcoijaaDoor.Kit
open Go.RowKit Go.Proofs.YtdhjolglbcoijaaDoorW.PrintWords Go.Proofs.YtdhjolglbcoijaaDoorW.PrintLast Go.Proofs.YtdhjolglbcoijaaDoorW.PrintMore
set_option linter.unusedVariables false
set_option linter.unusedSimpArgs false

theorem w64 {x : Int} (h0 : -9223372036854775808 ≤ x) (h1 : x ≤ 9223372036854775807) : wrap64 x = x := by unfold wrap64; omega

section
variable {α β : Type}
theorem evSucc {g : Nat → Option α} {r : α} (h : Ev (fun k => g (k + 1)) r) : Ev g r := Ev.step (fun _ => rfl) h
theorem evPos {c : Prop} [Decidable c] {g f : Nat → Option α} {r : α} (hc : c) (h : Ev g r) : Ev (fun k => if c then g k else f k) r := Ev.congr (fun k => if_pos hc) h
theorem evNeg {c : Prop} [Decidable c] {g f : Nat → Option α} {r : α} (hc : ¬ c) (h : Ev f r) : Ev (fun k => if c then g k else f k) r := Ev.congr (fun k => if_neg hc) h
theorem evIte {c : Prop} [Decidable c] {g f : Nat → Option α} {r s : α} (h : c → Ev g r) (h' : ¬ c → Ev f s) : Ev (fun k => if c then g k else f k) (if c then r else s) := by
 by_cases hc : c
 ·rw [if_pos hc]; exact evPos hc (h hc)
 ·rw [if_neg hc]; exact evNeg hc (h' hc)
theorem evSome (r : α) : Ev (fun _ => some r) r := Ev.now r
theorem evEq {g : Nat → Option α} {r s : α} (h : Ev g r) (e : r = s) : Ev g s := e ▸ h
theorem evBindS {x : Option α} {f : Nat → α → Option β} {a : α} {r : β} (h : x = some a) (k : Ev (fun n => f n a) r) : Ev (fun n => x.bind (f n)) r := by subst h; exact k
theorem evConst {x : Option α} {r : α} (h : x = some r) : Ev (fun _ => x) r := by subst h; exact Ev.now r
end

section
variable {α β : Type}
theorem evUp {r : α} (n : Nat) (g : Nat → Nat → Option α) (step : ∀ i, i < n → Ev (g (i + 1)) r → Ev (g i) r) (last : Ev (g n) r) : Ev (g 0) r := by
 have key : ∀ d i, i + d = n → Ev (g i) r := by
  intro d
  induction d with
  | zero => intro i hi; rw [show i = n by omega]; exact last
  | succ d ih => intro i hi; exact step i (by omega) (ih (i + 1) (by omega))
 exact key n 0 (by omega)
theorem fillStep (f : α → β) (z : β) (l : List α) (i : Nat) (hi : i < l.length) :
 ((l.take i).map f ++ List.replicate (l.length - i) z).set i (f l[i]) = (l.take (i + 1)).map f ++ List.replicate (l.length - (i + 1)) z := by
 have h1 : ((l.take i).map f).length = i := by simp; omega
 rw [show l.length - i = (l.length - (i + 1)) + 1 by omega, List.replicate_succ, List.set_append_right _ _ (by omega), h1, Nat.sub_self, List.set_cons_zero,
  List.take_succ_eq_append_getElem hi, List.map_append, List.append_assoc]
 rfl
theorem takeSnoc (l : List α) (i : Nat) (hi : i < l.length) : l.take (i + 1) = l.take i ++ [l[i]] := List.take_succ_eq_append_getElem hi
theorem ci (i : Nat) : (i : Int) + 1 = ((i + 1 : Nat) : Int) := by omega
theorem sizeApp (a b : ByteArray) : (a ++ b).size = a.size + b.size := ByteArray.size_append
end

theorem okI64 {n : Int} (h : (Lit.int .i64 n).wf = true) : -9223372036854775808 ≤ n ∧ n ≤ 9223372036854775807 := by
 simp [Lit.wf, IntKind.min, IntKind.max, IntKind.signed, IntKind.bits] at h
 omega
end Go.Proofs.YtdhjolglbcoijaaDoor.Kit

namespace Go.Proofs.YtdhjolglbcoijaaDoor.DigestEq
open Go.RowKit Go.Proofs.YtdhjolglbcoijaaDoorW.PrintWords Go.Proofs.YtdhjolglbcoijaaDoorW.PrintLast Go.Proofs.YtdhjolglbcoijaaDoorW.PrintMore Go.Proofs.YtdhjolglbcoijaaDoor.Kit Go.Proofs.YtdhjolglbcoijaaDoor.PA
open Go.Proofs.YtdhjolglbcoijaaDoor.PH (hs hs_len padS padS_size blocks f4 f4_len padBytes padZ hFirst shaB shaB_len outs strOfNums_size)
set_option linter.unusedVariables false
theorem strApp (a b : List Int) : strOfNums (a ++ b) = strOfNums a ++ strOfNums b := by
 apply ByteArray.ext
 simp [strOfNums]
theorem strBytes (s : ByteArray) : strOfNums (bytesOf s) = s := by
 apply ByteArray.ext
 apply Array.ext'
 simp [strOfNums, bytesOf, Function.comp_def]
theorem hi8 (N : Int) : (List.range 8).map (fun q => N / 2 ^ (8 * (7 - q)) % 256) = f4 (N / 4294967296) ++ f4 N := by
 have h0 : N / 72057594037927936 % 256 = N / 4294967296 / 16777216 % 256 := by omega
 have h1 : N / 281474976710656 % 256 = N / 4294967296 / 65536 % 256 := by omega
 have h2 : N / 1099511627776 % 256 = N / 4294967296 / 256 % 256 := by omega
 simp [List.range, List.range.loop, f4, h0, h1, h2]
theorem padEq (a0 : ByteArray) (hb : a0.size ≤ 1073741824) : impl_PadText.f a0 = some (padS a0) := by
 have e : Int.tmod (wrap64 (64 - (Int.tmod (wrap64 ((a0.size : Int) + 9)) 64))) 64 = (padZ a0.size : Int) := by
  have c1 : Int.tmod ((a0.size : Int) + 9) 64 = ((a0.size : Int) + 9) % 64 := Int.tmod_eq_emod_of_nonneg (by omega)
  rw [w64 (x := (a0.size : Int) + 9) (by omega) (by omega), c1, w64 (by omega) (by omega)]
  have c2 : Int.tmod (64 - ((a0.size : Int) + 9) % 64) 64 = (64 - ((a0.size : Int) + 9) % 64) % 64 := Int.tmod_eq_emod_of_nonneg (by omega)
  rw [c2]
  unfold padZ
  omega
 have hz : padZ a0.size < 64 := by unfold padZ; omega
 have e8 : wrap64 (8 * (a0.size : Int)) = 8 * (a0.size : Int) := w64 (by omega) (by omega)
 unfold impl_PadText.f impl_four.f
 rw [e, e8, if_pos (by omega), if_pos (by omega), if_pos (by omega)]
 simp only [Option.bind_some, Int.toNat_natCast]
 have s1 : (a0 ++ (⟨#[128]⟩ : ByteArray)).size = a0.size + 1 := by rw [ByteArray.size_append]; rfl
 have s2 : (strOfNums (List.replicate (padZ a0.size) 0)).size = padZ a0.size := by rw [strOfNums_size, List.length_replicate]
 have s3 (x : Int) : (strOfNums [x / 16777216 % 256, x / 65536 % 256, x / 256 % 256, x % 256]).size = 4 := by rw [strOfNums_size]; rfl
 rw [if_pos (by rw [s1, s2]; omega), if_pos (by rw [ByteArray.size_append, s1, s2, s3]; omega), if_pos (by rw [ByteArray.size_append, ByteArray.size_append, s1, s2, s3, s3]; omega)]
 unfold padS padBytes
 have c (l : List Int) : strOfNums (128 :: l) = (⟨#[128]⟩ : ByteArray) ++ strOfNums l := strApp [128] l
 rw [hi8, strApp, c, strApp, strApp, strBytes]
 simp only [← ByteArray.append_assoc]
 rfl
theorem half_first : ∀ x ∈ hFirst, 0 ≤ x ∧ x ≤ 4294967295 := by decide
theorem half_sha (l : List Int) (t : ByteArray) (h : l.length = 8) : ∀ x ∈ shaB l t, 0 ≤ x ∧ x ≤ 4294967295 := by
 intro x hx
 unfold PH.shaB PH.outs at hx
 rw [List.drop_of_length_le (by omega), List.append_nil] at hx
 obtain ⟨i, _, rfl⟩ := List.mem_map.1 hx
 constructor <;> omega
theorem half_hs (p : ByteArray) : ∀ j, ∀ x ∈ hs p j, 0 ≤ x ∧ x ≤ 4294967295
 | 0 => half_first
 | j + 1 => half_sha _ _ (hs_len p j)
theorem rdS (l : List Int) (i : Nat) (hi : i < l.length) : rd l (i : Int) = l[i] := by simp [rd, hi]
theorem ev_out (s : List Int) (h : s.length = 8) : Ev (fun k => impl_Digest.l1 k (⟨#[]⟩ : ByteArray) s (s.length : Int) 0) (strOfNums (s.flatMap f4)) := by
 have key := evUp (r := strOfNums (s.flatMap f4)) 8 (fun i k => impl_Digest.l1 k (strOfNums ((s.take i).flatMap f4)) s (s.length : Int) (i : Int)) ?_ ?_
 ·exact key
 ·intro i hi ih
  refine evSucc ?_
  simp only [impl_Digest.l1]
  have hsz : (strOfNums ((s.take i).flatMap f4)).size = 4 * i := by rw [strOfNums_size, f4_len, List.length_take]; omega
  refine evPos (by omega) (evPos (by omega) (evPos (by omega) (evBindS (a := strOfNums (f4 s[i])) (by rw [rdS s i (by omega)]; rfl) (evPos (by rw [hsz, strOfNums_size]; simp [f4]; omega) ?_))))
  rw [w64 (by omega) (by omega), ci, ← strApp]
  have e : (s.take i).flatMap f4 ++ f4 s[i] = (s.take (i + 1)).flatMap f4 := by
   rw [List.take_succ_eq_append_getElem (by omega), List.flatMap_append]; simp
  rw [e]
  exact ih
 ·refine evSucc ?_
  simp only [impl_Digest.l1]
  refine evNeg (by omega) (evEq (Ev.now _) ?_)
  rw [List.take_of_length_le (by omega)]
def dig (a0 : ByteArray) : ByteArray := strOfNums ((hs (padS a0) (blocks a0.size)).flatMap f4)
theorem dig_spec (a0 : ByteArray) (hb : a0.size ≤ 1073741824) : spec_Digest.f a0 = some (dig a0) := by
 unfold spec_Digest.f; rw [if_pos hb]; rfl
theorem dig_impl (a0 : ByteArray) (hb : a0.size ≤ 1073741824) : Ev (fun k => impl_Digest.f k a0) (dig a0) := by
 simp only [impl_Digest.f]
 refine evBindS (padEq a0 hb) (evBindS (a := hFirst) rfl ?_)
 have hp := padS_size a0
 have hn : blocks a0.size ≤ 16777218 := by unfold PH.blocks; omega
 unfold dig
 generalize blocks a0.size = nb at hp hn ⊢
 generalize padS a0 = p at hp ⊢
 have key := evUp (r := strOfNums ((hs p nb).flatMap f4)) nb (fun i k => impl_Digest.l0 k p (hs p i) (64 * (i : Int))) ?_ ?_
 ·exact key
 ·intro i hi ih
  refine evSucc ?_
  simp only [impl_Digest.l0]
  have hw : wrap64 (64 * (i : Int) + 64) = 64 * (i : Int) + 64 := w64 (by omega) (by omega)
  rw [hw]
  refine evPos (by omega) (evPos (by omega) (evPos (by omega) (evPos (by omega) (evBindS (a := hs p (i + 1)) ?_ ?_))))
  ·rw [show (64 * (i : Int)).toNat = 64 * i by omega, show (64 * (i : Int) + 64).toNat = 64 * i + 64 by omega]
   unfold impl_ShaBlock.f
   rw [if_pos ⟨hs_len p i, by rw [ByteArray.size_extract]; omega, half_hs p i⟩]
   rfl
  ·rw [show 64 * (i : Int) + 64 = 64 * ((i + 1 : Nat) : Int) by omega]
   exact ih
 ·refine evSucc ?_
  simp only [impl_Digest.l0]
  exact evNeg (by omega) (ev_out _ (hs_len p nb))
end Go.Proofs.YtdhjolglbcoijaaDoor.DigestEq

namespace Go.Proofs.YtdhjolglbcoijaaDoor.Pure
open Go.RowKit Go.Proofs.YtdhjolglbcoijaaDoor.PA Go.Proofs.YtdhjolglbcoijaaDoorW.PrintWords Go.Proofs.YtdhjolglbcoijaaDoorW.PrintLast Go.Proofs.YtdhjolglbcoijaaDoorW.PrintMore Go.Proofs.YtdhjolglbcoijaaDoor.Kit Go.Proofs.YtdhjolglbcoijaaDoor.PureFnExactCutLog
set_option linter.unusedVariables false
set_option linter.unusedSimpArgs false
def rng (x lo hi : Int) : Bool := decide (lo ≤ x) && decide (x ≤ hi)
theorem spec_in (x lo hi : Int) : spec_l01In.f x lo hi = some (rng x lo hi) := by
 unfold spec_l01In.f rng
 by_cases h : x ≥ lo
 ·simp [h]
 ·simp [h]
  try omega
theorem impl_in (x lo hi : Int) : impl_within.f x lo hi = some (rng x lo hi) := by
 unfold impl_within.f rng
 by_cases h : x ≥ lo
 ·simp [h]
 ·simp [h]
  try omega
theorem bits_nat (op : BinOp) (k : IntKind) (x y : Int) : Go.bits op k x y = match op with
 | .and => k.wrap ((BitVec.ofInt k.bits x &&& BitVec.ofInt k.bits y).toNat : Int)
 | .or => k.wrap ((BitVec.ofInt k.bits x ||| BitVec.ofInt k.bits y).toNat : Int)
 | .xor => k.wrap ((BitVec.ofInt k.bits x ^^^ BitVec.ofInt k.bits y).toNat : Int)
 | .andNot => k.wrap ((BitVec.ofInt k.bits x &&& ~~~BitVec.ofInt k.bits y).toNat : Int)
 | _ => Go.bits op k x y := by
 cases op <;> rfl
theorem ofInt_nat32 (n : Nat) (h : n < 4294967296) : (BitVec.ofInt 32 (n : Int)).toNat = n := by
 rw [BitVec.toNat_ofInt]; omega
theorem ofInt_nat64 (n : Nat) (h : n < 18446744073709551616) : (BitVec.ofInt 64 (n : Int)).toNat = n := by
 rw [BitVec.toNat_ofInt]; omega
theorem wrap_u32 (x : Int) : IntKind.wrap .u32 x = x % 4294967296 := rfl
theorem wrap_i64 (x : Int) : IntKind.wrap .i64 x = wrap64 x := i64_w x
theorem xor_u32_rng (x y : Int) : 0 ≤ Go.bits .xor .u32 x y ∧ Go.bits .xor .u32 x y < 4294967296 := by
 rw [bits_nat]
 show 0 ≤ IntKind.wrap .u32 _ ∧ IntKind.wrap .u32 _ < _
 rw [wrap_u32]
 omega
theorem and_u32_one (x : Int) (h0 : 0 ≤ x) (h1 : x < 4294967296) : Go.bits .and .u32 x 1 = x % 2 := by
 rw [bits_nat]
 show IntKind.wrap .u32 ((BitVec.ofInt 32 x &&& BitVec.ofInt 32 ((1 : Nat) : Int)).toNat : Int) = _
 obtain ⟨n, rfl⟩ := Int.eq_ofNat_of_zero_le h0
 rw [BitVec.toNat_and, ofInt_nat32 n (by omega), ofInt_nat32 1 (by omega), Nat.and_one_is_mod, wrap_u32]
 omega
theorem var_byte (x : Int) (h0 : 0 ≤ x) (h1 : x ≤ 1000000000) : (Go.bits .or .i64 (Go.bits .and .i64 x 127) 128) % 256 = x % 128 + 128 := by
 obtain ⟨n, rfl⟩ := Int.eq_ofNat_of_zero_le h0
 have e1 : Go.bits .and .i64 (n : Int) 127 = ((n % 128 : Nat) : Int) := by
  rw [bits_nat]
  show IntKind.wrap .i64 ((BitVec.ofInt 64 (n : Int) &&& BitVec.ofInt 64 ((127 : Nat) : Int)).toNat : Int) = _
  rw [BitVec.toNat_and, ofInt_nat64 n (by omega), ofInt_nat64 127 (by omega), wrap_i64]
  have : n &&& 127 = n % 128 := Nat.and_two_pow_sub_one_eq_mod n 7
  rw [this, w64 (by omega) (by omega)]
 rw [e1, bits_nat]
 show IntKind.wrap .i64 ((BitVec.ofInt 64 ((n % 128 : Nat) : Int) ||| BitVec.ofInt 64 ((128 : Nat) : Int)).toNat : Int) % 256 = _
 rw [BitVec.toNat_or, ofInt_nat64 (n % 128) (by omega), ofInt_nat64 128 (by omega), wrap_i64]
 have h : ∀ m : Fin 128, (m.val ||| 128) = m.val + 128 := by decide
 have hm := h ⟨n % 128, by omega⟩
 have e2 : (n % 128 ||| 128) = n % 128 + 128 := hm
 rw [e2, w64 (by omega) (by omega)]
 omega
def varL (n : Nat) : List Int := if h : n ≤ 127 then [(n : Int)] else ((n % 128 + 128 : Nat) : Int) :: varL (n / 128)
 termination_by n
 decreasing_by omega
theorem varL_small (n : Nat) (h : n ≤ 127) : varL n = [(n : Int)] := by rw [varL, dif_pos h]
theorem varL_big (n : Nat) (h : 127 < n) : varL n = ((n % 128 + 128 : Nat) : Int) :: varL (n / 128) := by rw [varL, dif_neg (by omega)]
theorem varL_len (n : Nat) (h : n ≤ 1000000000) : (varL n).length ≤ 5 := by
 have key : ∀ (j n : Nat), n < 128 ^ (j + 1) → (varL n).length ≤ j + 1 := by
  intro j
  induction j with
  | zero => intro n h; rw [varL_small n (by omega)]; simp
  | succ j ih =>
   intro n h
   by_cases hn : n ≤ 127
   ·rw [varL_small n hn]; simp
   ·rw [varL_big n (by omega), List.length_cons]
    have := ih (n / 128) (by rw [Nat.pow_succ] at h; omega)
    omega
 exact key 4 n (by omega)
def varS (n : Int) : ByteArray := strOfNums (varL n.toNat)
theorem varS_size (n : Int) (h : n ≤ 1000000000) : (varS n).size ≤ 5 := by
 unfold varS; rw [strOfNums_size]; exact varL_len _ (by omega)
theorem ev_spec_l01Var (n : Int) (h0 : 0 ≤ n) (h1 : n ≤ 1000000000) : Ev (fun k => spec_l01Var.f k n) (varS n) := by
 have key : ∀ (m : Nat) (acc : List Int), m ≤ 1000000000 → acc.length + m ≤ 2000000000 → Ev (fun k => spec_l01Var.l0 k (m : Int) acc) (strOfNums (acc ++ varL m)) := by
  intro m
  induction m using Nat.strongRecOn with
  | ind m ih =>
   intro acc hm ha
   refine evSucc ?_
   simp only [spec_l01Var.l0]
   have e : Int.tdiv (m : Int) 128 = ((m / 128 : Nat) : Int) := by rw [Int.tdiv_eq_ediv_of_nonneg (by omega)]; omega
   have e2 : Int.tmod (m : Int) 128 = ((m % 128 : Nat) : Int) := by rw [Int.tmod_eq_emod_of_nonneg (by omega)]; omega
   by_cases hb : m ≤ 127
   ·refine evNeg (by omega) (evPos (by omega) ?_)
    rw [varL_small m hb, show (m : Int) % 256 = m by omega]
    exact Ev.now _
   ·refine evPos (by omega) (evPos (by omega) ?_)
    rw [e, e2, w64 (by omega) (by omega), w64 (by omega) (by omega), varL_big m (by omega)]
    have := ih (m / 128) (by omega) (acc ++ [((m % 128 + 128 : Nat) : Int)]) (by omega) (by simp; omega)
    rw [List.append_assoc] at this
    rw [show (((m % 128 : Nat) : Int) + 128) % 256 = ((m % 128 + 128 : Nat) : Int) by omega]
    exact this
 have := key n.toNat [] (by omega) (by simp; omega)
 rw [Int.toNat_of_nonneg h0] at this
 exact this
theorem ev_impl_VarText (n : Int) : Ev (fun k => impl_VarText.f k n) (if rng n 0 1000000000 = true then (varS n, true) else (⟨#[]⟩, false)) := by
 simp only [impl_VarText.f, impl_in, Option.bind_some]
 refine evIte (fun h => ?_) (fun h => Ev.now _)
 have hr : 0 ≤ n ∧ n ≤ 1000000000 := by unfold rng at h; simpa using h
 have key : ∀ (m : Nat) (acc : List Int), m ≤ 1000000000 → acc.length + m ≤ 2000000000 → Ev (fun k => impl_VarText.l0 k (m : Int) acc) (strOfNums (acc ++ varL m), true) := by
  intro m
  induction m using Nat.strongRecOn with
  | ind m ih =>
   intro acc hm ha
   refine evSucc ?_
   simp only [impl_VarText.l0]
   by_cases hb : m ≤ 127
   ·refine evNeg (by omega) (evPos (by omega) ?_)
    rw [varL_small m hb, show (m : Int) % 256 = m by omega]
    exact Ev.now _
   ·refine evPos (by omega) (evPos (by omega) ?_)
    rw [var_byte m (by omega) (by omega), varL_big m (by omega)]
    have := ih (m / 128) (by omega) (acc ++ [((m % 128 + 128 : Nat) : Int)]) (by omega) (by simp; omega)
    rw [List.append_assoc] at this
    rw [show (m : Int) / 128 = ((m / 128 : Nat) : Int) by omega, show (m : Int) % 128 + 128 = ((m % 128 + 128 : Nat) : Int) by omega]
    exact this
 have := key n.toNat [] (by omega) (by simp; omega)
 rw [Int.toNat_of_nonneg hr.1] at this
 exact this
theorem ev_impl_VarText_ok (n : Int) (h0 : 0 ≤ n) (h1 : n ≤ 1000000000) : Ev (fun k => impl_VarText.f k n) (varS n, true) :=
 evEq (ev_impl_VarText n) (if_pos (by unfold rng; simp [h0, h1]))
def itemB (a b c d : Int) : Bool := if a = 1 then rng b 0 4294967295 && (rng c 0 4294967295 && d == 0) else if a = 2 then rng d 1 1000000000 && (b == 0 && c == 0) else false
theorem spec_itemB (a b c d : Int) : spec_ItemOk.f a b c d = some (itemB a b c d) := by
 unfold spec_ItemOk.f itemB
 simp only [spec_HalfOk.f, spec_in, Option.bind_some]
 by_cases h1 : a = 1
 ·rw [if_pos h1, if_pos h1]
  cases rng b 0 4294967295 <;> cases rng c 0 4294967295 <;> simp
 ·rw [if_neg h1, if_neg h1]
  by_cases h2 : a = 2
  ·rw [if_pos h2, if_pos h2]
   by_cases hb : b = 0
   ·cases rng d 1 1000000000 <;> simp [hb]
   ·cases rng d 1 1000000000 <;> simp [hb]
  ·rw [if_neg h2, if_neg h2]
theorem impl_itemB (a b c d : Int) : impl_ItemOk.f a b c d = some (itemB a b c d) := by
 unfold impl_ItemOk.f itemB
 simp only [impl_HalfOk.f, impl_in, Option.bind_some]
 by_cases h1 : a = 1
 ·rw [if_pos h1, if_pos h1]
  cases rng b 0 4294967295 <;> cases rng c 0 4294967295 <;> simp
 ·rw [if_neg h1, if_neg h1]
  by_cases h2 : a = 2
  ·rw [if_pos h2, if_pos h2]
   by_cases hb : b = 0
   ·cases rng d 1 1000000000 <;> simp [hb]
   ·cases rng d 1 1000000000 <;> simp [hb]
  ·rw [if_neg h2, if_neg h2]
def frameB (a b c d e f g : Int) : Bool := rng b 0 2 && (rng c 1 1000000000 && (if a = 1 then itemB d e f g else if a = 2 then (d == 0 && (e == 0 && (f == 0 && (g == 0)))) else false))
theorem ev_spec_FrameOk (a b c d e f g : Int) : Ev (fun k => spec_FrameOk.f k a b c d e f g) (frameB a b c d e f g) := by
 simp only [spec_FrameOk.f, spec_in, Option.bind_some]
 unfold frameB
 cases rng b 0 2
 ·refine evNeg (by simp) (evSucc ?_)
  simp only [spec_FrameOk.j0, Bool.false_and]
  exact evPos (by simp) (Ev.now _)
 ·refine evPos rfl (evSucc ?_)
  simp only [spec_FrameOk.j0, spec_itemB, Option.bind_some, Bool.true_and]
  cases rng c 1 1000000000
  ·exact evPos (by decide) (Ev.now _)
  ·refine evNeg (by simp) ?_
   simp only [Bool.true_and]
   exact evIte (fun _ => Ev.now _) (fun _ => evIte (fun _ => Ev.now _) (fun _ => Ev.now _))
theorem ev_impl_FrameOk (a b c d e f g : Int) : Ev (fun k => impl_FrameOk.f k a b c d e f g) (frameB a b c d e f g) := by
 simp only [impl_FrameOk.f, impl_isPid.f, impl_in, Option.bind_some]
 unfold frameB
 cases rng b 0 2
 ·refine evNeg (by simp) (evSucc ?_)
  simp only [impl_FrameOk.j0, Bool.false_and]
  exact evPos (by simp) (Ev.now _)
 ·refine evPos rfl (evSucc ?_)
  simp only [impl_FrameOk.j0, impl_itemB, Option.bind_some, Bool.true_and]
  cases rng c 1 1000000000
  ·exact evPos (by decide) (Ev.now _)
  ·refine evNeg (by simp) ?_
   simp only [Bool.true_and]
   exact evIte (fun _ => Ev.now _) (fun _ => evIte (fun _ => Ev.now _) (fun _ => Ev.now _))
theorem itemB_count {a b c d : Int} (h : itemB a b c d = true) : 0 ≤ d ∧ d ≤ 1000000000 := by
 unfold itemB rng at h
 split at h
 ·simp at h; omega
 ·split at h
  ·simp at h; omega
  ·simp at h
theorem frameB_facts {a b c d e f g : Int} (h : frameB a b c d e f g = true) : (0 ≤ b ∧ b ≤ 2) ∧ (1 ≤ c ∧ c ≤ 1000000000) ∧ (0 ≤ g ∧ g ≤ 1000000000) ∧ (a = 1 ∨ a = 2) := by
 unfold frameB at h
 simp only [Bool.and_eq_true] at h
 obtain ⟨h1, h2, h3⟩ := h
 unfold rng at h1 h2
 simp at h1 h2
 refine ⟨h1, h2, ?_⟩
 split at h3
 ·rename_i ha
  exact ⟨itemB_count h3, Or.inl ha⟩
 ·split at h3
  ·rename_i ha
   simp at h3
   exact ⟨by omega, Or.inr ha⟩
  ·simp at h3
def sumBit (x : Int) : Int := if x % 2 = 1 then Go.bits .xor .u32 (x / 2) 3558460437 else x / 2
def sumByte (x b : Int) : Int := sumBit (sumBit (sumBit (sumBit (sumBit (sumBit (sumBit (sumBit (Go.bits .xor .u32 x b))))))))
def sumAll (x : Int) (s : ByteArray) : Nat → Int
 | 0 => x
 | i + 1 => sumByte (sumAll x s i) (bt s i)
theorem sumBit_rng (x : Int) (h : 0 ≤ x ∧ x < 4294967296) : 0 ≤ sumBit x ∧ sumBit x < 4294967296 := by
 unfold sumBit
 split
 ·exact xor_u32_rng _ _
 ·omega
theorem sumByte_rng (x b : Int) : 0 ≤ sumByte x b ∧ sumByte x b < 4294967296 := by
 unfold sumByte
 repeat (first | exact xor_u32_rng _ _ | apply sumBit_rng)
theorem sumAll_rng (x : Int) (s : ByteArray) (h : 0 ≤ x ∧ x < 4294967296) : ∀ i, 0 ≤ sumAll x s i ∧ sumAll x s i < 4294967296
 | 0 => h
 | _ + 1 => sumByte_rng _ _
theorem sum_impl_step (x : Int) (s : ByteArray) (i j r : Int) (h : 0 ≤ x ∧ x < 4294967296) (hj : j < 8 ∧ 0 ≤ j) (next : Ev (fun k => impl_SumMore.l1 k (sumBit x) s i (j + 1)) r) : Ev (fun k => impl_SumMore.l1 k x s i j) r := by
 refine evSucc ?_
 simp only [impl_SumMore.l1]
 refine evPos hj.1 ?_
 rw [and_u32_one x h.1 h.2, w64 (by omega) (by omega)]
 unfold sumBit at next
 by_cases hx : x % 2 = 1
 ·rw [if_pos hx] at next; exact evPos hx next
 ·rw [if_neg hx] at next; exact evNeg hx next
theorem sum_spec_step (x : Int) (s : ByteArray) (i j r : Int) (h : 0 ≤ x ∧ x < 4294967296) (hj : j < 8 ∧ 0 ≤ j) (next : Ev (fun k => spec_SumMore.l1 k (sumBit x) s i (j + 1)) r) : Ev (fun k => spec_SumMore.l1 k x s i j) r := by
 refine evSucc ?_
 simp only [spec_SumMore.l1]
 refine evPos hj.1 ?_
 rw [Int.tmod_eq_emod_of_nonneg h.1, Int.tdiv_eq_ediv_of_nonneg h.1, w64 (by omega) (by omega), show x / 2 % 4294967296 = x / 2 by omega]
 unfold sumBit at next
 by_cases hx : x % 2 = 1
 ·rw [if_pos hx] at next; exact evPos hx next
 ·rw [if_neg hx] at next; exact evNeg hx next
theorem ev_impl_SumMore (x : Int) (s : ByteArray) (h : 0 ≤ x ∧ x < 4294967296) (hs : s.size ≤ 140737488351232) : Ev (fun k => impl_SumMore.f k x s) (sumAll x s s.size) := by
 have key := evUp (r := sumAll x s s.size) s.size (fun i k => impl_SumMore.l0 k (sumAll x s i) s (i : Int)) ?_ ?_
 ·exact key
 ·intro i hi ih
  refine evSucc ?_
  simp only [impl_SumMore.l0]
  have hb := bt_range s (i : Int)
  refine evPos (by omega) (evPos (by omega) ?_)
  rw [show bt s (i : Int) % 4294967296 = bt s (i : Int) by omega]
  iterate 8 (refine sum_impl_step _ _ _ _ _ (by repeat (first | exact xor_u32_rng _ _ | apply sumBit_rng)) (by decide) ?_)
  refine evSucc ?_
  simp only [impl_SumMore.l1]
  refine evNeg (by decide) ?_
  rw [w64 (by omega) (by omega), ci]
  exact ih
 ·refine evSucc ?_
  simp only [impl_SumMore.l0]
  exact evNeg (by omega) (Ev.now _)
theorem ev_spec_SumMore (x : Int) (s : ByteArray) (h : 0 ≤ x ∧ x < 4294967296) (hs : s.size ≤ 140737488351232) : Ev (fun k => spec_SumMore.f k x s) (sumAll x s s.size) := by
 have key := evUp (r := sumAll x s s.size) s.size (fun i k => spec_SumMore.l0 k (sumAll x s i) s (i : Int)) ?_ ?_
 ·exact key
 ·intro i hi ih
  refine evSucc ?_
  simp only [spec_SumMore.l0]
  have hb := bt_range s (i : Int)
  refine evPos (by omega) (evPos (by omega) ?_)
  rw [show bt s (i : Int) % 4294967296 = bt s (i : Int) by omega]
  iterate 8 (refine sum_spec_step _ _ _ _ _ (by repeat (first | exact xor_u32_rng _ _ | apply sumBit_rng)) (by decide) ?_)
  refine evSucc ?_
  simp only [spec_SumMore.l1]
  refine evNeg (by decide) ?_
  rw [w64 (by omega) (by omega), ci]
  exact ih
 ·refine evSucc ?_
  simp only [spec_SumMore.l0]
  exact evNeg (by omega) (Ev.now _)
def sumS (s : ByteArray) : Int := sumAll 4294967295 s s.size
theorem sumS_rng (s : ByteArray) : 0 ≤ sumS s ∧ sumS s < 4294967296 := sumAll_rng _ _ (by omega) _
def four4 (n : Int) : ByteArray := strOfNums [(n / 16777216) % 256, (n / 65536) % 256, (n / 256) % 256, n % 256]
theorem four4_size (n : Int) : (four4 n).size = 4 := by simp [four4, strOfNums_size]
theorem impl_four4 (n : Int) : impl_four.f n = some (four4 n) := rfl
theorem spec_four4 (n : Int) : spec_l06Four.f n = some (four4 n) := rfl
theorem spec_four2 (n : Int) : spec_l02Four.f n = some (four4 n) := rfl
def sealB (s : ByteArray) : ByteArray × Bool := if s.size ≤ 20000 then (s ++ four4 (sumS s), true) else (⟨#[]⟩, false)
theorem ev_impl_Sealed (s : ByteArray) (hs : s.size ≤ 140737488351232) : Ev (fun k => impl_Sealed.f k s) (sealB s) := by
 simp only [impl_Sealed.f, impl_SumOf.f]
 unfold sealB
 by_cases h : s.size ≤ 20000
 ·have hr := sumS_rng s
  rw [if_pos h]
  refine evNeg (by omega) (Ev.bind (Ev.bind (ev_impl_SumMore _ s (by omega) hs) (Ev.now _)) ?_)
  rw [show sumAll 4294967295 s s.size = sumS s from rfl, w64 (by omega) (by omega)]
  simp only [impl_four4, Option.bind_some]
  exact evPos (by rw [four4_size]; omega) (Ev.now _)
 ·rw [if_neg h]
  exact evPos (by omega) (Ev.now _)
theorem ev_spec_Sealed (s : ByteArray) (hs : s.size ≤ 140737488351232) : Ev (fun k => spec_Sealed.f k s) (sealB s) := by
 simp only [spec_Sealed.f, spec_SumOf.f]
 unfold sealB
 by_cases h : s.size ≤ 20000
 ·rw [if_pos h]
  refine evNeg (by omega) (Ev.bind (Ev.bind (ev_spec_SumMore _ s (by omega) hs) (Ev.now _)) ?_)
  rw [show sumAll 4294967295 s s.size = sumS s from rfl]
  simp only [spec_four2, Option.bind_some]
  exact evPos (by rw [four4_size]; omega) (Ev.now _)
 ·rw [if_neg h]
  exact evPos (by omega) (Ev.now _)
def frameRaw (a b c d e f g : Int) : ByteArray := ((((strOfNums [a % 256, b % 256] ++ varS c) ++ strOfNums [d % 256]) ++ four4 e) ++ four4 f) ++ varS g
theorem frameRaw_size {a b c d e f g : Int} (hc : c ≤ 1000000000) (hg : g ≤ 1000000000) : (frameRaw a b c d e f g).size ≤ 21 := by
 have h1 := varS_size c hc
 have h2 := varS_size g hg
 unfold frameRaw
 simp only [sizeApp, strOfNums_size, four4_size, List.length_cons, List.length_nil]
 omega
def frameS (a b c d e f g : Int) : ByteArray × Bool := if frameB a b c d e f g = true then (frameRaw a b c d e f g ++ four4 (sumS (frameRaw a b c d e f g)), true) else (⟨#[]⟩, false)
theorem frameS_size (a b c d e f g : Int) : (frameS a b c d e f g).1.size ≤ 25 := by
 unfold frameS
 split
 ·rename_i h
  obtain ⟨_, ⟨_, h2⟩, ⟨_, h3⟩, _⟩ := frameB_facts h
  have := frameRaw_size (a := a) (b := b) (d := d) (e := e) (f := f) h2 h3
  rw [sizeApp, four4_size]
  omega
 ·decide
theorem ev_spec_FrameText (a b c d e f g : Int) : Ev (fun k => spec_FrameText.f k a b c d e f g) (frameS a b c d e f g) := by
 simp only [spec_FrameText.f]
 refine Ev.bind (ev_spec_FrameOk a b c d e f g) ?_
 unfold frameS
 by_cases h : frameB a b c d e f g = true
 ·obtain ⟨_, hc, hg, _⟩ := frameB_facts h
  have s1 := varS_size c hc.2
  have s2 := varS_size g hg.2
  have hr := frameRaw_size (a := a) (b := b) (d := d) (e := e) (f := f) hc.2 hg.2
  have hsz2 (x y : Int) : (strOfNums [x, y]).size = 2 := by rw [strOfNums_size]; rfl
  have hsz1 (x : Int) : (strOfNums [x]).size = 1 := by rw [strOfNums_size]; rfl
  rw [if_pos h]
  refine evPos h ?_
  simp only [Option.bind_some, spec_four4]
  refine Ev.bind (ev_spec_l01Var c (by omega) hc.2) (evPos (by rw [hsz2]; omega) (evPos (by simp only [sizeApp, hsz2, hsz1]; omega) (evPos (by simp only [sizeApp, hsz2, hsz1, four4_size]; omega) (evPos (by simp only [sizeApp, hsz2, hsz1, four4_size]; omega) ?_))))
  refine Ev.bind (ev_spec_l01Var g (by omega) hg.2) (evPos (by simp only [sizeApp, hsz2, hsz1, four4_size]; omega) ?_)
  refine Ev.bind (ev_spec_Sealed (frameRaw a b c d e f g) (by omega)) (evEq (Ev.now _) ?_)
  unfold sealB
  rw [if_pos (by omega)]
 ·rw [if_neg h]
  exact evNeg h (Ev.now _)
theorem ev_impl_FrameText (a b c d e f g : Int) : Ev (fun k => impl_FrameText.f k a b c d e f g) (frameS a b c d e f g) := by
 simp only [impl_FrameText.f]
 refine Ev.bind (ev_impl_FrameOk a b c d e f g) ?_
 unfold frameS
 by_cases h : frameB a b c d e f g = true
 ·obtain ⟨_, hc, hg, _⟩ := frameB_facts h
  have s1 := varS_size c hc.2
  have s2 := varS_size g hg.2
  have hr := frameRaw_size (a := a) (b := b) (d := d) (e := e) (f := f) hc.2 hg.2
  have hsz2 (x y : Int) : (strOfNums [x, y]).size = 2 := by rw [strOfNums_size]; rfl
  have hsz1 (x : Int) : (strOfNums [x]).size = 1 := by rw [strOfNums_size]; rfl
  rw [if_pos h]
  refine evPos h ?_
  refine Ev.bind (ev_impl_VarText_ok c (by omega) hc.2) (Ev.bind (ev_impl_VarText_ok g (by omega) hg.2) ?_)
  simp only [Option.bind_some, impl_four4]
  refine evPos (by rw [hsz2]; omega) (evPos (by simp only [sizeApp, hsz2, hsz1]; omega) (evPos (by simp only [sizeApp, hsz2, hsz1, four4_size]; omega) (evPos (by simp only [sizeApp, hsz2, hsz1, four4_size]; omega) (evPos (by simp only [sizeApp, hsz2, hsz1, four4_size]; omega) ?_))))
  refine Ev.bind (ev_impl_Sealed (frameRaw a b c d e f g) (by omega)) (evEq (Ev.now _) ?_)
  unfold sealB
  rw [if_pos (by omega)]
 ·rw [if_neg h]
  exact evNeg h (Ev.now _)
def entryS (b c d e f g : Int) : ByteArray := (frameS 1 b c d e f g).1
theorem entryS_size (b c d e f g : Int) : (entryS b c d e f g).size ≤ 25 := frameS_size 1 b c d e f g
theorem ev_spec_EntryText (b c d e f g : Int) : Ev (fun k => spec_EntryText.f k b c d e f g) (entryS b c d e f g) := by
 simp only [spec_EntryText.f]
 exact Ev.bind (ev_spec_FrameText 1 b c d e f g) (Ev.now _)
theorem ev_impl_EntryText (b c d e f g : Int) : Ev (fun k => impl_EntryText.f k b c d e f g) (entryS b c d e f g) := by
 simp only [impl_EntryText.f]
 exact Ev.bind (ev_impl_FrameText 1 b c d e f g) (Ev.now _)
open DigestEq (dig dig_spec dig_impl)
def cvEntry (x : S91) : S70 := ⟨x.f0, x.f1, ⟨x.f2.f0, x.f2.f1, x.f2.f2, x.f2.f3⟩⟩
theorem rdLE (l : List S91) (i : Nat) (hi : i < l.length) : rd_T91 l (i : Int) = l[i] := by simp [rd_T91, hi]
theorem rdE (l : List S70) (i : Nat) (hi : i < l.length) : rd_T70 l (i : Int) = l[i] := by simp [rd_T70, hi]
theorem ev_toEntryS (l : List S91) (hl : l.length ≤ 1048576) : Ev (fun k => laws_toEntryS.f k l) (l.map cvEntry) := by
 have key := evUp (r := l.map cvEntry) l.length (fun i k => laws_toEntryS.l0 k l ((l.take i).map cvEntry ++ List.replicate (l.length - i) z70) (i : Int)) ?_ ?_
 ·refine Ev.congr (fun k => ?_) key
  unfold laws_toEntryS.f
  rw [if_pos (by omega), if_pos (by omega)]
  simp
 ·intro i hi ih
  refine evSucc ?_
  simp only [laws_toEntryS.l0]
  refine evPos (by omega) (evPos (by omega) ?_)
  simp only [laws_toEntry.f, laws_toItem.f, Option.bind_some, rdLE l i hi]
  refine evPos (by simp; omega) ?_
  rw [w64 (by omega) (by omega), ci, Int.toNat_natCast]
  rw [show (⟨l[i].f0, l[i].f1, ⟨l[i].f2.f0, l[i].f2.f1, l[i].f2.f2, l[i].f2.f3⟩⟩ : S70) = cvEntry l[i] from rfl, fillStep cvEntry _ l i hi]
  exact ih
 ·refine evSucc ?_
  simp only [laws_toEntryS.l0]
  refine evNeg (by omega) ?_
  simp
  exact Ev.now _
theorem eqEntryRefl (a b c d e f : Int) : laws_eqEntry.f a b c d e f a b c d e f = some true := by simp [laws_eqEntry.f, laws_eqItem.f]
theorem ev_eqEntryS (l : List S70) (hl : l.length ≤ 1048576) : Ev (fun k => laws_eqEntryS.f k l l) true := by
 have key := evUp (r := true) l.length (fun i k => laws_eqEntryS.l0 k l l (i : Int)) ?_ ?_
 ·refine Ev.congr (fun k => ?_) key
  unfold laws_eqEntryS.f
  rw [if_pos rfl]
  rfl
 ·intro i hi ih
  refine evSucc ?_
  simp only [laws_eqEntryS.l0]
  refine evPos (by omega) (evPos (by omega) (evPos (by omega) ?_))
  simp only [eqEntryRefl, Option.bind_some, if_true]
  rw [w64 (by omega) (by omega), ci]
  exact ih
 ·refine evSucc ?_
  simp only [laws_eqEntryS.l0]
  exact evNeg (by omega) (Ev.now _)
theorem szEntryS_small (l : List S91) (h : l.length ≤ 1048576) : laws_szEntryS.f l 1048576 = some (1048576 - (l.length : Int)) := by
 unfold laws_szEntryS.f
 rw [w64 (by omega) (by omega), if_neg (by omega)]
theorem szEntryS_big (l : List S91) (h : 1048576 < l.length) (hb : l.length ≤ 9223372036854775807) : laws_szEntryS.f l 1048576 = some (-1) := by
 unfold laws_szEntryS.f
 rw [w64 (by omega) (by omega), if_pos (by omega)]
theorem dig_size (s : ByteArray) : (dig s).size = 32 := by
 unfold DigestEq.dig
 rw [strOfNums_size, PH.f4_len, PH.hs_len]
def entryT (x : S70) : ByteArray := entryS x.f0 x.f1 x.f2.f0 x.f2.f1 x.f2.f2 x.f2.f3
theorem entryT_size (x : S70) : (entryT x).size ≤ 25 := entryS_size _ _ _ _ _ _
def headStep (h : ByteArray) (x : S70) : ByteArray := dig (h ++ entryT x)
def headS (h : ByteArray) (l : List S70) : ByteArray := l.foldl headStep h
theorem headS_size (h : ByteArray) (l : List S70) : (headS h l).size ≤ h.size + 32 := by
 rcases List.eq_nil_or_concat l with rfl | ⟨l', x, rfl⟩
 ·exact Nat.le_add_right _ _
 ·unfold headS
  rw [List.concat_eq_append, List.foldl_append]
  show (dig _).size ≤ _
  rw [dig_size]; omega
theorem headS_step (h : ByteArray) (l : List S70) (i : Nat) (hi : i < l.length) : headS h (l.take (i + 1)) = dig (headS h (l.take i) ++ entryT l[i]) := by
 unfold headS
 rw [takeSnoc l i hi, List.foldl_append]
 rfl
theorem ev_spec_HeadFrom (h : ByteArray) (l : List S70) (hh : h.size ≤ 16777216) (hl : l.length ≤ 16777216) : Ev (fun k => spec_HeadFrom.f k h l) (headS h l) := by
 have key := evUp (r := headS h l) l.length (fun i k => spec_HeadFrom.l0 k l (headS h (l.take i)) (i : Int)) ?_ ?_
 ·exact key
 ·intro i hi ih
  refine evSucc ?_
  simp only [spec_HeadFrom.l0]
  have hs := headS_size h (l.take i)
  have he := entryT_size l[i]
  rw [rdE l i hi, w64 (by omega) (by omega), ci]
  refine evPos (by omega) (evPos (by omega) (Ev.bind (ev_spec_EntryText _ _ _ _ _ _) (evPos ?_ ?_)))
  ·show _ + (entryT l[i]).size ≤ _
   omega
  refine evBindS (dig_spec _ (by rw [sizeApp]; show _ + (entryT l[i]).size ≤ _; omega)) ?_
  rw [headS_step h l i hi] at ih
  exact ih
 ·refine evSucc ?_
  simp only [spec_HeadFrom.l0]
  refine evNeg (by omega) ?_
  rw [List.take_length]
  exact Ev.now _
theorem ev_impl_HeadFrom (h : ByteArray) (l : List S70) (hh : h.size ≤ 16777216) (hl : l.length ≤ 16777216) : Ev (fun k => impl_HeadFrom.f k h l) (headS h l) := by
 have key := evUp (r := headS h l) l.length (fun i k => impl_HeadFrom.l0 k (headS h (l.take i)) l (l.length : Int) (i : Int)) ?_ ?_
 ·exact key
 ·intro i hi ih
  refine evSucc ?_
  simp only [impl_HeadFrom.l0]
  have hs := headS_size h (l.take i)
  have he := entryT_size l[i]
  rw [rdE l i hi, w64 (by omega) (by omega), ci]
  refine evPos (by omega) (evPos (by omega) (evPos (by omega) (Ev.bind (ev_impl_EntryText _ _ _ _ _ _) (evPos ?_ ?_))))
  ·show _ + (entryT l[i]).size ≤ _
   omega
  refine Ev.bind (dig_impl _ (by rw [sizeApp]; show _ + (entryT l[i]).size ≤ _; omega)) ?_
  rw [headS_step h l i hi] at ih
  exact ih
 ·refine evSucc ?_
  simp only [impl_HeadFrom.l0]
  refine evNeg (by omega) ?_
  rw [List.take_length]
  exact Ev.now _
def cutGd (l : List S70) (n : Nat) : Nat → ByteArray → Nat → List S30
 | 0, _, _ => []
 | d + 1, h, a => if a < l.length then ⟨(a : Int), h, (l.drop a).take n, headS h ((l.drop a).take n)⟩ :: cutGd l n d (headS h ((l.drop a).take n)) (a + n) else []
theorem cutGd_len (l : List S70) (n : Nat) : ∀ d h a, (cutGd l n d h a).length ≤ d := by
 intro d
 induction d with
 | zero => intro h a; exact Nat.le_refl _
 | succ d ih =>
  intro h a
  unfold cutGd
  split
  ·have := ih (headS h ((l.drop a).take n)) (a + n)
   rw [List.length_cons]; omega
  ·exact Nat.zero_le _
theorem headS32 (h : ByteArray) (hh : h.size = 32) (l : List S70) : (headS h l).size = 32 := by
 rcases List.eq_nil_or_concat l with rfl | ⟨l', x, rfl⟩
 ·exact hh
 ·unfold headS
  rw [List.concat_eq_append, List.foldl_append]
  show (dig _).size = _
  exact dig_size _
theorem cutGd_facts (l : List S70) (n : Nat) : ∀ d h a, ∀ s ∈ cutGd l n d h a, s.f2.length ≤ l.length := by
 intro d
 induction d with
 | zero => intro h a s hs; simp [cutGd] at hs
 | succ d ih =>
  intro h a s hs
  unfold cutGd at hs
  split at hs
  ·rcases List.mem_cons.1 hs with rfl | hs
   ·show ((l.drop a).take n).length ≤ _
    rw [List.length_take, List.length_drop]; omega
   ·exact ih _ _ _ hs
  ·simp at hs
theorem midTake (l : List S70) (a n b : Nat) (hb : b = if a + n ≤ l.length then a + n else l.length) : (l.take b).drop a = (l.drop a).take n := by
 rw [List.drop_take, hb]
 split
 ·rw [Nat.add_sub_cancel_left]
 ·rw [List.take_of_length_le (by rw [List.length_drop]; omega), List.take_of_length_le (by rw [List.length_drop]; omega)]
theorem ev_impl_cut (l : List S70) (n : Nat) (hn : 1 ≤ n ∧ n ≤ 200) (hl : l.length ≤ 200) : ∀ (d : Nat) (out : List S30) (h : ByteArray) (a : Nat), l.length ≤ a + d → a ≤ 400 → out.length + d ≤ 1000 → h.size = 32 → Ev (fun k => impl_CutLog.l0 k l (n : Int) out h (a : Int)) (out ++ cutGd l n d h a, true) := by
 intro d
 induction d with
 | zero =>
  intro out h a h1 h2 h3 h4
  refine evSucc ?_
  simp only [impl_CutLog.l0]
  exact evNeg (by omega) (evEq (Ev.now _) (by simp [cutGd]))
 | succ d ih =>
  intro out h a h1 h2 h3 h4
  refine evSucc ?_
  simp only [impl_CutLog.l0]
  unfold cutGd
  by_cases hc : a < l.length
  ·rw [if_pos hc]
   have hw : wrap64 ((a : Int) + (n : Int)) = ((a + n : Nat) : Int) := by rw [w64 (by omega) (by omega)]; omega
   have hm : mn ((a + n : Nat) : Int) (l.length : Int) = (((if a + n ≤ l.length then a + n else l.length : Nat)) : Int) := by unfold mn; split <;> split <;> omega
   have hlo : a ≤ (if a + n ≤ l.length then a + n else l.length) := by split <;> omega
   have hhi : (if a + n ≤ l.length then a + n else l.length) ≤ l.length := by split <;> omega
   have hp : ((l.drop a).take n).length ≤ 200 := by rw [List.length_take]; omega
   have hpart : some ((l.take (mn (wrap64 ((a : Int) + (n : Int))) (l.length : Int)).toNat).drop (a : Int).toNat) = some ((l.drop a).take n) := by
    rw [hw, hm, Int.toNat_natCast, Int.toNat_natCast, midTake l a n _ rfl]
   refine evPos (by omega) (evBindS rfl (evPos (by omega) (evPos (by rw [hw, hm]; omega) (evPos (by rw [hw, hm]; omega) (evBindS hpart (evPos (by show 0 + _ < _; omega) (evBindS (congrArg some (List.nil_append _)) (Ev.bind (ev_impl_HeadFrom h _ (by omega) (by omega)) (evPos (by omega) ?_)))))))))
   rw [hw]
   have := ih (out ++ [⟨(a : Int), h, (l.drop a).take n, headS h ((l.drop a).take n)⟩]) (headS h ((l.drop a).take n)) (a + n) (by omega) (by omega) (by rw [List.length_append, List.length_singleton]; omega) (headS32 h h4 _)
   rw [List.append_assoc] at this
   exact this
  ·rw [if_neg hc]
   exact evNeg (by omega) (evEq (Ev.now _) (by simp))
theorem ev_l28Entries (l : List S70) (hl : l.length ≤ 16777216) : spec_l28Entries.f l = some l := by
 unfold spec_l28Entries.f
 simp only [Option.bind_some]
 rw [if_pos (by show 0 + _ < _; omega), List.nil_append]
theorem ev_spec_cut (l : List S70) (n : Nat) (hn : 1 ≤ n ∧ n ≤ 200) (hl : l.length ≤ 200) : ∀ (d : Nat) (out : List S30) (h : ByteArray) (a : Nat), l.length ≤ a + d → a ≤ 400 → out.length + d ≤ 1000 → h.size = 32 → Ev (fun k => spec_CutLog.l0 k l (n : Int) out h (a : Int)) (out ++ cutGd l n d h a, true) := by
 intro d
 induction d with
 | zero =>
  intro out h a h1 h2 h3 h4
  refine evSucc ?_
  simp only [spec_CutLog.l0]
  exact evNeg (by omega) (evEq (Ev.now _) (by simp [cutGd]))
 | succ d ih =>
  intro out h a h1 h2 h3 h4
  refine evSucc ?_
  simp only [spec_CutLog.l0]
  unfold cutGd
  by_cases hc : a < l.length
  ·rw [if_pos hc]
   have hw : wrap64 ((a : Int) + (n : Int)) = ((a + n : Nat) : Int) := by rw [w64 (by omega) (by omega)]; omega
   rw [hw]
   have hp : ((l.drop a).take n).length ≤ 200 := by rw [List.length_take]; omega
   have next := ih (out ++ [⟨(a : Int), h, (l.drop a).take n, headS h ((l.drop a).take n)⟩]) (headS h ((l.drop a).take n)) (a + n) (by omega) (by omega) (by rw [List.length_append, List.length_singleton]; omega) (headS32 h h4 _)
   rw [List.append_assoc] at next
   refine evPos (by omega) ?_
   by_cases hg : l.length < a + n
   ·refine evPos (by omega) (evPos (by omega) (evPos (by omega) (evPos (by omega) ?_)))
    rw [Int.toNat_natCast, Int.toNat_natCast, midTake l a n l.length (by rw [if_neg (by omega)])]
    exact evBindS (ev_l28Entries _ (by omega)) (Ev.bind (ev_spec_HeadFrom h _ (by omega) (by omega)) (evPos (by omega) next))
   ·refine evNeg (by omega) (evPos (by omega) (evPos (by omega) (evPos (by omega) ?_)))
    rw [Int.toNat_natCast, Int.toNat_natCast, midTake l a n (a + n) (by rw [if_pos (by omega)])]
    exact evBindS (ev_l28Entries _ (by omega)) (Ev.bind (ev_spec_HeadFrom h _ (by omega) (by omega)) (evPos (by omega) next))
  ·rw [if_neg hc]
   exact evNeg (by omega) (evEq (Ev.now _) (by simp))
def cutSd (l : List S70) (n : Int) : List S30 × Bool := if 1 ≤ n ∧ n ≤ 200 ∧ l.length ≤ 200 then (cutGd l n.toNat 200 (dig ⟨#[]⟩) 0, true) else ([], false)
theorem cutSd_facts (l : List S70) (n : Int) : (cutSd l n).1.length ≤ 200 ∧ ∀ s ∈ (cutSd l n).1, s.f2.length ≤ 200 := by
 unfold cutSd
 split
 ·rename_i hc
  refine ⟨cutGd_len _ _ _ _ _, fun s hs => ?_⟩
  have := cutGd_facts _ _ _ _ _ s hs
  omega
 ·exact ⟨Nat.zero_le _, fun s hs => by simp at hs⟩
theorem ev_impl_CutLogD (l : List S70) (n : Int) : Ev (fun k => impl_CutLog.f k l n) (cutSd l n) := by
 simp only [impl_CutLog.f, impl_in, Option.bind_some]
 unfold cutSd
 by_cases h1 : 1 ≤ n ∧ n ≤ 200
 ·rw [show rng n 1 200 = true by unfold rng; simp [h1]]
  refine evPos rfl (evSucc ?_)
  simp only [impl_CutLog.j0]
  by_cases h2 : l.length ≤ 200
  ·rw [if_pos ⟨h1.1, h1.2, h2⟩]
   refine evNeg (by simp; omega) (Ev.bind (dig_impl _ (by show (⟨#[]⟩ : ByteArray).size ≤ _; decide)) ?_)
   have := ev_impl_cut l n.toNat (by omega) h2 200 [] (dig ⟨#[]⟩) 0 (by omega) (by omega) (by simp) (dig_size _)
   rw [Int.toNat_of_nonneg (by omega)] at this
   exact this
  ·rw [if_neg (fun z => h2 z.2.2)]
   exact evPos (by simp; omega) (Ev.now _)
 ·rw [if_neg (fun z => h1 ⟨z.1, z.2.1⟩), show rng n 1 200 = false by unfold rng; simp; omega]
  refine evNeg (by simp) (evSucc ?_)
  simp only [impl_CutLog.j0]
  exact evPos (by simp) (Ev.now _)
theorem ev_spec_CutLogD (l : List S70) (n : Int) : Ev (fun k => spec_CutLog.f k l n) (cutSd l n) := by
 simp only [spec_CutLog.f, spec_in, Option.bind_some]
 unfold cutSd
 by_cases h1 : 1 ≤ n ∧ n ≤ 200
 ·rw [show rng n 1 200 = true by unfold rng; simp [h1]]
  refine evPos rfl (evSucc ?_)
  simp only [spec_CutLog.j0]
  by_cases h2 : l.length ≤ 200
  ·rw [if_pos ⟨h1.1, h1.2, h2⟩]
   refine evNeg (by simp; omega) (evBindS (dig_spec _ (by show (⟨#[]⟩ : ByteArray).size ≤ _; decide)) ?_)
   have := ev_spec_cut l n.toNat (by omega) h2 200 [] (dig ⟨#[]⟩) 0 (by omega) (by omega) (by simp) (dig_size _)
   rw [Int.toNat_of_nonneg (by omega)] at this
   exact this
  ·rw [if_neg (fun z => h2 z.2.2)]
   exact evPos (by simp; omega) (Ev.now _)
 ·rw [if_neg (fun z => h1 ⟨z.1, z.2.1⟩), show rng n 1 200 = false by unfold rng; simp; omega]
  refine evNeg (by simp) (evSucc ?_)
  simp only [spec_CutLog.j0]
  exact evPos (by simp) (Ev.now _)
def mtGo (n : Nat) (acc : ByteArray) : ByteArray := if h : n = 0 then (⟨#[109]⟩ : ByteArray) ++ acc else mtGo (n / 10) (strOfNums [((48 + n % 10 : Nat) : Int)] ++ acc)
 termination_by n
 decreasing_by omega
def markT (k : Int) : ByteArray := if k ≤ 0 then (⟨#[109, 48]⟩ : ByteArray) else mtGo k.toNat ⟨#[]⟩
theorem ev_markText (k0 : Int) (h1 : k0 ≤ 1000000000) : Ev (fun k => laws_markText.f k k0) (markT k0) := by
 simp only [laws_markText.f]
 unfold markT
 refine evIte (fun h => Ev.now _) (fun h => ?_)
 have key : ∀ (n : Nat) (acc : ByteArray), n ≤ 1000000000 → n + acc.size ≤ 2000000000 → Ev (fun k => laws_markText.l0 k (n : Int) acc) (mtGo n acc) := by
  intro n
  induction n using Nat.strongRecOn with
  | ind n ih =>
   intro acc hn ha
   refine evSucc ?_
   simp only [laws_markText.l0]
   rw [mtGo]
   by_cases h0 : n = 0
   ·rw [dif_pos h0]
    exact evNeg (by omega) (evPos (by omega) (Ev.now _))
   ·rw [dif_neg h0]
    simp only [Option.bind_some]
    have e1 : Int.tmod (n : Int) 10 = ((n % 10 : Nat) : Int) := by rw [Int.tmod_eq_emod_of_nonneg (by omega)]; omega
    have e2 : Int.tdiv (n : Int) 10 = ((n / 10 : Nat) : Int) := by rw [Int.tdiv_eq_ediv_of_nonneg (by omega)]; omega
    rw [e1, e2, w64 (x := 48 + ((n % 10 : Nat) : Int)) (by omega) (by omega), w64 (x := ((n / 10 : Nat) : Int)) (by omega) (by omega), show (48 + ((n % 10 : Nat) : Int)) % 256 = ((48 + n % 10 : Nat) : Int) by omega]
    have hs : (strOfNums [((48 + n % 10 : Nat) : Int)]).size = 1 := by rw [strOfNums_size]; rfl
    refine evPos (by omega) (evPos (by rw [hs]; omega) ?_)
    exact ih (n / 10) (by omega) _ (by omega) (by rw [sizeApp, hs]; omega)
 have := key k0.toNat ⟨#[]⟩ (by omega) (by show k0.toNat + 0 ≤ _; omega)
 rw [Int.toNat_of_nonneg (by omega)] at this
 exact this
def mkdE (k : Int) : S70 := ⟨k, k + 1, ⟨k + 2, k + 3, k + 4, k + 5⟩⟩
def markE (l : List S70) (k : Int) : List S70 := (List.range l.length).map (fun (j : Nat) => mkdE (k + 6 * (j : Int)))
theorem rd_setE (l : List S70) (i : Nat) (x : S70) (hi : i < l.length) : rd_T70 (l.set i x) (i : Int) = x := by
 simp [rd_T70, hi]
theorem setsetE (l : List S70) (i : Nat) (x y : S70) : (l.set i x).set i y = l.set i y := by simp
theorem ev_markEntryS (l : List S70) (k0 : Int) (h0 : 0 ≤ k0) (h1 : k0 ≤ 1000000000) (hl : l.length ≤ 1048576) : Ev (fun k => laws_markEntryS.f k l k0) (k0 + 6 * (l.length : Int), markE l k0) := by
 have key : ∀ d i (cur : List S70), i + d = l.length → cur = (List.range i).map (fun (j : Nat) => mkdE (k0 + 6 * (j : Int))) ++ l.drop i → Ev (fun k => laws_markEntryS.l0 k cur (k0 + 6 * (i : Int)) (i : Int)) (k0 + 6 * (l.length : Int), markE l k0) := by
  intro d
  induction d with
  | zero =>
   intro i cur hi hc
   have hcl : cur.length = l.length := by rw [hc]; simp; omega
   refine evSucc ?_
   simp only [laws_markEntryS.l0]
   refine evNeg (by omega) (evEq (Ev.now _) ?_)
   rw [hc, List.drop_of_length_le (by omega), List.append_nil, show i = l.length by omega]
   rfl
  | succ d ih =>
   intro i cur hi hc
   have hcl : cur.length = l.length := by rw [hc]; simp; omega
   refine evSucc ?_
   simp only [laws_markEntryS.l0]
   refine evPos (by omega) (evPos (by omega) ?_)
   simp only [Option.bind_some, Int.toNat_natCast]
   rw [w64 (x := k0 + 6 * (i : Int) + 1) (by omega) (by omega), w64 (x := k0 + 6 * (i : Int) + 1 + 1) (by omega) (by omega), w64 (x := k0 + 6 * (i : Int) + 1 + 1 + 1) (by omega) (by omega), w64 (x := k0 + 6 * (i : Int) + 1 + 1 + 1 + 1) (by omega) (by omega), w64 (x := k0 + 6 * (i : Int) + 1 + 1 + 1 + 1 + 1) (by omega) (by omega), w64 (x := k0 + 6 * (i : Int) + 1 + 1 + 1 + 1 + 1 + 1) (by omega) (by omega), w64 (x := (i : Int) + 1) (by omega) (by omega)]
   have hi' : i < cur.length := by omega
   simp only [rd_setE _ _ _ hi', setsetE, rd_setE _ _ _ (show i < (cur.set i _).length by simpa using hi')]
   rw [ci, show k0 + 6 * (i : Int) + 1 + 1 + 1 + 1 + 1 + 1 = k0 + 6 * ((i + 1 : Nat) : Int) by omega]
   refine ih (i + 1) _ (by omega) ?_
   have hlt : i < l.length := by omega
   have hrl : ((List.range i).map (fun (j : Nat) => mkdE (k0 + 6 * (j : Int)))).length = i := by simp
   rw [hc, List.set_append_right _ _ (by rw [hrl]; omega), hrl, Nat.sub_self, List.drop_eq_getElem_cons hlt, List.set_cons_zero, List.range_succ, List.map_append, List.append_assoc]
   congr 1
   simp [mkdE]
   omega
 have := key l.length 0 l (by omega) (by simp)
 rw [show k0 + 6 * ((0 : Nat) : Int) = k0 by omega] at this
 exact this
theorem markE_len (l : List S70) (k : Int) : (markE l k).length = l.length := by simp [markE]
theorem rdMarkE (l : List S70) (k : Int) (i : Nat) (hi : i < l.length) : rd_T70 (markE l k) (i : Int) = mkdE (k + 6 * (i : Int)) := by
 simp [rd_T70, markE, hi]
theorem ev_heldEntryS (l : List S70) (k0 : Int) (h0 : 0 ≤ k0) (h1 : k0 ≤ 900000000) (hl : l.length ≤ 1048576) : Ev (fun k => laws_heldEntryS.f k (markE l k0) k0) (k0 + 6 * (l.length : Int)) := by
 have hml := markE_len l k0
 have key := evUp (r := k0 + 6 * (l.length : Int)) l.length (fun i k => laws_heldEntryS.l0 k (markE l k0) (k0 + 6 * (i : Int)) (i : Int)) ?_ ?_
 ·refine Ev.congr (fun k => ?_) key
  unfold laws_heldEntryS.f
  rw [show k0 + 6 * ((0 : Nat) : Int) = k0 by omega]
  rfl
 ·intro i hi ih
  refine evSucc ?_
  simp only [laws_heldEntryS.l0]
  rw [rdMarkE l k0 i hi, w64 (x := k0 + 6 * (i : Int) + 1) (by omega) (by omega), w64 (x := k0 + 6 * (i : Int) + 1 + 1) (by omega) (by omega), w64 (x := k0 + 6 * (i : Int) + 1 + 1 + 1) (by omega) (by omega), w64 (x := k0 + 6 * (i : Int) + 1 + 1 + 1 + 1) (by omega) (by omega), w64 (x := k0 + 6 * (i : Int) + 1 + 1 + 1 + 1 + 1) (by omega) (by omega), w64 (x := k0 + 6 * (i : Int) + 1 + 1 + 1 + 1 + 1 + 1) (by omega) (by omega), w64 (x := (i : Int) + 1) (by omega) (by omega)]
  simp only [mkdE]
  refine evPos (by omega) (evPos (by omega) (evPos trivial (evPos trivial (evPos (by omega) (evPos (by omega) (evPos (by omega) (evPos (by omega) ?_)))))))
  rw [show k0 + 6 * (i : Int) + 1 + 1 + 1 + 1 + 1 + 1 = k0 + 6 * ((i + 1 : Nat) : Int) by omega, ci]
  exact ih
 ·refine evSucc ?_
  simp only [laws_heldEntryS.l0]
  exact evNeg (by omega) (Ev.now _)
theorem rdSeg (l : List S30) (i : Nat) (hi : i < l.length) : rd_T30 l (i : Int) = l[i] := by simp [rd_T30, hi]
theorem ev_eqSegment (a : Int) (b : ByteArray) (l : List S70) (d : ByteArray) (hl : l.length ≤ 1048576) : Ev (fun k => laws_eqSegment.f k a b l d a b l d) true := by
 simp only [laws_eqSegment.f]
 exact evPos (by simp) (evPos (by simp) (Ev.bind (ev_eqEntryS l hl) (evPos (by simp) (evPos (by simp) (Ev.now _)))))
theorem rdMidSeg (d : List S30) (s : S30) (r : List S30) (i : Nat) (hi : d.length = i) : rd_T30 (d ++ s :: r) (i : Int) = s := by
 subst hi
 rw [rdSeg _ _ (by simp)]
 simp
theorem setMidSeg (d : List S30) (s x : S30) (r : List S30) (i : Nat) (hi : d.length = i) : (d ++ s :: r).set i x = d ++ x :: r := by
 subst hi
 simp
def segCost : List S30 → Int
 | [] => 0
 | s :: r => 3 + 6 * (s.f2.length : Int) + segCost r
theorem segCost_pos (l : List S30) : 0 ≤ segCost l := by
 induction l with
 | nil => exact Int.le_refl _
 | cons s r ih => unfold segCost; omega
def markSegL : List S30 → Int → List S30
 | [], _ => []
 | s :: r, k => ⟨k, markT (k + 1), markE s.f2 (k + 2), markT (k + 2 + 6 * (s.f2.length : Int))⟩ :: markSegL r (k + 3 + 6 * (s.f2.length : Int))
theorem ev_markSegG : ∀ (r d : List S30) (k0 : Int) (i : Nat), d.length = i → i + r.length ≤ 1048576 → 0 ≤ k0 → k0 + segCost r ≤ 900000000 → (∀ s ∈ r, s.f2.length ≤ 1048576) → Ev (fun k => laws_markSegmentS.l0 k (d ++ r) k0 (i : Int)) (k0 + segCost r, d ++ markSegL r k0) := by
 intro r
 induction r with
 | nil =>
  intro d k0 i hi h1 h2 h3 hs
  refine evSucc ?_
  simp only [laws_markSegmentS.l0]
  refine evNeg (by simp; omega) (evEq (Ev.now _) ?_)
  show (k0, d ++ []) = (k0 + 0, d ++ [])
  rw [Int.add_zero]
 | cons s r ih =>
  intro d k0 i hi h1 h2 h3 hs
  have hc := segCost_pos r
  rw [show segCost (s :: r) = 3 + 6 * (s.f2.length : Int) + segCost r from rfl] at h3 ⊢
  rw [List.length_cons] at h1
  generalize segCost r = c at hc h3 ih ⊢
  refine evSucc ?_
  simp only [laws_markSegmentS.l0, Option.bind_some, Int.toNat_natCast, rdMidSeg d _ r i hi, setMidSeg d _ _ r i hi]
  have w1 : wrap64 (k0 + 1) = k0 + 1 := w64 (by omega) (by omega)
  have w2 : wrap64 (k0 + 1 + 1) = k0 + 2 := by rw [w64 (by omega) (by omega)]; omega
  have w3 : wrap64 (k0 + 2 + 6 * (s.f2.length : Int) + 1) = k0 + 3 + 6 * (s.f2.length : Int) := by rw [w64 (by omega) (by omega)]; omega
  have w4 : wrap64 ((i : Int) + 1) = ((i + 1 : Nat) : Int) := by rw [w64 (by omega) (by omega)]; omega
  rw [w1, w2, w4]
  refine evPos (by simp; omega) ?_
  refine evPos (by omega) ?_
  refine Ev.bind (ev_markText _ (by omega)) ?_
  refine Ev.bind (ev_markEntryS s.f2 (k0 + 2) (by omega) (by omega) (hs s List.mem_cons_self)) ?_
  refine Ev.bind (ev_markText _ (by omega)) ?_
  rw [w3]
  have := ih (d ++ [⟨k0, markT (k0 + 1), markE s.f2 (k0 + 2), markT (k0 + 2 + 6 * (s.f2.length : Int))⟩]) (k0 + 3 + 6 * (s.f2.length : Int)) (i + 1) (by rw [List.length_append, hi]; rfl) (by omega) (by omega) (by omega) (fun s' h => hs s' (List.mem_cons_of_mem _ h))
  rw [List.append_assoc, List.append_assoc] at this
  refine evEq this ?_
  rw [show k0 + 3 + 6 * (s.f2.length : Int) + c = k0 + (3 + 6 * (s.f2.length : Int) + c) by omega]
  rfl
theorem ev_markSegmentS (l : List S30) (hl : l.length ≤ 1048576) (hc : segCost l ≤ 800000000) (hs : ∀ s ∈ l, s.f2.length ≤ 1048576) : Ev (fun k => laws_markSegmentS.f k l 1) (1 + segCost l, markSegL l 1) := by
 simp only [laws_markSegmentS.f]
 exact ev_markSegG l [] 1 0 rfl (by omega) (by omega) (by omega) hs
theorem ev_heldSegG : ∀ (r d : List S30) (k0 : Int) (i : Nat), d.length = i → i + r.length ≤ 1048576 → 0 ≤ k0 → k0 + segCost r ≤ 900000000 → (∀ s ∈ r, s.f2.length ≤ 1048576) → Ev (fun k => laws_heldSegmentS.l0 k (d ++ markSegL r k0) k0 (i : Int)) (k0 + segCost r) := by
 intro r
 induction r with
 | nil =>
  intro d k0 i hi h1 h2 h3 hs
  refine evSucc ?_
  simp only [laws_heldSegmentS.l0]
  refine evNeg (by simp [markSegL]; omega) (evEq (Ev.now _) ?_)
  show k0 = k0 + 0
  omega
 | cons s r ih =>
  intro d k0 i hi h1 h2 h3 hs
  have hc := segCost_pos r
  rw [show segCost (s :: r) = 3 + 6 * (s.f2.length : Int) + segCost r from rfl] at h3 ⊢
  rw [List.length_cons] at h1
  generalize segCost r = c at hc h3 ih ⊢
  refine evSucc ?_
  unfold markSegL
  simp only [laws_heldSegmentS.l0, rdMidSeg d _ _ i hi]
  have w1 : wrap64 (k0 + 1) = k0 + 1 := w64 (by omega) (by omega)
  have w2 : wrap64 (k0 + 1 + 1) = k0 + 2 := by rw [w64 (by omega) (by omega)]; omega
  have w3 : wrap64 (k0 + 2 + 6 * (s.f2.length : Int) + 1) = k0 + 3 + 6 * (s.f2.length : Int) := by rw [w64 (by omega) (by omega)]; omega
  have w4 : wrap64 ((i : Int) + 1) = ((i + 1 : Nat) : Int) := by rw [w64 (by omega) (by omega)]; omega
  rw [w1, w2, w4]
  refine evPos (by simp; omega) (evPos (by omega) (evPos trivial (Ev.bind (ev_markText _ (by omega)) (evPos rfl (Ev.bind (ev_heldEntryS s.f2 (k0 + 2) (by omega) (by omega) (hs s List.mem_cons_self)) (evNeg (by omega) (Ev.bind (ev_markText _ (by omega)) (evPos rfl ?_))))))))
  rw [w3]
  have := ih (d ++ [⟨k0, markT (k0 + 1), markE s.f2 (k0 + 2), markT (k0 + 2 + 6 * (s.f2.length : Int))⟩]) (k0 + 3 + 6 * (s.f2.length : Int)) (i + 1) (by rw [List.length_append, hi]; rfl) (by omega) (by omega) (by omega) (fun s' h => hs s' (List.mem_cons_of_mem _ h))
  rw [List.append_assoc] at this
  refine evEq this ?_
  omega
theorem ev_heldSegmentS (l : List S30) (hl : l.length ≤ 1048576) (hc : segCost l ≤ 800000000) (hs : ∀ s ∈ l, s.f2.length ≤ 1048576) : Ev (fun k => laws_heldSegmentS.f k (markSegL l 1) 1) (1 + segCost l) := by
 simp only [laws_heldSegmentS.f]
 exact ev_heldSegG l [] 1 0 rfl (by omega) (by omega) (by omega) hs
theorem ev_eqSegmentS (l : List S30) (hl : l.length ≤ 1048576) (hs : ∀ s ∈ l, s.f2.length ≤ 1048576) : Ev (fun k => laws_eqSegmentS.f k l l) true := by
 have key := evUp (r := true) l.length (fun i k => laws_eqSegmentS.l0 k l l (i : Int)) ?_ ?_
 ·refine Ev.congr (fun k => ?_) key
  unfold laws_eqSegmentS.f
  rw [if_pos rfl]
  rfl
 ·intro i hi ih
  refine evSucc ?_
  simp only [laws_eqSegmentS.l0]
  rw [rdSeg l i hi, w64 (by omega) (by omega), ci]
  exact evPos (by omega) (evPos (by omega) (evPos (by omega) (Ev.bind (ev_eqSegment _ _ _ _ (hs _ (List.getElem_mem hi))) (evPos rfl ih))))
 ·refine evSucc ?_
  simp only [laws_eqSegmentS.l0]
  exact evNeg (by omega) (Ev.now _)
theorem cutSd_cost (l : List S70) (n : Int) : segCost (cutSd l n).1 ≤ 800000000 := by
 have h := cutSd_facts l n
 have key : ∀ (r : List S30), (∀ s ∈ r, s.f2.length ≤ 200) → segCost r ≤ 1203 * (r.length : Int) := by
  intro r
  induction r with
  | nil => intro _; exact Int.le_refl _
  | cons s r ih =>
   intro hs
   have h1 := ih (fun s' h' => hs s' (List.mem_cons_of_mem _ h'))
   have h2 := hs s List.mem_cons_self
   unfold segCost
   rw [List.length_cons]
   omega
 have := key _ h.2
 omega
theorem FnExactCutLog : PureFnExactCutLog.Stated := by
 intro l n ⟨_, hb⟩ _
 refine Ev.rounds ?_
 simp only [laws_FnExactCutLog.f]
 by_cases h2 : l.length ≤ 1048576
 ·rw [szEntryS_small l h2]
  simp only [Option.bind_some]
  have hm : (l.map cvEntry).length ≤ 1048576 := by simpa using h2
  have e1 := ev_spec_CutLogD (l.map cvEntry) n
  have e2 := ev_impl_CutLogD (l.map cvEntry) n
  have hf := cutSd_facts (l.map cvEntry) n
  have hcost := cutSd_cost (l.map cvEntry) n
  generalize cutSd (l.map cvEntry) n = x at e1 e2 hf hcost
  obtain ⟨p, ok⟩ := x
  simp only at hf hcost
  have hl1 : p.length ≤ 1048576 := by omega
  have hs1 : ∀ s ∈ p, s.f2.length ≤ 1048576 := fun s h => by have := hf.2 s h; omega
  have hnn := segCost_pos p
  refine evNeg (by omega) (Ev.bind (ev_toEntryS l h2) (Ev.bind e1 (Ev.bind (ev_toEntryS l h2) (Ev.bind e2 (Ev.bind (ev_eqSegmentS p hl1 hs1) (evPos rfl (evSucc ?_)))))))
  simp only [laws_FnExactCutLog.j0]
  refine evNeg (by simp) (Ev.bind (ev_toEntryS l h2) (Ev.bind (ev_eqEntryS _ hm) (evPos rfl (Ev.bind (ev_markEntryS _ 1 (by omega) (by omega) hm) (evNeg ?_ (Ev.bind (ev_eqSegmentS p hl1 hs1) (evPos rfl (evSucc ?_))))))))
  ·show ¬ 1 + 6 * ((l.map cvEntry).length : Int) < 0
   omega
  simp only [laws_FnExactCutLog.j1]
  refine evNeg (by simp) (Ev.bind (ev_markSegmentS p hl1 hcost hs1) (Ev.bind (ev_heldSegmentS p hl1 hcost hs1) (evNeg (by omega) (evPos rfl ?_))))
  refine Ev.bind (ev_toEntryS l h2) (Ev.bind e2 (Ev.bind (ev_eqSegmentS p hl1 hs1) (evPos rfl (evSucc ?_))))
  simp only [laws_FnExactCutLog.j2]
  exact evNeg (by simp) (Ev.bind (ev_heldSegmentS p hl1 hcost hs1) (evNeg (by omega) (evPos rfl (Ev.now _))))
 ·rw [szEntryS_big l (by omega) hb]
  simp only [Option.bind_some]
  exact evPos (by omega) (Ev.now _)

end Go.Proofs.YtdhjolglbcoijaaDoor.Pure

namespace Go.Proofs.YtdhjolglbcoijaaDoor.fnExactCutLog
open Go.ChangeShapes Go.WideShapes Go.ChangeAt Go.RowKit Go.Proofs.YtdhjolglbcoijaaDoor.PA Go.Proofs.YtdhjolglbcoijaaDoor.PureFnExactCutLog Go.Proofs.YtdhjolglbcoijaaDoorW.PrintWords
open Go.ChangeMaps (open_string shut_string)
set_option linter.unusedVariables false
set_option linter.unusedSimpArgs false
theorem own : ownKnob Tryd.prog.godebug = none := by kernel_rfl
theorem laidOut : laidOutB Tryd.prog = true := by kernel_rfl
def laidV : List (String × DataW Unit) := [("loop.example/g00397/impl.shaWords", Rows.laid_loop_example_g00397_impl_shaWords)]
theorem gTab : Tryd.prog.globalNamed "loop.example/g00397/impl.shaWords" = some 0 := by kernel_rfl
theorem gTabType : (Tryd.prog.globals[0]?).map (·.type) = some 107 := by kernel_rfl
theorem door_met (os : Os) (args : Array Value) : laidMetH Tryd.prog laidV ((World.doorLaid Tryd.prog 4000 os).forCall (fun _ _ => 0) ⟨#[], args, []⟩).memory :=
 laidMetH_of_parts3 (fuel := 8) (laidMet_of_run' 8 (by kernel_rfl) (by kernel_rfl)) (by kernel_rfl) (by kernel_rfl)
theorem vars_back {H : Type} {enc : TypeId × Value → H} {W W' : World} (hb : Below W.heap.size W W') {gs : List (DataW H)} {ps : List MemPlace} (h : DataW.TrodVars enc Tryd.prog W (fun _ => true) ["loop.example/g00397/impl.shaWords"] gs ps) :
 DataW.TrodVars enc Tryd.prog W' (fun b => decide (b < W.heap.size)) ["loop.example/g00397/impl.shaWords"] gs ps := by
 obtain ⟨g, t, cs, fu, d, p, rfl, hg, ht, hv, htr, rfl⟩ := trodVars_one h
 have hg2 := hg
 have ht2 := ht
 obtain rfl := Option.some.inj (gTab.symm.trans hg)
 obtain rfl := Option.some.inj (gTabType.symm.trans ht)
 have lt := DataW.trod_lt _ _ _ _ htr
 have hk : DataW.Trod enc Tryd.prog W' 0 (fun b => decide (b < W.heap.size)) true 107 (.agg cs) d p := Below.trod laidOut (by kernel_rfl) (of_decide_eq_true (by kernel_rfl)) (show DataW.Trod enc Tryd.prog W 0 (fun _ => true) true 107 (.agg cs) d p from ⟨fu, htr⟩) hb lt
 obtain ⟨m, hm⟩ := hk
 have hv2 : W'.var? Tryd.prog "loop.example/g00397/impl.shaWords" = some cs := by
  unfold World.var? at hv ⊢
  rw [gTab, Option.bind_some] at hv ⊢
  have hlt : 0 < W.heap.size := by
   rcases Nat.lt_or_ge 0 W.heap.size with h' | h'
   ·exact h'
   ·rw [Array.getElem?_eq_none h'] at hv; cases hv
  rw [hb.block 0 hlt]
  exact hv
 exact trodVars_mk1 hg2 ht2 hv2 hm
theorem op89 : Op.Opens Tryd.prog k89 89 ok89 := Op.opStruct Tryd.underlying89 (by kernel_rfl) (Op.fieldsCons (Op.opInt Tryd.underlying3 (by kernel_rfl)) rfl (Op.fieldsCons (Op.opInt Tryd.underlying3 (by kernel_rfl)) rfl (Op.fieldsCons (Op.opInt Tryd.underlying3 (by kernel_rfl)) rfl (Op.fieldsOne (Op.opInt Tryd.underlying3 (by kernel_rfl)) rfl)))) (fun a => ⟨a.1, a.2.1, a.2.2.1, a.2.2.2⟩) (fun a => rfl) (fun a h => h)
theorem op91 : Op.Opens Tryd.prog k91 91 ok91 := Op.opStruct Tryd.underlying91 (by kernel_rfl) (Op.fieldsCons (Op.opInt Tryd.underlying3 (by kernel_rfl)) rfl (Op.fieldsCons (Op.opInt Tryd.underlying3 (by kernel_rfl)) rfl (Op.fieldsOne op89 rfl))) (fun a => ⟨a.1, a.2.1, a.2.2⟩) (fun a => rfl) (fun a h => h)
set_option maxRecDepth 100000 in
theorem lifted (os : Os) (started : os.Started) (H : Type) (enc : TypeId × Value → H) :
 ReturnsInHanded {} Tryd.checked os 7 .any (fun w args => (Rows.fnExactCutLogSpec.pre enc Tryd.prog Tryd.f7 [] false w args ∧ laidMetH Tryd.prog laidV w) ∧ sizedMet enc Tryd.prog Tryd.f7 (OpenSpec.ofChange Rows.fnExactCutLogSpec) false w args) (Rows.fnExactCutLogSpec.post enc Tryd.prog Tryd.f7 false true false false) := by
 refine returnsInHanded_of_change_and (C := Tryd.checked) (X := fun w _ => laidMetH Tryd.prog laidV w) (fun _ _ _ hh h => h.of_heap hh) own started (by kernel_rfl) Tryd.func7
  (ChangeSpec.witness_shaped (enc := enc) (C := Tryd.checked) (os := os) (X := fun w _ => laidMetH Tryd.prog laidV w) false (World.doorLaid Tryd.prog 4000 os) #[.slice none 0 0, .int .i64 0] 8 rfl (World.shaped_of_RefB (by kernel_rfl) (by kernel_rfl)) (by kernel_rfl) (by kernel_rfl) (by kernel_rfl) (door_met os _)) ?_
 intro W base args ds gs before hval0 hW _ _ hL _
 have hT : PA.Tab W := by
  rw [MakeChecks.laidMetH_plain _ _ _ (by kernel_rfl)] at hL
  exact Lib.tabIs_of_head (rest := []) gTab gTabType (t := 107) (e := 104) (n := 64) (by kernel_rfl) (by kernel_rfl) (by kernel_rfl) (by kernel_rfl) hL
 have hval : ∀ (j : Nat) t v, Tryd.f7.params[j]? = some t → args[j]? = some v → Value.okWide Tryd.prog W .any base t v := hval0
 have hW' := hW
 obtain ⟨p, q, hA0, hV, rfl, hfz, hnd⟩ := hW
 have hA : DataW.TrodAll enc Tryd.prog W 0 (fun _ => true) true Tryd.f7.params.toList args.toList ds p := hA0
 rw [Tryd.params7] at hA hval
 obtain ⟨v0, vs0, d0, ds0, p0, q0, hargs, rfl, rfl, h0, r0⟩ := trodAll_cons hA
 obtain ⟨v1, vs1, d1, ds1, p1, q1, rfl, rfl, rfl, h1, r1⟩ := trodAll_cons r0
 obtain ⟨rfl, rfl, rfl⟩ := trodAll_nil r1
 obtain rfl : args = #[v0, v1] := by cases args; simp_all
 obtain ⟨g1, t1, cs1, fu1, dv, pv1, rfl, _⟩ := trodVars_one hV
 have k0 := h0
 have lt0 : ∀ x ∈ p0, x.block < W.heap.size := by obtain ⟨m, hm⟩ := k0; exact DataW.trod_lt m _ _ _ hm
 obtain ⟨m0, hm0⟩ := h0
 obtain ⟨A0, n0, c0, rfl⟩ := okWide_slice Tryd.underlying23 (hval 0 23 v0 rfl rfl)
 obtain ⟨x0, ⟨A0', c0', hs0, hc0, hr0⟩, hG0⟩ := (Op.opSlice Tryd.underlying23 (by kernel_rfl) 91 op91).op hm0
 obtain ⟨rfl, rfl, rfl⟩ : A0 = A0' ∧ n0 = x0.length ∧ c0 = c0' := by simpa [Value.cells] using hs0
 have k1 := h1
 have lt1 : ∀ x ∈ p1, x.block < W.heap.size := by obtain ⟨m, hm⟩ := k1; exact DataW.trod_lt m _ _ _ hm
 obtain ⟨x1, rfl, rfl, rfl, hG1⟩ := open_int Tryd.underlying3 (hval 1 3 v1 rfl rfl) h1
 obtain ⟨k, h⟩ := Pure.FnExactCutLog x0 x1 hG0 hG1
 refine (laws_FnExactCutLog.calls k A0 c0 x0 x1 true W hr0 hc0 hT rfl h).mono fun e W' ⟨he, bel⟩ => ?_
 subst he
 exact ⟨_, rfl, _, _, _, [], _, _, hW', trodAll_mk1 (shut_bool Tryd.underlying4 _), (trodAll_cons_mk (Below.trod laidOut (by kernel_rfl) (of_decide_eq_true (by kernel_rfl)) k0 bel lt0) (trodAll_cons_mk (Below.trod laidOut (by kernel_rfl) (of_decide_eq_true (by kernel_rfl)) k1 bel lt1) trodAll_mk0)), vars_back bel hV, bel.frame _, fun h => by cases h⟩
theorem over : Rows.fnExactCutLogRow.holds Tryd.pinned (OpenSpec.ofChange Rows.fnExactCutLogSpec) :=
 OpenClaim.holds_of_wide 7 Tryd.f7 rfl rfl rfl rfl rfl rfl rfl ⟨rfl, rfl, rfl, rfl, rfl⟩ rfl rfl rfl rfl rfl (by kernel_rfl) Tryd.func7 (by kernel_rfl)
  (of_decide_eq_true (by kernel_rfl)) (by unfold Func.isWrapper; first | (rw [if_pos (by decide +kernel)]; kernel_rfl) | (rw [if_neg (by decide +kernel)]; exact ⟨rfl, rfl⟩))
  (fun os started H enc _ => lifted os started H enc)
theorem proved : Rows.FnExactCutLogSaid := over
#print axioms proved
end Go.Proofs.YtdhjolglbcoijaaDoor.fnExactCutLog
namespace Go.Proofs.YtdhjolglbcoijaaDoor
theorem fnExactCutLog_holds : Rows.FnExactCutLogCardSaid :=
 Claim7.holds_tied_plain_at .later [] [.data] true (true, "86c5b83168afbe62a9fd9dd9b188a8bbcb0f32602a88b45c4d3f3879959306bb") false
  fnExactCutLog.proved (fun _ h => by cases h) (by kernel_rfl) (fun _ h => by cases h) fnExactCutLog_row_tie rfl ⟨rfl, rfl⟩ (by kernel_rfl) rfl
  (fun f fn hf hfn => by
   obtain rfl : f = 7 := Option.some.inj ((show Tryd.prog.funcNamed "loop.example/g00397/laws.FnExactCutLog" = some 7 by kernel_rfl).symm.trans hf) |>.symm
   obtain rfl : fn = Tryd.f7 := (Option.some.inj (Tryd.func7.symm.trans hfn)).symm
   exact ⟨by kernel_rfl, fun j t ht => by
    rw [Tryd.params7] at ht
    have h3 : t = 23 ∨ t = 3 := by
     match j, ht with
     | 0, ht => simp at ht; subst ht; simp
     | 1, ht => simp at ht; subst ht; simp
     | _ + 2, ht => simp at ht
    rcases h3 with rfl | rfl
    ·exact (show Tryd.prog.wantsStandIn 23 = false by kernel_rfl)
    ·exact (show Tryd.prog.wantsStandIn 3 = false by kernel_rfl)⟩)
  (by kernel_rfl)
end Go.Proofs.YtdhjolglbcoijaaDoor
