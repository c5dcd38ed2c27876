/- Contracts of functions of the program and of the reference, and plain lemmas on what they compute. No condition. -/
import Derived.Test.YtdhjolglbcoijaaDoorGe1c07x0
import Derived.Test.YtdhjolglbcoijaaDoorGd11e3x1
import Derived.Test.YtdhjolglbcoijaaDoorG2b405x0
import Derived.Test.YtdhjolglbcoijaaDoorGd11e3x0
import Derived.Test.YtdhjolglbcoijaaDoorG5622ax0
import Derived.Test.YtdhjolglbcoijaaDoorGe6189x0
import Derived.Test.YtdhjolglbcoijaaDoorShortV
set_option maxHeartbeats 8000000
set_option maxRecDepth 100000
namespace Go.Proofs.YtdhjolglbcoijaaDoor.PA
open Go.RowKit Go.Proofs.YtdhjolglbcoijaaDoor.Short Go.Proofs.YtdhjolglbcoijaaDoorW.PrintWords Go.Proofs.YtdhjolglbcoijaaDoorW.PrintLast Go.Proofs.YtdhjolglbcoijaaDoorW.PrintMore
attribute [local go_sem] max2_int min2_int max_two min_two max_three min_three max_four min_four   -- for this text's walks alone
set_option linter.unusedVariables false
set_option linter.unusedSimpArgs false

mutual
def laws_FnExactJoinSegments.j0 : Nat → List (S25) → List (S70) → Bool → List (S30) → List (S70) → Bool → Bool → Option (Bool)
 | 0, _, _, _, _, _, _, _ => none
 | k + 1, x0, x4, x5, x6, x7, x8, x40 => if x40 = true then (some false) else ((laws_toSegmentS.f k x0).bind fun t456 => ((laws_eqSegmentS.f k x6 t456).bind fun t459 => (if t459 = true then ((laws_markSegmentS.f k x6 1).bind fun bt460 => (if bt460.1 < 0 then (laws_FnExactJoinSegments.j1 k x0 x4 x5 x7 true) else ((laws_eqEntryS.f k x7 x4).bind fun t462 => (if t462 = true then (laws_FnExactJoinSegments.j1 k x0 x4 x5 x7 (x8 != x5)) else (laws_FnExactJoinSegments.j1 k x0 x4 x5 x7 true))))) else (some false))))
def laws_FnExactJoinSegments.j1 : Nat → List (S25) → List (S70) → Bool → List (S70) → Bool → Option (Bool)
 | 0, _, _, _, _, _ => none
 | k + 1, x0, x4, x5, x7, x61 => if x61 = true then (some false) else ((laws_markEntryS.f k x7 1).bind fun bt463 => ((laws_heldEntryS.f k bt463.2 1).bind fun t465 => (if t465 < 0 then (some false) else (if t465 = bt463.1 then ((laws_toSegmentS.f k x0).bind fun t466 => ((impl_JoinSegments.f k t466).bind fun bt469 => ((laws_eqEntryS.f k bt469.1 x4).bind fun t473 => (if t473 = true then (laws_FnExactJoinSegments.j2 k bt463.2 bt463.1 (bt469.2 != x5)) else (laws_FnExactJoinSegments.j2 k bt463.2 bt463.1 true))))) else (some false)))))
def laws_FnExactJoinSegments.j2 : Nat → List (S70) → Int → Bool → Option (Bool)
 | 0, _, _, _ => none
 | k + 1, x7, x10, x87 => if x87 = true then (some false) else ((laws_heldEntryS.f k x7 1).bind fun t474 => (if t474 < 0 then (some false) else (if t474 = x10 then (some true) else (some false))))
end
def laws_FnExactJoinSegments.f (k : Nat) (l0 : List (S25)) : Option (Bool) := (laws_szSegmentS.f k l0 1048576).bind fun t440 => (if t440 < 0 then (some true) else ((laws_toSegmentS.f k l0).bind fun t441 => ((spec_JoinSegments.f k t441).bind fun bt444 => ((laws_toSegmentS.f k l0).bind fun t448 => ((impl_JoinSegments.f k t448).bind fun bt451 => ((laws_eqEntryS.f k bt451.1 bt444.1).bind fun t455 => (if t455 = true then (laws_FnExactJoinSegments.j0 k l0 bt444.1 bt444.2 t448 bt451.1 bt451.2 (bt451.2 != bt444.2)) else (laws_FnExactJoinSegments.j0 k l0 bt444.1 bt444.2 t448 bt451.1 bt451.2 true))))))))
theorem laws_FnExactJoinSegments.mono_l : ∀ k, (∀ y0 y1 y2 y3 y4 y5 y6, LeO (laws_FnExactJoinSegments.j0 k y0 y1 y2 y3 y4 y5 y6) (laws_FnExactJoinSegments.j0 (k + 1) y0 y1 y2 y3 y4 y5 y6)) ∧ (∀ y0 y1 y2 y3 y4, LeO (laws_FnExactJoinSegments.j1 k y0 y1 y2 y3 y4) (laws_FnExactJoinSegments.j1 (k + 1) y0 y1 y2 y3 y4)) ∧ (∀ y0 y1 y2, LeO (laws_FnExactJoinSegments.j2 k y0 y1 y2) (laws_FnExactJoinSegments.j2 (k + 1) y0 y1 y2))
 | 0 => ⟨fun _ _ _ _ _ _ _ r h => by simp [laws_FnExactJoinSegments.j0] at h, fun _ _ _ _ _ r h => by simp [laws_FnExactJoinSegments.j1] at h, fun _ _ _ r h => by simp [laws_FnExactJoinSegments.j2] at h⟩
 | k + 1 => by
  obtain ⟨ih0, ih1, ih2⟩ := laws_FnExactJoinSegments.mono_l k
  refine ⟨?_, ?_, ?_⟩
  ·intro y0 y1 y2 y3 y4 y5 y6
   unfold laws_FnExactJoinSegments.j0
   have m0 := @impl_JoinSegments.mono
   have m1 := @laws_eqEntryS.mono
   have m2 := @laws_eqSegmentS.mono
   have m3 := @laws_heldEntryS.mono
   have m4 := @laws_markEntryS.mono
   have m5 := @laws_markSegmentS.mono
   have m6 := @laws_szSegmentS.mono
   have m7 := @laws_toSegmentS.mono
   have m8 := @spec_JoinSegments.mono
   exact mo_
  ·intro y0 y1 y2 y3 y4
   unfold laws_FnExactJoinSegments.j1
   have m0 := @impl_JoinSegments.mono
   have m1 := @laws_eqEntryS.mono
   have m2 := @laws_eqSegmentS.mono
   have m3 := @laws_heldEntryS.mono
   have m4 := @laws_markEntryS.mono
   have m5 := @laws_markSegmentS.mono
   have m6 := @laws_szSegmentS.mono
   have m7 := @laws_toSegmentS.mono
   have m8 := @spec_JoinSegments.mono
   exact mo_
  ·intro y0 y1 y2
   unfold laws_FnExactJoinSegments.j2
   have m0 := @impl_JoinSegments.mono
   have m1 := @laws_eqEntryS.mono
   have m2 := @laws_eqSegmentS.mono
   have m3 := @laws_heldEntryS.mono
   have m4 := @laws_markEntryS.mono
   have m5 := @laws_markSegmentS.mono
   have m6 := @laws_szSegmentS.mono
   have m7 := @laws_toSegmentS.mono
   have m8 := @spec_JoinSegments.mono
   exact mo_
theorem laws_FnExactJoinSegments.mono : ∀ a0 k, LeO (laws_FnExactJoinSegments.f k a0) (laws_FnExactJoinSegments.f (k + 1) a0) := by
 intro a0 k
 obtain ⟨ih0, ih1, ih2⟩ := laws_FnExactJoinSegments.mono_l k
 unfold laws_FnExactJoinSegments.f
 have m0 := @impl_JoinSegments.mono
 have m1 := @laws_eqEntryS.mono
 have m2 := @laws_eqSegmentS.mono
 have m3 := @laws_heldEntryS.mono
 have m4 := @laws_markEntryS.mono
 have m5 := @laws_markSegmentS.mono
 have m6 := @laws_szSegmentS.mono
 have m7 := @laws_toSegmentS.mono
 have m8 := @spec_JoinSegments.mono
 exact mo_
theorem sHand_8 {α : Type} {d : Kd α} {e base : Nat} {w : World} {ok : Nat → Prop} {v : Value} {xs : List α} (h : Kd.S d e w base ok v xs) : ∃ P_ : Nat → Prop, Kd.S d e w base P_ v xs ∧ ∀ k, P_ k → ok k ∧ base ≤ k ∧ k < w.heap.size ∧ ∃ q, q ∈ e :: d.E ∧ ∃ cells, w.heap[k]? = some (.cells cells q (0, 0)) := ⟨_, Kd.S_bound h, fun _ hk => hk⟩
theorem sBig_8 {α : Type} {d : Kd α} {e base : Nat} {w : World} {ok : Nat → Prop} {v : Value} {xs : List α} (h : Kd.S d e w base ok v xs) : Kd.S d e w base (fun k => ok k ∧ base ≤ k) v xs := Kd.S_mono (Kd.S_bound h) (fun _ hk => ⟨hk.1, hk.2.1⟩)
theorem sTypes_8 {w : World} {k b : Nat} {L L' : List Nat} (h : k < b ∧ ∃ q, q ∈ L ∧ ∃ cells, w.heap[k]? = some (.cells cells q (0, 0))) (h' : ∃ q, q ∈ L' ∧ ∃ cells, w.heap[k]? = some (.cells cells q (0, 0))) (hn : ∀ q, q ∈ L → ∀ q', q' ∈ L' → q ≠ q') : False := by
 obtain ⟨_, q, hq, c, hc⟩ := h
 obtain ⟨q', hq', c', hc'⟩ := h'
 rw [hc] at hc'
 injection hc' with hc'
 injection hc' with _ hc'
 exact hn q hq q' hq' hc'
theorem laws_FnExactJoinSegments.calls (k : Nat) (A0 : Option Addr) (c0 : Nat) (l0 : List (S25)) (r : Bool) (w : World) (hr0 : Kd.C k25 w A0 l0.length l0) (hc0 : l0.length ≤ c0) (hT : Tab w) (hr1 : r = true) (h : laws_FnExactJoinSegments.f k l0 = some r) :
 Calls Tryd.prog 8 #[.slice A0 l0.length c0] w fun e w' => e = .returned (.bool r) ∧ Below w.heap.size w w' := by
 have HR0 := Aside0.mk hr0
 have HC0 := Aside0.mk hc0
 clear hr0 hc0
 have HT := Aside0.mk hT
 clear hT
 have HR1 := Aside0.mk hr1
 clear hr1
 have HB := Aside0.mk (Below.refl w.heap.size w)
 have H := h
 unfold laws_FnExactJoinSegments.f at H
 clear h
 replace H := bs_ H
 obtain ⟨t440, A2, H⟩ := H
 try dsimp only at H
 by_cases c3 : t440 < 0
 ·rw [if_pos c3] at H
  have c3b0 := decide_eq_true c3
  clear c3
  obtain rfl := Option.some.inj H
  go_enter Tryd.func8, Tryd.ntmps8
  go_wp2_with (first | ((with_reducible refine gate_callee (f := 38) rfl ?_); refine gs_ (some 16) Tryd.func38 #[.slice A0 l0.length c0, .int .i64 1048576] ?_; (with_reducible refine (laws_szSegmentS.calls k _ _ l0 1048576 t440 _ ?side1 ?side2 A2.out).mono ?_); (case side1 => exact cs_ HR0.out); (case side2 => exact HC0.out); rintro e w4 ⟨rfl, hb⟩; refine ⟨_, rfl, ?_⟩; replace HB := Aside0.mk (below_step bl_ hb); (try clear hb)))
  go_ret
  exact ⟨er_, bl_⟩
 rw [if_neg c3] at H
 have c3b0 := decide_eq_false c3
 clear c3
 replace H := bs_ H
 obtain ⟨t441, A5, H⟩ := H
 try dsimp only at H
 replace H := bs_ H
 obtain ⟨⟨t444, t445⟩, A6, H⟩ := H
 try dsimp only at H
 replace H := bs_ H
 obtain ⟨t448, A7, H⟩ := H
 try dsimp only at H
 replace H := bs_ H
 obtain ⟨⟨t451, t452⟩, A8, H⟩ := H
 try dsimp only at H
 have HC9 := Aside0.mk H
 clear H
 go_enter Tryd.func8, Tryd.ntmps8
 go_upto_region 8 with (first | ((with_reducible refine gate_callee (f := 38) rfl ?_); refine gs_ (some 16) Tryd.func38 #[.slice A0 l0.length c0, .int .i64 1048576] ?_; (with_reducible refine (laws_szSegmentS.calls k _ _ l0 1048576 t440 _ ?side1 ?side2 A2.out).mono ?_); (case side1 => exact cs_ HR0.out); (case side2 => exact HC0.out); rintro e w10 ⟨rfl, hb⟩; refine ⟨_, rfl, ?_⟩; replace HB := Aside0.mk (below_step bl_ hb); (try clear hb)) | ((with_reducible refine gate_callee (f := 40) rfl ?_); refine gs_ (some 21) Tryd.func40 #[.slice A0 l0.length c0] ?_; (with_reducible refine (laws_toSegmentS.calls k _ _ l0 t441 _ ?side1 ?side2 A5.out).mono ?_); (case side1 => exact cb_ HR0.out HB.out); (case side2 => exact HC0.out); rintro e w11 ⟨v442, rfl, ho0, hb⟩; refine ⟨_, rfl, ?_⟩; have HO443 := Aside0.mk (Kd.S_lower ho0 (below_size bl_)); replace HB := Aside0.mk (below_step bl_ hb); (try clear hb); (try clear ho0); obtain ⟨Ao12, co12, eo12⟩ := Kd.S_slice HO443.out; subst eo12) | ((with_reducible refine gate_callee (f := 39) rfl ?_); refine gs_ (some 22) Tryd.func39 #[.slice Ao12 t441.length co12] ?_; (with_reducible refine (spec_JoinSegments.calls k _ _ t441 t444 t445 _ ?side1 ?side2 A6.out).mono ?_); (case side1 => exact cs_ ((Kd.S_reads' HO443.out).2.2)); (case side2 => exact (Kd.S_reads' HO443.out).2.1); rintro e w13 ⟨v446, rfl, ho0, hb⟩; refine ⟨_, rfl, ?_⟩; replace HO443 := Aside0.mk (Kd.S_elder' (by (with_reducible repeat (first | apply Kd.S_alloc | apply Kd.S_drewN | apply Kd.S_drew)); exact HO443.out) (Kd.R_base ho0) hb); have HO447 := Aside0.mk (Kd.R_lower ho0 (below_size bl_)); replace HB := Aside0.mk (below_step bl_ hb); (try clear hb); (try clear ho0)) | ((with_reducible refine gate_callee (f := 40) rfl ?_); refine gs_ (some 26) Tryd.func40 #[.slice A0 l0.length c0] ?_; (with_reducible refine (laws_toSegmentS.calls k _ _ l0 t448 _ ?side1 ?side2 A7.out).mono ?_); (case side1 => exact cb_ HR0.out HB.out); (case side2 => exact HC0.out); rintro e w14 ⟨v449, rfl, ho0, hb⟩; refine ⟨_, rfl, ?_⟩; have HO450 := Aside0.mk (Kd.S_lower (sBig_8 (Kd.S_new' (Kd.S_new' ho0 (Kd.S_lt (by (with_reducible repeat (first | apply Kd.S_alloc | apply Kd.S_drewN | apply Kd.S_drew)); exact HO443.out))) (Kd.R_lt (ra_ HO447.out)))) (below_size bl_)); replace HO443 := Aside0.mk (Kd.S_told (Kd.S_old (by (with_reducible repeat (first | apply Kd.S_alloc | apply Kd.S_drewN | apply Kd.S_drew)); exact HO443.out) hb) (Kd.S_base ho0)); replace HO447 := Aside0.mk (Kd.R_below (ra_ HO447.out) hb); replace HB := Aside0.mk (below_step bl_ hb); (try clear hb); (try clear ho0); obtain ⟨Ao15, co15, eo15⟩ := Kd.S_slice HO450.out; subst eo15) | ((with_reducible refine gate_callee (f := 41) rfl ?_); refine gs_ (some 29) Tryd.func41 #[.slice Ao15 t448.length co15] ?_; (with_reducible refine (impl_JoinSegments.calls k _ _ t448 t451 t452 _ ?side1 ?side2 ?side3 A8.out).mono ?_); (case side1 => exact cs_ ((Kd.S_reads' HO450.out).2.2)); (case side2 => exact (Kd.S_reads' HO450.out).2.1); (case side3 => exact tab_of HT.out bl_); rintro e w16 ⟨v453, rfl, ho0, hb⟩; refine ⟨_, rfl, ?_⟩; replace HO443 := Aside0.mk (Kd.S_elder' (by (with_reducible repeat (first | apply Kd.S_alloc | apply Kd.S_drewN | apply Kd.S_drew)); exact HO443.out) (Kd.R_base ho0) hb); replace HO450 := Aside0.mk (Kd.S_elder' (by (with_reducible repeat (first | apply Kd.S_alloc | apply Kd.S_drewN | apply Kd.S_drew)); exact HO450.out) (Kd.R_base ho0) hb); have HO454 := Aside0.mk (Kd.R_lower (Kd.R_new' ho0 (Kd.R_lt (ra_ HO447.out))) (below_size bl_)); replace HO447 := Aside0.mk (Kd.R_elder' (ra_ HO447.out) (Kd.R_base ho0) hb); replace HB := Aside0.mk (below_step bl_ hb); (try clear hb); (try clear ho0)))
 (try simp only [Act.put, List.setIfInBounds_toArray, List.set_cons_zero, List.set_cons_succ])
 go_cut [40] (fun v40 wc => ∃ (kq : Nat) (x40_8 : Bool), v40 = .bool x40_8 ∧ Aside0 (laws_FnExactJoinSegments.j0 kq l0 t444 t445 t448 t451 t452 x40_8 = some r) ∧ Aside0 (kq ≤ k) ∧ Aside0 (Kd.R k70 70 wc w.heap.size (fun k_ => some k_ ≠ (v453 : Value).ownBlock) v446 t444) ∧ Aside0 (Kd.S k30 30 wc w.heap.size (fun k_ => some k_ ≠ (v446 : Value).ownBlock ∧ some k_ ≠ (v453 : Value).ownBlock ∧ w13.heap.size ≤ k_) (.slice Ao15 t448.length co15) t448) ∧ Aside0 (Kd.R k70 70 wc w.heap.size (fun k_ => some k_ ≠ (v446 : Value).ownBlock) v453 t451) ∧ Aside0 (Below w.heap.size w wc))
 case first =>
  have H := HC9.out
  clear HC9
  replace H := bs_ H
  obtain ⟨t455, A17, H⟩ := H
  try dsimp only at H
  by_cases c18 : t455 = true
  ·subst c18
   rw [if_pos rfl] at H
   have H' := Aside0.mk H
   clear H
   obtain ⟨Ao19, co19, eo19⟩ := Kd.R_slice HO454.out
   subst eo19
   obtain ⟨Ao20, co20, eo20⟩ := Kd.R_slice HO447.out
   subst eo20
   go_wp2_with (first | ((with_reducible refine gate_callee (f := 29) rfl ?_); refine gs_ (some 34) Tryd.func29 #[.slice Ao19 t451.length co19, .slice Ao20 t444.length co20] ?_; (with_reducible refine (laws_eqEntryS.calls k _ _ t451 _ _ t444 true _ ?side1 ?side2 ?side3 ?side4 A17.out).mono ?_); (case side1 => exact cs_ ((Kd.R_reads' HO454.out).2.2)); (case side2 => exact (Kd.R_reads' HO454.out).2.1); (case side3 => exact cs_ ((Kd.R_reads' HO447.out).2.2)); (case side4 => exact (Kd.R_reads' HO447.out).2.1); rintro e w21 ⟨rfl, hb⟩; refine ⟨_, rfl, ?_⟩; replace HO443 := Aside0.mk (Kd.S_below (by (with_reducible repeat (first | apply Kd.S_alloc | apply Kd.S_drewN | apply Kd.S_drew)); exact HO443.out) hb); replace HO447 := Aside0.mk (Kd.R_below (ra_ HO447.out) hb); replace HO450 := Aside0.mk (Kd.S_below (by (with_reducible repeat (first | apply Kd.S_alloc | apply Kd.S_drewN | apply Kd.S_drew)); exact HO450.out) hb); replace HO454 := Aside0.mk (Kd.R_below (ra_ HO454.out) hb); replace HB := Aside0.mk (below_step bl_ hb); (try clear hb)))
   go_meet
   case rel => exact ⟨_, ((t452 != t445)), (sr_), H', ⟨by first | omega | exact Nat.le_refl _⟩, ⟨by (with_reducible repeat (first | apply Kd.R_alloc | apply Kd.R_drewN | apply Kd.R_drew)); exact Kd.R_mono HO447.out (fun _ hk => hk.2)⟩, ⟨by (with_reducible repeat (first | apply Kd.S_alloc | apply Kd.S_drewN | apply Kd.S_drew)); exact Kd.S_mono HO450.out (fun _ hk => ⟨hk.1.1.2, ⟨hk.2, hk.1.2⟩⟩)⟩, ⟨by (with_reducible repeat (first | apply Kd.R_alloc | apply Kd.R_drewN | apply Kd.R_drew)); exact Kd.R_mono HO454.out (fun _ hk => hk.2)⟩, ⟨bl_⟩⟩
  replace c18 := Bool.eq_false_iff.mpr c18
  subst c18
  rw [nf_] at H
  have H' := Aside0.mk H
  clear H
  obtain ⟨Ao22, co22, eo22⟩ := Kd.R_slice HO454.out
  subst eo22
  obtain ⟨Ao23, co23, eo23⟩ := Kd.R_slice HO447.out
  subst eo23
  go_wp2_with (first | ((with_reducible refine gate_callee (f := 29) rfl ?_); refine gs_ (some 34) Tryd.func29 #[.slice Ao22 t451.length co22, .slice Ao23 t444.length co23] ?_; (with_reducible refine (laws_eqEntryS.calls k _ _ t451 _ _ t444 false _ ?side1 ?side2 ?side3 ?side4 A17.out).mono ?_); (case side1 => exact cs_ ((Kd.R_reads' HO454.out).2.2)); (case side2 => exact (Kd.R_reads' HO454.out).2.1); (case side3 => exact cs_ ((Kd.R_reads' HO447.out).2.2)); (case side4 => exact (Kd.R_reads' HO447.out).2.1); rintro e w24 ⟨rfl, hb⟩; refine ⟨_, rfl, ?_⟩; replace HO443 := Aside0.mk (Kd.S_below (by (with_reducible repeat (first | apply Kd.S_alloc | apply Kd.S_drewN | apply Kd.S_drew)); exact HO443.out) hb); replace HO447 := Aside0.mk (Kd.R_below (ra_ HO447.out) hb); replace HO450 := Aside0.mk (Kd.S_below (by (with_reducible repeat (first | apply Kd.S_alloc | apply Kd.S_drewN | apply Kd.S_drew)); exact HO450.out) hb); replace HO454 := Aside0.mk (Kd.R_below (ra_ HO454.out) hb); replace HB := Aside0.mk (below_step bl_ hb); (try clear hb)))
  go_meet
  case rel => exact ⟨_, (true), (sr_), H', ⟨by first | omega | exact Nat.le_refl _⟩, ⟨by (with_reducible repeat (first | apply Kd.R_alloc | apply Kd.R_drewN | apply Kd.R_drew)); exact Kd.R_mono HO447.out (fun _ hk => hk.2)⟩, ⟨by (with_reducible repeat (first | apply Kd.S_alloc | apply Kd.S_drewN | apply Kd.S_drew)); exact Kd.S_mono HO450.out (fun _ hk => ⟨hk.1.1.2, ⟨hk.2, hk.1.2⟩⟩)⟩, ⟨by (with_reducible repeat (first | apply Kd.R_alloc | apply Kd.R_drewN | apply Kd.R_drew)); exact Kd.R_mono HO454.out (fun _ hk => hk.2)⟩, ⟨bl_⟩⟩
 clear HC9
 try clear c3
 try clear c3b0
 obtain ⟨kq, x40_8, rfl, HA, HJ8, HO_4, HO_6, HO_7, HB⟩ := hcut
 cases kq with
 | zero => exact absurd HA.out (by simp [laws_FnExactJoinSegments.j0])
 | succ kj8 => ?_
 have H := HA.out
 clear HA
 simp only [laws_FnExactJoinSegments.j0] at H
 by_cases c25 : x40_8 = true
 ·subst c25
  rw [if_pos rfl] at H
  exact absurd ((Option.some.inj H).trans HR1.out) (by decide)
 replace c25 := Bool.eq_false_iff.mpr c25
 subst c25
 rw [nf_] at H
 replace H := bs_ H
 obtain ⟨t456, A26, H⟩ := H
 try dsimp only at H
 replace H := bs_ H
 obtain ⟨t459, A27, H⟩ := H
 try dsimp only at H
 by_cases c28 : t459 = true
 rotate_left
 ·replace c28 := Bool.eq_false_iff.mpr c28
  subst c28
  rw [nf_] at H
  exact absurd ((Option.some.inj H).trans HR1.out) (by decide)
 subst c28
 rw [if_pos rfl] at H
 replace H := bs_ H
 obtain ⟨⟨t460, t461⟩, A29, H⟩ := H
 try dsimp only at H
 have HC30 := Aside0.mk H
 clear H
 go_upto_region 14 with (first | ((with_reducible refine gate_callee (f := 40) rfl ?_); refine gs_ (some 43) Tryd.func40 #[.slice A0 l0.length c0] ?_; (with_reducible refine (laws_toSegmentS.calls kj8 _ _ l0 t456 _ ?side1 ?side2 A26.out).mono ?_); (case side1 => exact cb_ HR0.out HB.out); (case side2 => exact HC0.out); rintro e w31 ⟨v457, rfl, ho0, hb⟩; refine ⟨_, rfl, ?_⟩; have HO458 := Aside0.mk (Kd.S_lower (sBig_8 (Kd.S_new' (Kd.S_new' (Kd.S_new' ho0 (Kd.R_lt (ra_ HO_4.out))) (Kd.S_lt (by (with_reducible repeat (first | apply Kd.S_alloc | apply Kd.S_drewN | apply Kd.S_drew)); exact HO_6.out))) (Kd.R_lt (ra_ HO_7.out)))) (below_size bl_)); replace HO_4 := Aside0.mk (Kd.R_below (ra_ HO_4.out) hb); replace HO_6 := Aside0.mk (Kd.S_told (Kd.S_old (by (with_reducible repeat (first | apply Kd.S_alloc | apply Kd.S_drewN | apply Kd.S_drew)); exact HO_6.out) hb) (Kd.S_base ho0)); replace HO_7 := Aside0.mk (Kd.R_below (ra_ HO_7.out) hb); replace HB := Aside0.mk (below_step bl_ hb); (try clear hb); (try clear ho0); obtain ⟨Ao32, co32, eo32⟩ := Kd.S_slice HO458.out; subst eo32) | ((with_reducible refine gate_callee (f := 35) rfl ?_); refine gs_ (some 44) Tryd.func35 #[.slice Ao15 t448.length co15, .slice Ao32 t456.length co32] ?_; (with_reducible refine (laws_eqSegmentS.calls kj8 _ _ t448 _ _ t456 true _ ?side1 ?side2 ?side3 ?side4 A27.out).mono ?_); (case side1 => exact cs_ ((Kd.S_reads' HO_6.out).2.2)); (case side2 => exact (Kd.S_reads' HO_6.out).2.1); (case side3 => exact cs_ ((Kd.S_reads' HO458.out).2.2)); (case side4 => exact (Kd.S_reads' HO458.out).2.1); rintro e w33 ⟨rfl, hb⟩; refine ⟨_, rfl, ?_⟩; replace HO_4 := Aside0.mk (Kd.R_below (ra_ HO_4.out) hb); replace HO_6 := Aside0.mk (Kd.S_below (by (with_reducible repeat (first | apply Kd.S_alloc | apply Kd.S_drewN | apply Kd.S_drew)); exact HO_6.out) hb); replace HO_7 := Aside0.mk (Kd.R_below (ra_ HO_7.out) hb); replace HO458 := Aside0.mk (Kd.S_below (by (with_reducible repeat (first | apply Kd.S_alloc | apply Kd.S_drewN | apply Kd.S_drew)); exact HO458.out) hb); replace HB := Aside0.mk (below_step bl_ hb); (try clear hb)) | ((with_reducible refine gate_callee (f := 36) rfl ?_); obtain ⟨PS_6_, hS_6_, hP_6_⟩ := sHand_8 (HO_6.out); refine gs_ (some 48) Tryd.func36 #[.slice Ao15 t448.length co15, .int .i64 1] ?_; (with_reducible refine (laws_markSegmentS.calls kj8 PS_6_ (.slice Ao15 t448.length co15) t448 1 t460 t461 w _ ?side1 ?side2 A29.out).mono ?_); (case side1 => repeat (first | (with_reducible first | exact HB.out | apply below_alloc | apply pw_below_drewN | apply below_drew1) | exact HB.out)); (case side2 => exact hS_6_); rintro e w34 ⟨rfl, hy0, hb, hkp⟩; refine ⟨_, rfl, ?_⟩; replace HO_6 := Aside0.mk (Kd.S_mono (ok' := fun k_ => (some k_ ≠ (v446 : Value).ownBlock ∧ (some k_ ≠ (v453 : Value).ownBlock ∧ some k_ ≠ (.slice Ao32 t456.length co32 : Value).ownBlock))) hy0 (fun k_ hk_ => Or.elim hk_ (fun hs_ => ⟨(hP_6_ _ hs_).1.1.1.1, ⟨(hP_6_ _ hs_).1.1.1.2.1, (hP_6_ _ hs_).1.1.2⟩⟩) (fun hn_ => ⟨fun e_ => Nat.not_le.2 (Kd.R_lt HO_4.out k_ e_.symm) hn_, ⟨fun e_ => Nat.not_le.2 (Kd.R_lt HO_7.out k_ e_.symm) hn_, fun e_ => Nat.not_le.2 (Kd.S_lt HO458.out k_ e_.symm) hn_⟩⟩))); replace HO_4 := Aside0.mk (Kd.R_mono (ok' := fun k_ => some k_ ≠ (v453 : Value).ownBlock) (Kd.R_keptB ((Kd.R_tight2 rfl HO_4.out)) hkp (fun k_ hk_ hs_ => (fun e_ => ((hP_6_ _ e_).1.1.1.1) (hk_.1)) hs_)) (fun k_ hk_ => hk_.1.2)); replace HO_7 := Aside0.mk (Kd.R_mono (ok' := fun k_ => some k_ ≠ (v446 : Value).ownBlock) (Kd.R_keptB ((Kd.R_tight2 rfl HO_7.out)) hkp (fun k_ hk_ hs_ => (fun e_ => ((hP_6_ _ e_).1.1.1.2.1) (hk_.1)) hs_)) (fun k_ hk_ => hk_.1.2)); replace HO458 := Aside0.mk (Kd.S_mono (ok' := fun k_ => some k_ ≠ (v446 : Value).ownBlock ∧ some k_ ≠ (.slice Ao15 t448.length co15 : Value).ownBlock ∧ some k_ ≠ (v453 : Value).ownBlock ∧ wc.heap.size ≤ k_) (Kd.S_keptB (HO458.out) hkp (fun k_ hk_ hs_ => (fun e_ => Nat.not_le.2 ((hP_6_ _ e_).1.2) (hk_.2)) hs_)) (fun k_ hk_ => ⟨hk_.1.1.1.1.2, hk_.1.1.1.2, hk_.1.1.2, hk_.1.2⟩)); replace HB := Aside0.mk (hb); (try clear hb); (try clear hkp); (try clear hy0); (try clear PS_6_ hS_6_ hP_6_)))
 (try simp only [Act.put, List.setIfInBounds_toArray, List.set_cons_zero, List.set_cons_succ])
 go_cut [61] (fun v61 wc => ∃ (kq : Nat) (x61_29 : Bool), v61 = .bool x61_29 ∧ Aside0 (laws_FnExactJoinSegments.j1 kq l0 t444 t445 t451 x61_29 = some r) ∧ Aside0 (kq ≤ kj8) ∧ Aside0 (Kd.R k70 70 wc w.heap.size (fun k_ => some k_ ≠ (v453 : Value).ownBlock) v446 t444) ∧ Aside0 (Kd.R k70 70 wc w.heap.size (fun k_ => some k_ ≠ (v446 : Value).ownBlock) v453 t451) ∧ Aside0 (Below w.heap.size w wc))
 case first =>
  have H := HC30.out
  clear HC30
  by_cases c35 : t460 < 0
  ·rw [if_pos c35] at H
   have c35b0 := decide_eq_true c35
   clear c35
   (first | rw [c35b0] | (simp only [i64_w, i32_w]; rw [c35b0]) | skip)
   have H' := Aside0.mk H
   clear H
   go_wp2
   go_meet
   case rel => exact ⟨_, (true), (sr_), H', ⟨by have := HJ8.out; first | omega | exact Nat.le_refl _⟩, ⟨ra_ HO_4.out⟩, ⟨ra_ HO_7.out⟩, ⟨bl_⟩⟩
  rw [if_neg c35] at H
  have c35b0 := decide_eq_false c35
  clear c35
  (first | rw [c35b0] | (simp only [i64_w, i32_w]; rw [c35b0]) | skip)
  replace H := bs_ H
  obtain ⟨t462, A36, H⟩ := H
  try dsimp only at H
  by_cases c37 : t462 = true
  ·subst c37
   rw [if_pos rfl] at H
   have H' := Aside0.mk H
   clear H
   obtain ⟨Ao38, co38, eo38⟩ := Kd.R_slice HO_7.out
   subst eo38
   obtain ⟨Ao39, co39, eo39⟩ := Kd.R_slice HO_4.out
   subst eo39
   go_wp2_with (first | (go_at_call 29; (with_reducible refine (laws_eqEntryS.calls kj8 _ _ t451 _ _ t444 true _ ?side1 ?side2 ?side3 ?side4 A36.out).mono ?_); (case side1 => exact cs_ ((Kd.R_reads' HO_7.out).2.2)); (case side2 => exact (Kd.R_reads' HO_7.out).2.1); (case side3 => exact cs_ ((Kd.R_reads' HO_4.out).2.2)); (case side4 => exact (Kd.R_reads' HO_4.out).2.1); rintro e w40 ⟨rfl, hb⟩; replace HO_4 := Aside0.mk (Kd.R_below (ra_ HO_4.out) hb); replace HO_6 := Aside0.mk (Kd.S_below (by (with_reducible repeat (first | apply Kd.S_alloc | apply Kd.S_drewN | apply Kd.S_drew)); exact HO_6.out) hb); replace HO_7 := Aside0.mk (Kd.R_below (ra_ HO_7.out) hb); replace HO458 := Aside0.mk (Kd.S_below (by (with_reducible repeat (first | apply Kd.S_alloc | apply Kd.S_drewN | apply Kd.S_drew)); exact HO458.out) hb); replace HB := Aside0.mk (below_step bl_ hb); (try clear hb)))
   go_meet
   case rel => exact ⟨_, ((t452 != t445)), (sr_), H', ⟨by have := HJ8.out; first | omega | exact Nat.le_refl _⟩, ⟨ra_ HO_4.out⟩, ⟨ra_ HO_7.out⟩, ⟨bl_⟩⟩
  replace c37 := Bool.eq_false_iff.mpr c37
  subst c37
  rw [nf_] at H
  have H' := Aside0.mk H
  clear H
  obtain ⟨Ao41, co41, eo41⟩ := Kd.R_slice HO_7.out
  subst eo41
  obtain ⟨Ao42, co42, eo42⟩ := Kd.R_slice HO_4.out
  subst eo42
  go_wp2_with (first | (go_at_call 29; (with_reducible refine (laws_eqEntryS.calls kj8 _ _ t451 _ _ t444 false _ ?side1 ?side2 ?side3 ?side4 A36.out).mono ?_); (case side1 => exact cs_ ((Kd.R_reads' HO_7.out).2.2)); (case side2 => exact (Kd.R_reads' HO_7.out).2.1); (case side3 => exact cs_ ((Kd.R_reads' HO_4.out).2.2)); (case side4 => exact (Kd.R_reads' HO_4.out).2.1); rintro e w43 ⟨rfl, hb⟩; replace HO_4 := Aside0.mk (Kd.R_below (ra_ HO_4.out) hb); replace HO_6 := Aside0.mk (Kd.S_below (by (with_reducible repeat (first | apply Kd.S_alloc | apply Kd.S_drewN | apply Kd.S_drew)); exact HO_6.out) hb); replace HO_7 := Aside0.mk (Kd.R_below (ra_ HO_7.out) hb); replace HO458 := Aside0.mk (Kd.S_below (by (with_reducible repeat (first | apply Kd.S_alloc | apply Kd.S_drewN | apply Kd.S_drew)); exact HO458.out) hb); replace HB := Aside0.mk (below_step bl_ hb); (try clear hb)))
  go_meet
  case rel => exact ⟨_, (true), (sr_), H', ⟨by have := HJ8.out; first | omega | exact Nat.le_refl _⟩, ⟨ra_ HO_4.out⟩, ⟨ra_ HO_7.out⟩, ⟨bl_⟩⟩
 clear HC30
 try clear c3
 try clear c3b0
 try clear c25
 try clear c28
 obtain ⟨kq, x61_29, rfl, HA, HJ29, HO_4, HO_7, HB⟩ := hcut
 cases kq with
 | zero => exact absurd HA.out (by simp [laws_FnExactJoinSegments.j1])
 | succ kj29 => ?_
 have H := HA.out
 clear HA
 simp only [laws_FnExactJoinSegments.j1] at H
 by_cases c44 : x61_29 = true
 ·subst c44
  rw [if_pos rfl] at H
  exact absurd ((Option.some.inj H).trans HR1.out) (by decide)
 replace c44 := Bool.eq_false_iff.mpr c44
 subst c44
 rw [nf_] at H
 replace H := bs_ H
 obtain ⟨⟨t463, t464⟩, A45, H⟩ := H
 try dsimp only at H
 replace H := bs_ H
 obtain ⟨t465, A46, H⟩ := H
 try dsimp only at H
 by_cases c47 : t465 < 0
 ·rw [if_pos c47] at H
  have c47b0 := decide_eq_true c47
  clear c47
  exact absurd ((Option.some.inj H).trans HR1.out) (by decide)
 rw [if_neg c47] at H
 have c47b0 := decide_eq_false c47
 clear c47
 by_cases c48 : t465 = t463
 rotate_left
 ·rw [if_neg c48] at H
  have c48b0 : (t465 == t463) = false := beq_eq_false_iff_ne.mpr c48
  have c48b1 : (t465 != t463) = true := bne_iff_ne.mpr c48
  exact absurd ((Option.some.inj H).trans HR1.out) (by decide)
 rw [if_pos c48] at H
 have c48b0 : (t465 == t463) = true := beq_iff_eq.mpr c48
 have c48b1 : (t465 != t463) = false := bne_eq_false_iff_eq.mpr c48
 clear c48
 replace H := bs_ H
 obtain ⟨t466, A49, H⟩ := H
 try dsimp only at H
 replace H := bs_ H
 obtain ⟨⟨t469, t470⟩, A50, H⟩ := H
 try dsimp only at H
 have HC51 := Aside0.mk H
 clear H
 obtain ⟨Ao52, co52, eo52⟩ := Kd.R_slice HO_7.out
 subst eo52
 go_upto_region 25 with (first | ((with_reducible refine gate_callee (f := 30) rfl ?_); refine gs_ (some 64) Tryd.func30 #[.slice Ao52 t451.length co52, .int .i64 1] ?_; (with_reducible refine (laws_markEntryS.calls kj29 (fun k_ => some k_ = (.slice Ao52 t451.length co52 : Value).ownBlock) (.slice Ao52 t451.length co52) t451 1 t463 t464 w _ ?side1 ?side2 A45.out).mono ?_); (case side1 => repeat (first | (with_reducible first | exact HB.out | apply below_alloc | apply pw_below_drewN | apply below_drew1) | exact HB.out)); (case side2 => exact Kd.R_tight rfl HO_7.out); rintro e w53 ⟨rfl, hy0, hb, hkp⟩; refine ⟨_, rfl, ?_⟩; replace HO_4 := Aside0.mk (Kd.R_mono (ok' := fun k_ => some k_ ≠ (.slice Ao52 t451.length co52 : Value).ownBlock) (Kd.R_keptB (HO_4.out) hkp (fun k_ hk_ hs_ => (hk_) hs_)) (fun k_ hk_ => hk_.1)); replace HO_7 := Aside0.mk (Kd.R_reok rfl hy0 (fun k_ e_ => HO_7.out.1 k_ e_)); replace HB := Aside0.mk (hb); (try clear hb); (try clear hkp); (try clear hy0)) | ((with_reducible refine gate_callee (f := 42) rfl ?_); refine goesL_ (some 67) rfl rfl Tryd.func42 (by kernel_rfl) rfl #[.slice Ao52 t464.length co52, .int .i64 1] rfl (by (try simp only [List.map_toArray, List.map_cons, List.map_nil]); first | done | (rw [show t464.length = t451.length from (Kd.R_reads' HO_7.out).1.symm] <;> rfl) | rfl | (simp only [List.length_drop, List.length_take]; rfl)) ?_; (with_reducible refine (laws_heldEntryS.calls kj29 _ _ t464 1 t465 _ ?side1 ?side2 A46.out).mono ?_); (case side1 => exact cs_ ((Kd.R_reads' HO_7.out).2.2)); (case side2 => rw [show t464.length = t451.length from (Kd.R_reads' HO_7.out).1.symm]; exact (Kd.R_reads' HO_7.out).2.1); rintro e w' ⟨rfl, ⟨nd, rfl⟩⟩; refine ⟨_, rfl, ?_⟩) | ((with_reducible refine gate_callee (f := 40) rfl ?_); refine gs_ (some 75) Tryd.func40 #[.slice A0 l0.length c0] ?_; (with_reducible refine (laws_toSegmentS.calls kj29 _ _ l0 t466 _ ?side1 ?side2 A49.out).mono ?_); (case side1 => repeat (first | exact (Kd.C_below HR0.out bl_) | exact HR0.out | (with_reducible refine Kd.C_alloc ?_ _) | (with_reducible refine Kd.C_drewN ?_ _) | (with_reducible refine Kd.C_drew ?_))); (case side2 => exact HC0.out); rintro e w54 ⟨v467, rfl, ho0, hb⟩; refine ⟨_, rfl, ?_⟩; have HO468 := Aside0.mk (Kd.S_lower (Kd.S_new' (Kd.S_new' ho0 (Kd.R_lt (ra_ HO_4.out))) (Kd.R_lt (ra_ HO_7.out))) (below_size bl_)); replace HO_4 := Aside0.mk (Kd.R_below (ra_ HO_4.out) hb); replace HO_7 := Aside0.mk (Kd.R_below (ra_ HO_7.out) hb); replace HB := Aside0.mk (below_step bl_ hb); (try clear hb); (try clear ho0); obtain ⟨Ao55, co55, eo55⟩ := Kd.S_slice HO468.out; subst eo55) | ((with_reducible refine gate_callee (f := 41) rfl ?_); refine gs_ (some 76) Tryd.func41 #[.slice Ao55 t466.length co55] ?_; (with_reducible refine (impl_JoinSegments.calls kj29 _ _ t466 t469 t470 _ ?side1 ?side2 ?side3 A50.out).mono ?_); (case side1 => exact cs_ ((Kd.S_reads' HO468.out).2.2)); (case side2 => exact (Kd.S_reads' HO468.out).2.1); (case side3 => exact tab_of HT.out bl_); rintro e w56 ⟨v471, rfl, ho0, hb⟩; refine ⟨_, rfl, ?_⟩; replace HO468 := Aside0.mk (Kd.S_elder' (by (with_reducible repeat (first | apply Kd.S_alloc | apply Kd.S_drewN | apply Kd.S_drew)); exact HO468.out) (Kd.R_base ho0) hb); have HO472 := Aside0.mk (Kd.R_lower (Kd.R_new' (Kd.R_new' ho0 (Kd.R_lt (ra_ HO_4.out))) (Kd.R_lt (ra_ HO_7.out))) (below_size bl_)); replace HO_4 := Aside0.mk (Kd.R_elder' (ra_ HO_4.out) (Kd.R_base ho0) hb); replace HO_7 := Aside0.mk (Kd.R_elder' (ra_ HO_7.out) (Kd.R_base ho0) hb); replace HB := Aside0.mk (below_step bl_ hb); (try clear hb); (try clear ho0)))
 (try simp only [Act.put, List.setIfInBounds_toArray, List.set_cons_zero, List.set_cons_succ])
 go_cut [87] (fun v87 wc => ∃ (kq : Nat) (x87_50 : Bool), v87 = .bool x87_50 ∧ Aside0 (laws_FnExactJoinSegments.j2 kq t464 t463 x87_50 = some r) ∧ Aside0 (kq ≤ kj29) ∧ Aside0 (Kd.R k70 70 wc w.heap.size (fun _ => True) (.slice Ao52 t451.length co52) t464) ∧ Aside0 (Below w.heap.size w wc))
 case first =>
  have H := HC51.out
  clear HC51
  replace H := bs_ H
  obtain ⟨t473, A57, H⟩ := H
  try dsimp only at H
  by_cases c58 : t473 = true
  ·subst c58
   rw [if_pos rfl] at H
   have H' := Aside0.mk H
   clear H
   obtain ⟨Ao59, co59, eo59⟩ := Kd.R_slice HO472.out
   subst eo59
   obtain ⟨Ao60, co60, eo60⟩ := Kd.R_slice HO_4.out
   subst eo60
   go_wp2_with (first | ((with_reducible refine gate_callee (f := 29) rfl ?_); refine gs_ (some 81) Tryd.func29 #[.slice Ao59 t469.length co59, .slice Ao60 t444.length co60] ?_; (with_reducible refine (laws_eqEntryS.calls kj29 _ _ t469 _ _ t444 true _ ?side1 ?side2 ?side3 ?side4 A57.out).mono ?_); (case side1 => exact cs_ ((Kd.R_reads' HO472.out).2.2)); (case side2 => exact (Kd.R_reads' HO472.out).2.1); (case side3 => exact cs_ ((Kd.R_reads' HO_4.out).2.2)); (case side4 => exact (Kd.R_reads' HO_4.out).2.1); rintro e w61 ⟨rfl, hb⟩; refine ⟨_, rfl, ?_⟩; replace HO_4 := Aside0.mk (Kd.R_below (ra_ HO_4.out) hb); replace HO_7 := Aside0.mk (Kd.R_below (ra_ HO_7.out) hb); replace HO468 := Aside0.mk (Kd.S_below (by (with_reducible repeat (first | apply Kd.S_alloc | apply Kd.S_drewN | apply Kd.S_drew)); exact HO468.out) hb); replace HO472 := Aside0.mk (Kd.R_below (ra_ HO472.out) hb); replace HB := Aside0.mk (below_step bl_ hb); (try clear hb)))
   go_meet
   case rel => exact ⟨_, ((t470 != t445)), (sr_), H', ⟨by have := HJ8.out; have := HJ29.out; first | omega | exact Nat.le_refl _⟩, ⟨by (with_reducible repeat (first | apply Kd.R_alloc | apply Kd.R_drewN | apply Kd.R_drew)); exact Kd.R_mono HO_7.out (fun _ hk => trivial)⟩, ⟨bl_⟩⟩
  replace c58 := Bool.eq_false_iff.mpr c58
  subst c58
  rw [nf_] at H
  have H' := Aside0.mk H
  clear H
  obtain ⟨Ao62, co62, eo62⟩ := Kd.R_slice HO472.out
  subst eo62
  obtain ⟨Ao63, co63, eo63⟩ := Kd.R_slice HO_4.out
  subst eo63
  go_wp2_with (first | ((with_reducible refine gate_callee (f := 29) rfl ?_); refine gs_ (some 81) Tryd.func29 #[.slice Ao62 t469.length co62, .slice Ao63 t444.length co63] ?_; (with_reducible refine (laws_eqEntryS.calls kj29 _ _ t469 _ _ t444 false _ ?side1 ?side2 ?side3 ?side4 A57.out).mono ?_); (case side1 => exact cs_ ((Kd.R_reads' HO472.out).2.2)); (case side2 => exact (Kd.R_reads' HO472.out).2.1); (case side3 => exact cs_ ((Kd.R_reads' HO_4.out).2.2)); (case side4 => exact (Kd.R_reads' HO_4.out).2.1); rintro e w64 ⟨rfl, hb⟩; refine ⟨_, rfl, ?_⟩; replace HO_4 := Aside0.mk (Kd.R_below (ra_ HO_4.out) hb); replace HO_7 := Aside0.mk (Kd.R_below (ra_ HO_7.out) hb); replace HO468 := Aside0.mk (Kd.S_below (by (with_reducible repeat (first | apply Kd.S_alloc | apply Kd.S_drewN | apply Kd.S_drew)); exact HO468.out) hb); replace HO472 := Aside0.mk (Kd.R_below (ra_ HO472.out) hb); replace HB := Aside0.mk (below_step bl_ hb); (try clear hb)))
  go_meet
  case rel => exact ⟨_, (true), (sr_), H', ⟨by have := HJ8.out; have := HJ29.out; first | omega | exact Nat.le_refl _⟩, ⟨by (with_reducible repeat (first | apply Kd.R_alloc | apply Kd.R_drewN | apply Kd.R_drew)); exact Kd.R_mono HO_7.out (fun _ hk => trivial)⟩, ⟨bl_⟩⟩
 clear HC51
 try clear c3
 try clear c3b0
 try clear c25
 try clear c28
 try clear c44
 try clear c47
 try clear c47b0
 try clear c48
 try clear c48b0
 try clear c48b1
 obtain ⟨kq, x87_50, rfl, HA, HJ50, HO_7, HB⟩ := hcut
 have hl7_50 := (Kd.R_reads' HO_7.out).1
 rw [hl7_50] at HO_7
 (try simp only [hl7_50])
 cases kq with
 | zero => exact absurd HA.out (by simp [laws_FnExactJoinSegments.j2])
 | succ kj50 => ?_
 have H := HA.out
 clear HA
 simp only [laws_FnExactJoinSegments.j2] at H
 by_cases c65 : x87_50 = true
 ·subst c65
  rw [if_pos rfl] at H
  exact absurd ((Option.some.inj H).trans HR1.out) (by decide)
 replace c65 := Bool.eq_false_iff.mpr c65
 subst c65
 rw [nf_] at H
 replace H := bs_ H
 obtain ⟨t474, A66, H⟩ := H
 try dsimp only at H
 by_cases c67 : t474 < 0
 ·rw [if_pos c67] at H
  have c67b0 := decide_eq_true c67
  clear c67
  exact absurd ((Option.some.inj H).trans HR1.out) (by decide)
 rw [if_neg c67] at H
 have c67b0 := decide_eq_false c67
 clear c67
 by_cases c68 : t474 = t463
 rotate_left
 ·rw [if_neg c68] at H
  have c68b0 : (t474 == t463) = false := beq_eq_false_iff_ne.mpr c68
  have c68b1 : (t474 != t463) = true := bne_iff_ne.mpr c68
  exact absurd ((Option.some.inj H).trans HR1.out) (by decide)
 rw [if_pos c68] at H
 have c68b0 : (t474 == t463) = true := beq_iff_eq.mpr c68
 have c68b1 : (t474 != t463) = false := bne_eq_false_iff_eq.mpr c68
 clear c68
 obtain rfl := Option.some.inj H
 go_wp2_with (first | ((with_reducible refine gate_callee (f := 42) rfl ?_); refine gs_ (some 90) Tryd.func42 #[.slice Ao52 t464.length co52, .int .i64 1] ?_; (with_reducible refine (laws_heldEntryS.calls kj50 _ _ t464 1 t474 _ ?side1 ?side2 A66.out).mono ?_); (case side1 => exact cs_ ((Kd.R_reads' HO_7.out).2.2)); (case side2 => exact (Kd.R_reads' HO_7.out).2.1); rintro e w' ⟨rfl, ⟨nd, rfl⟩⟩; refine ⟨_, rfl, ?_⟩))
 go_ret
 exact ⟨er_, bl_⟩

end Go.Proofs.YtdhjolglbcoijaaDoor.PA
