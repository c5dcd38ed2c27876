/- Contracts of functions of the program and of the reference, and plain lemmas on what they compute: a part of the proof of the law FnExactNumsSaid. No condition. -/
import Derived.Test.YtjfmpodeenidnaaJFnExactNumsSaid1
import Derived.Test.YtjfmpodeenidnaaJFnExactNumsSaid2
import Derived.Test.YtjfmpodeenidnaaShortV
set_option maxHeartbeats 8000000
set_option maxRecDepth 100000
namespace Go.Proofs.Ytjfmpodeenidnaa.PB
open Go.RowKit Go.Proofs.Ytjfmpodeenidnaa.Short Go.Proofs.YtjfmpodeenidnaaW.PrintWords Go.Proofs.YtjfmpodeenidnaaW.PrintLast Go.Proofs.YtjfmpodeenidnaaW.PrintMore
attribute [local go_sem] max2_int min2_int max_two min_two max_three min_three max_four min_four   -- for this text's walks alone
set_option linter.unusedVariables false
set_option linter.unusedSimpArgs false

def impl_CondOk.f (a0_0 : Int) (a0_1 : Int) (a0_2 : Int) (a0_3 : Int) (a0_4 : Int) (a0_5 : Int) : Option (Bool) := (impl_within.f a0_0 0 2).bind fun t230 => (if t230 = true then ((impl_WideOk.f a0_1 a0_2).bind fun t231 => (if t231 = true then ((impl_WideOk.f a0_4 a0_5).bind fun t232 => (if t232 = true then ((impl_within.f a0_3 1 6).bind fun t233 => (some t233)) else (some false))) else (some false))) else (some false))
theorem impl_CondOk.calls (a0_0 : Int) (a0_1 : Int) (a0_2 : Int) (a0_3 : Int) (a0_4 : Int) (a0_5 : Int) (r : Bool) (w : World) (h : impl_CondOk.f a0_0 a0_1 a0_2 a0_3 a0_4 a0_5 = some r) :
 Calls Try.prog 124 #[.agg #[.int .i64 a0_0, .int .i64 a0_1, .int .i64 a0_2, .int .i64 a0_3, .int .i64 a0_4, .int .i64 a0_5]] w fun e w' => e = .returned (.bool r) ∧ Below w.heap.size w w' := by
 have hu100 := Try.underlying100
 have hu98 := Try.underlying98
 have HB := Aside0.mk (Below.refl w.heap.size w)
 have H := h
 unfold impl_CondOk.f at H
 clear h
 replace H := bs_ H
 obtain ⟨t230, A2, H⟩ := H
 try dsimp only at H
 by_cases c3 : t230 = true
 rotate_left
 ·replace c3 := Bool.eq_false_iff.mpr c3
  subst c3
  rw [nf_] at H
  obtain rfl := Option.some.inj H
  go_enter Try.func124, Try.ntmps124
  go_wp2_with (first | ((with_reducible refine gate_dst (N := 1) rfl ?_); refine bx_ 1 100 #[.int .i64 a0_0, .int .i64 a0_1, .int .i64 a0_2, .int .i64 a0_3, .int .i64 a0_4, .int .i64 a0_5] ?_; intro gb229 hg w23 hbox hb; have BK229 := Aside0.mk (hbox); have GW229 := Aside0.mk ((hz_ : w.heap.size ≤ gb229)); have GE229 := Aside0.mk ((hz_ : w.heap.size ≤ gb229)); replace HB := Aside0.mk (below_step bl_ hb); clear hb hbox hg; obtain ⟨hcz24_0, hcz24_1, hcz24_2, hcz24_3, hcz24_4, hcz24_5, hfz24_0, hfz24_1, hfz24_2, hfz24_3, hfz24_4, hfz24_5⟩ := cf6_ BK229.out) | ((with_reducible refine gate_callee (f := 89) rfl ?_); refine gs_ (some 5) Try.func89 #[.int .i64 a0_0, .int .i64 0, .int .i64 2] ?_; (with_reducible refine (impl_within.calls a0_0 0 2 false _ A2.out).mono ?_); rintro e w' ⟨rfl, ⟨nd, rfl⟩⟩; refine ⟨_, rfl, ?_⟩))
  go_ret
  exact ⟨er_, bl_⟩
 subst c3
 rw [if_pos rfl] at H
 replace H := bs_ H
 obtain ⟨t231, A4, H⟩ := H
 try dsimp only at H
 by_cases c5 : t231 = true
 rotate_left
 ·replace c5 := Bool.eq_false_iff.mpr c5
  subst c5
  rw [nf_] at H
  obtain rfl := Option.some.inj H
  go_enter Try.func124, Try.ntmps124
  go_wp2_with (first | ((with_reducible refine gate_dst (N := 1) rfl ?_); refine bx_ 1 100 #[.int .i64 a0_0, .int .i64 a0_1, .int .i64 a0_2, .int .i64 a0_3, .int .i64 a0_4, .int .i64 a0_5] ?_; intro gb229 hg w20 hbox hb; have BK229 := Aside0.mk (hbox); have GW229 := Aside0.mk ((hz_ : w.heap.size ≤ gb229)); have GE229 := Aside0.mk ((hz_ : w.heap.size ≤ gb229)); replace HB := Aside0.mk (below_step bl_ hb); clear hb hbox hg; obtain ⟨hcz21_0, hcz21_1, hcz21_2, hcz21_3, hcz21_4, hcz21_5, hfz21_0, hfz21_1, hfz21_2, hfz21_3, hfz21_4, hfz21_5⟩ := cf6_ BK229.out) | ((with_reducible refine gate_callee (f := 89) rfl ?_); refine gs_ (some 5) Try.func89 #[.int .i64 a0_0, .int .i64 0, .int .i64 2] ?_; (with_reducible refine (impl_within.calls a0_0 0 2 true _ A2.out).mono ?_); rintro e w' ⟨rfl, ⟨nd, rfl⟩⟩; refine ⟨_, rfl, ?_⟩) | (go_at_call 134; (with_reducible refine (impl_WideOk.calls a0_1 a0_2 false _ A4.out).mono ?_); rintro e w22 ⟨rfl, hb⟩; replace BK229 := Aside0.mk (blk_below (bn0_ BK229.out) hb); replace HB := Aside0.mk (below_step bl_ hb); (try clear hb)))
  go_ret
  exact ⟨er_, bl_⟩
 subst c5
 rw [if_pos rfl] at H
 replace H := bs_ H
 obtain ⟨t232, A6, H⟩ := H
 try dsimp only at H
 by_cases c7 : t232 = true
 rotate_left
 ·replace c7 := Bool.eq_false_iff.mpr c7
  subst c7
  rw [nf_] at H
  obtain rfl := Option.some.inj H
  go_enter Try.func124, Try.ntmps124
  go_wp2_with (first | ((with_reducible refine gate_dst (N := 1) rfl ?_); refine bx_ 1 100 #[.int .i64 a0_0, .int .i64 a0_1, .int .i64 a0_2, .int .i64 a0_3, .int .i64 a0_4, .int .i64 a0_5] ?_; intro gb229 hg w15 hbox hb; have BK229 := Aside0.mk (hbox); have GW229 := Aside0.mk ((hz_ : w.heap.size ≤ gb229)); have GE229 := Aside0.mk ((hz_ : w.heap.size ≤ gb229)); replace HB := Aside0.mk (below_step bl_ hb); clear hb hbox hg; obtain ⟨hcz16_0, hcz16_1, hcz16_2, hcz16_3, hcz16_4, hcz16_5, hfz16_0, hfz16_1, hfz16_2, hfz16_3, hfz16_4, hfz16_5⟩ := cf6_ BK229.out) | ((with_reducible refine gate_callee (f := 89) rfl ?_); refine gs_ (some 5) Try.func89 #[.int .i64 a0_0, .int .i64 0, .int .i64 2] ?_; (with_reducible refine (impl_within.calls a0_0 0 2 true _ A2.out).mono ?_); rintro e w' ⟨rfl, ⟨nd, rfl⟩⟩; refine ⟨_, rfl, ?_⟩) | (go_at_call 134; (with_reducible refine (impl_WideOk.calls a0_1 a0_2 true _ A4.out).mono ?_); rintro e w17 ⟨rfl, hb⟩; replace BK229 := Aside0.mk (blk_below (bn0_ BK229.out) hb); replace HB := Aside0.mk (below_step bl_ hb); (try clear hb); have hcz18_0 : w17.cell? ⟨gb229, 0, none⟩ = some (.int .i64 a0_0) := (blk_cell BK229.out 0).trans rfl; have hcz18_1 : w17.cell? ⟨gb229, 1, none⟩ = some (.int .i64 a0_1) := (blk_cell BK229.out 1).trans rfl; have hcz18_2 : w17.cell? ⟨gb229, 2, none⟩ = some (.int .i64 a0_2) := (blk_cell BK229.out 2).trans rfl; have hcz18_3 : w17.cell? ⟨gb229, 3, none⟩ = some (.int .i64 a0_3) := (blk_cell BK229.out 3).trans rfl; have hcz18_4 : w17.cell? ⟨gb229, 4, none⟩ = some (.int .i64 a0_4) := (blk_cell BK229.out 4).trans rfl; have hcz18_5 : w17.cell? ⟨gb229, 5, none⟩ = some (.int .i64 a0_5) := (blk_cell BK229.out 5).trans rfl; have hfz18_0 := blk_frozen BK229.out 0; have hfz18_1 := blk_frozen BK229.out 1; have hfz18_2 := blk_frozen BK229.out 2; have hfz18_3 := blk_frozen BK229.out 3; have hfz18_4 := blk_frozen BK229.out 4; have hfz18_5 := blk_frozen BK229.out 5) | (go_at_call 134; (with_reducible refine (impl_WideOk.calls a0_4 a0_5 false _ A6.out).mono ?_); rintro e w19 ⟨rfl, hb⟩; replace BK229 := Aside0.mk (blk_below (bn0_ BK229.out) hb); replace HB := Aside0.mk (below_step bl_ hb); (try clear hb)))
  go_ret
  exact ⟨er_, bl_⟩
 subst c7
 rw [if_pos rfl] at H
 replace H := bs_ H
 obtain ⟨t233, A8, H⟩ := H
 try dsimp only at H
 obtain rfl := Option.some.inj H
 go_enter Try.func124, Try.ntmps124
 go_wp2_with (first | ((with_reducible refine gate_dst (N := 1) rfl ?_); refine bx_ 1 100 #[.int .i64 a0_0, .int .i64 a0_1, .int .i64 a0_2, .int .i64 a0_3, .int .i64 a0_4, .int .i64 a0_5] ?_; intro gb229 hg w9 hbox hb; have BK229 := Aside0.mk (hbox); have GW229 := Aside0.mk ((hz_ : w.heap.size ≤ gb229)); have GE229 := Aside0.mk ((hz_ : w.heap.size ≤ gb229)); replace HB := Aside0.mk (below_step bl_ hb); clear hb hbox hg; obtain ⟨hcz10_0, hcz10_1, hcz10_2, hcz10_3, hcz10_4, hcz10_5, hfz10_0, hfz10_1, hfz10_2, hfz10_3, hfz10_4, hfz10_5⟩ := cf6_ BK229.out) | ((with_reducible refine gate_callee (f := 89) rfl ?_); refine gs_ (some 5) Try.func89 #[.int .i64 a0_0, .int .i64 0, .int .i64 2] ?_; (with_reducible refine (impl_within.calls a0_0 0 2 true _ A2.out).mono ?_); rintro e w' ⟨rfl, ⟨nd, rfl⟩⟩; refine ⟨_, rfl, ?_⟩) | (go_at_call 134; (with_reducible refine (impl_WideOk.calls a0_1 a0_2 true _ A4.out).mono ?_); rintro e w11 ⟨rfl, hb⟩; replace BK229 := Aside0.mk (blk_below (bn0_ BK229.out) hb); replace HB := Aside0.mk (below_step bl_ hb); (try clear hb); have hcz12_0 : w11.cell? ⟨gb229, 0, none⟩ = some (.int .i64 a0_0) := (blk_cell BK229.out 0).trans rfl; have hcz12_1 : w11.cell? ⟨gb229, 1, none⟩ = some (.int .i64 a0_1) := (blk_cell BK229.out 1).trans rfl; have hcz12_2 : w11.cell? ⟨gb229, 2, none⟩ = some (.int .i64 a0_2) := (blk_cell BK229.out 2).trans rfl; have hcz12_3 : w11.cell? ⟨gb229, 3, none⟩ = some (.int .i64 a0_3) := (blk_cell BK229.out 3).trans rfl; have hcz12_4 : w11.cell? ⟨gb229, 4, none⟩ = some (.int .i64 a0_4) := (blk_cell BK229.out 4).trans rfl; have hcz12_5 : w11.cell? ⟨gb229, 5, none⟩ = some (.int .i64 a0_5) := (blk_cell BK229.out 5).trans rfl; have hfz12_0 := blk_frozen BK229.out 0; have hfz12_1 := blk_frozen BK229.out 1; have hfz12_2 := blk_frozen BK229.out 2; have hfz12_3 := blk_frozen BK229.out 3; have hfz12_4 := blk_frozen BK229.out 4; have hfz12_5 := blk_frozen BK229.out 5) | (go_at_call 134; (with_reducible refine (impl_WideOk.calls a0_4 a0_5 true _ A6.out).mono ?_); rintro e w13 ⟨rfl, hb⟩; replace BK229 := Aside0.mk (blk_below (bn0_ BK229.out) hb); replace HB := Aside0.mk (below_step bl_ hb); (try clear hb); have hcz14_0 : w13.cell? ⟨gb229, 0, none⟩ = some (.int .i64 a0_0) := (blk_cell BK229.out 0).trans rfl; have hcz14_1 : w13.cell? ⟨gb229, 1, none⟩ = some (.int .i64 a0_1) := (blk_cell BK229.out 1).trans rfl; have hcz14_2 : w13.cell? ⟨gb229, 2, none⟩ = some (.int .i64 a0_2) := (blk_cell BK229.out 2).trans rfl; have hcz14_3 : w13.cell? ⟨gb229, 3, none⟩ = some (.int .i64 a0_3) := (blk_cell BK229.out 3).trans rfl; have hcz14_4 : w13.cell? ⟨gb229, 4, none⟩ = some (.int .i64 a0_4) := (blk_cell BK229.out 4).trans rfl; have hcz14_5 : w13.cell? ⟨gb229, 5, none⟩ = some (.int .i64 a0_5) := (blk_cell BK229.out 5).trans rfl; have hfz14_0 := blk_frozen BK229.out 0; have hfz14_1 := blk_frozen BK229.out 1; have hfz14_2 := blk_frozen BK229.out 2; have hfz14_3 := blk_frozen BK229.out 3; have hfz14_4 := blk_frozen BK229.out 4; have hfz14_5 := blk_frozen BK229.out 5) | (go_at_call 89; (with_reducible refine (impl_within.calls a0_3 1 6 t233 _ A8.out).mono ?_); rintro e w' ⟨rfl, ⟨nd, rfl⟩⟩))
 go_ret
 exact ⟨er_, bl_⟩


mutual
def impl_ruleOk.l0 : Nat → List Int → Int → Int → List Int → List (S100) → Int → Int → Option (Bool)
 | 0, _, _, _, _, _, _, _ => none
 | k + 1, x8, x9, x10, x235000, x235001, x235002, x235003 => if x10 < x9 then (if 0 ≤ x10 then (if x10 < (x8.length : Int) then ((impl_HalfOk.f (rd x8 x10)).bind fun t236 => (if t236 = true then (if x10 > 0 then (if 0 ≤ (wrap64 (x10 - 1)) then (if (wrap64 (x10 - 1)) < (x235000.length : Int) then (if (rd x235000 (wrap64 (x10 - 1))) ≥ (rd x8 x10) then (some false) else (impl_ruleOk.l0 k x8 x9 (wrap64 (x10 + 1)) x235000 x235001 x235002 x235003)) else (none)) else (none)) else (impl_ruleOk.l0 k x8 x9 (wrap64 (x10 + 1)) x235000 x235001 x235002 x235003)) else (some false))) else (none)) else (none)) else (impl_ruleOk.l1 k x235001 (x235001.length : Int) 0 x235000 x235001 x235002 x235003)
def impl_ruleOk.l1 : Nat → List (S100) → Int → Int → List Int → List (S100) → Int → Int → Option (Bool)
 | 0, _, _, _, _, _, _, _ => none
 | k + 1, x34, x35, x36, x235000, x235001, x235002, x235003 => if x36 < x35 then (if 0 ≤ x36 then (if x36 < (x34.length : Int) then ((impl_CondOk.f ((rd_T100 x34 x36).f0) ((rd_T100 x34 x36).f1.f0) ((rd_T100 x34 x36).f1.f1) ((rd_T100 x34 x36).f2) ((rd_T100 x34 x36).f3.f0) ((rd_T100 x34 x36).f3.f1)).bind fun t240 => (if t240 = true then (impl_ruleOk.l1 k x34 x35 (wrap64 (x36 + 1)) x235000 x235001 x235002 x235003) else (some false))) else (none)) else (none)) else (if (x235000.length : Int) ≤ 4 then (if (x235001.length : Int) ≤ 3 then ((impl_actionOk.f x235002 x235003).bind fun t241 => (some t241)) else (some false)) else (some false))
end
def impl_ruleOk.f (k : Nat) (l0_0 : List Int) (l0_1 : List (S100)) (a0_2 : Int) (a0_3 : Int) : Option (Bool) := impl_ruleOk.l0 k l0_0 (l0_0.length : Int) 0 l0_0 l0_1 a0_2 a0_3
theorem impl_ruleOk.mono_l : ∀ k, (∀ y0 y1 y2 y3 y4 y5 y6, LeO (impl_ruleOk.l0 k y0 y1 y2 y3 y4 y5 y6) (impl_ruleOk.l0 (k + 1) y0 y1 y2 y3 y4 y5 y6)) ∧ (∀ y0 y1 y2 y3 y4 y5 y6, LeO (impl_ruleOk.l1 k y0 y1 y2 y3 y4 y5 y6) (impl_ruleOk.l1 (k + 1) y0 y1 y2 y3 y4 y5 y6))
 | 0 => ⟨fun _ _ _ _ _ _ _ r h => by simp [impl_ruleOk.l0] at h, fun _ _ _ _ _ _ _ r h => by simp [impl_ruleOk.l1] at h⟩
 | k + 1 => by
  obtain ⟨ih0, ih1⟩ := impl_ruleOk.mono_l k
  refine ⟨?_, ?_⟩
  ·intro y0 y1 y2 y3 y4 y5 y6
   unfold impl_ruleOk.l0
   exact mo_
  ·intro y0 y1 y2 y3 y4 y5 y6
   unfold impl_ruleOk.l1
   exact mo_
theorem impl_ruleOk.mono : ∀ a0 a1 a2 a3 k, LeO (impl_ruleOk.f k a0 a1 a2 a3) (impl_ruleOk.f (k + 1) a0 a1 a2 a3) := by
 intro a0 a1 a2 a3 k
 obtain ⟨ih0, ih1⟩ := impl_ruleOk.mono_l k
 unfold impl_ruleOk.f
 exact mo_
theorem impl_ruleOk.calls (k : Nat) (A0_0 : Option Addr) (c0_0 : Nat) (l0_0 : List Int) (A0_1 : Option Addr) (c0_1 : Nat) (l0_1 : List (S100)) (a0_2 : Int) (a0_3 : Int) (r : Bool) (w : World) (hr0_0 : Kd.C (Kd.int .i64) w A0_0 l0_0.length l0_0) (hc0_0 : l0_0.length ≤ c0_0) (hr0_1 : Kd.C k100 w A0_1 l0_1.length l0_1) (hc0_1 : l0_1.length ≤ c0_1) (h : impl_ruleOk.f k l0_0 l0_1 a0_2 a0_3 = some r) :
 Calls Try.prog 97 #[.agg #[.slice A0_0 l0_0.length c0_0, .slice A0_1 l0_1.length c0_1, .int .i64 a0_2, .int .i64 a0_3]] w fun e w' => e = .returned (.bool r) ∧ Below w.heap.size w w' := by
 have hu53 := Try.underlying53
 have hu100 := Try.underlying100
 have HR0_0 := Aside0.mk hr0_0
 have HC0_0 := Aside0.mk hc0_0
 clear hr0_0 hc0_0
 have HR0_1 := Aside0.mk hr0_1
 have HC0_1 := Aside0.mk hc0_1
 clear hr0_1 hc0_1
 have HB := Aside0.mk (Below.refl w.heap.size w)
 have H := h
 unfold impl_ruleOk.f at H
 clear h
 have H' := Aside0.mk H
 clear H
 go_enter Try.func97, Try.ntmps97
 go_wp2_with (first | ((with_reducible refine gate_dst (N := 1) rfl ?_); (try (refine gate_guard (by rfl) ?_; dsimp only)); refine bx_ 1 53 #[.slice A0_0 l0_0.length c0_0, .slice A0_1 l0_1.length c0_1, .int .i64 a0_2, .int .i64 a0_3] ?_; intro gb234 hg w2 hbox hb; have BK234 := Aside0.mk (hbox); have GW234 := Aside0.mk ((hz_ : w.heap.size ≤ gb234)); have GE234 := Aside0.mk ((hz_ : w.heap.size ≤ gb234)); replace HB := Aside0.mk (below_step bl_ hb); clear hb hbox hg; obtain ⟨hcz3_0, hcz3_1, hcz3_2, hcz3_3, hfz3_0, hfz3_1, hfz3_2, hfz3_3⟩ := cf4_ BK234.out))
 go_loopg [10] k (fun kq v10 w' => ∃ (x10_1 : Int), v10 = .int .i64 x10_1 ∧ Aside0 (impl_ruleOk.l0 kq l0_0 (l0_0.length : Int) x10_1 l0_0 l0_1 a0_2 a0_3 = some r) ∧ Aside0 (kq ≤ k) ∧ Aside0 (w'.heap[gb234]? = some (.cells #[(.slice A0_0 l0_0.length c0_0), (.slice A0_1 l0_1.length c0_1), .int .i64 a0_2, .int .i64 a0_3] 53 (0, 0))) ∧ Aside0 (Below w.heap.size w w'))
 case atStart => exact ⟨(0), (sr_), H', ⟨Nat.le_refl _⟩, ⟨bk_ BK234.out⟩, ⟨bl_⟩⟩
 clear H'
 try clear hcz3_0
 try clear hcz3_1
 try clear hcz3_2
 try clear hcz3_3
 try clear hfz3_0
 try clear hfz3_1
 try clear hfz3_2
 try clear hfz3_3
 obtain ⟨x10_1, rfl, HA, HK1, BK234, HB⟩ := hrel
 cases gk with
 | zero => exact absurd HA.out (by simp [impl_ruleOk.l0])
 | succ k1 => ?_
 have H := HA.out
 clear HA
 simp only [impl_ruleOk.l0] at H
 by_cases c4 : x10_1 < (l0_0.length : Int)
 ·rw [if_pos c4] at H
  have c4b0 := decide_eq_true c4
  clear c4
  by_cases c5 : 0 ≤ x10_1
  rotate_left
  ·exact nn_ c5 H
  rw [if_pos c5] at H
  have c5b0 := decide_eq_true c5
  clear c5
  by_cases c6 : x10_1 < (l0_0.length : Int)
  rotate_left
  ·exact nn_ c6 H
  rw [if_pos c6] at H
  have c6b0 := decide_eq_true c6
  clear c6
  replace H := bs_ H
  obtain ⟨t236, A7, H⟩ := H
  try dsimp only at H
  by_cases c8 : t236 = true
  rotate_left
  ·replace c8 := Bool.eq_false_iff.mpr c8
   subst c8
   rw [nf_] at H
   obtain rfl := Option.some.inj H
   have p235 : 0 ≤ (x10_1 : Int) := of_decide_eq_true as_
   have q235 : x10_1 < (l0_0.length : Int) := of_decide_eq_true as_
   obtain ⟨ad235, e235, hx235_0⟩ := Kd.at_int HR0_0.out x10_1 p235 q235
   cases e235
   replace hx235_0 := (HB.out.cell (World.block_lt_of_cell? w _ hx235_0)).trans hx235_0
   replace p235 := eq_true p235
   replace q235 := eq_true q235
   go_wp2_with (first | ((with_reducible refine gate_callee (f := 98) rfl ?_); refine gs_ (some 16) Try.func98 #[.int .i64 (rd l0_0 x10_1)] ?_; (with_reducible refine (impl_HalfOk.calls (rd l0_0 x10_1) false _ A7.out).mono ?_); rintro e w' ⟨rfl, ⟨nd, rfl⟩⟩; refine ⟨_, rfl, ?_⟩))
   go_ret
   exact ⟨er_, bl_⟩
  subst c8
  rw [if_pos rfl] at H
  by_cases c9 : x10_1 > 0
  rotate_left
  ·rw [if_neg c9] at H
   have c9b0 := decide_eq_false c9
   clear c9
   have H' := Aside0.mk H
   clear H
   have p235 : 0 ≤ (x10_1 : Int) := of_decide_eq_true as_
   have q235 : x10_1 < (l0_0.length : Int) := of_decide_eq_true as_
   obtain ⟨ad235, e235, hx235_0⟩ := Kd.at_int HR0_0.out x10_1 p235 q235
   cases e235
   replace hx235_0 := (HB.out.cell (World.block_lt_of_cell? w _ hx235_0)).trans hx235_0
   replace p235 := eq_true p235
   replace q235 := eq_true q235
   go_wp2_with (first | ((with_reducible refine gate_callee (f := 98) rfl ?_); refine gs_ (some 16) Try.func98 #[.int .i64 (rd l0_0 x10_1)] ?_; (with_reducible refine (impl_HalfOk.calls (rd l0_0 x10_1) true _ A7.out).mono ?_); rintro e w' ⟨rfl, ⟨nd, rfl⟩⟩; refine ⟨_, rfl, ?_⟩))
   go_roundg k1
   case measure => have := HK1.out; omega
   case rel => exact ⟨(wrap64 (x10_1 + 1)), (sr_), H', ⟨by have := HK1.out; omega⟩, ⟨bk_ BK234.out⟩, ⟨bl_⟩⟩
  rw [if_pos c9] at H
  have c9b0 := decide_eq_true c9
  clear c9
  obtain ⟨ji10, hji10⟩ : ∃ j_ : Int, (wrap64 (x10_1 - 1)) = j_ := ⟨_, rfl⟩
  replace H : (if 0 ≤ (ji10) then (if (ji10) < (l0_0.length : Int) then (if (rd l0_0 (ji10)) ≥ (rd l0_0 x10_1) then (some false) else (impl_ruleOk.l0 k1 l0_0 (l0_0.length : Int) (wrap64 (x10_1 + 1)) l0_0 l0_1 a0_2 a0_3)) else (none)) else (none)) = some r := by first | (rw [hji10] at H; exact H) | (simp only [hji10] at H ⊢; exact H)
  (try rw [hji10] at A7)
  have hji10w : (IntKind.i64.wrap (x10_1 - 1)) = ji10 := (i64_w _).trans hji10
  by_cases c11 : 0 ≤ (ji10)
  rotate_left
  ·exact nn_ c11 H
  rw [if_pos c11] at H
  have c11b0 := decide_eq_true c11
  clear c11
  by_cases c12 : (ji10) < (l0_0.length : Int)
  rotate_left
  ·exact nn_ c12 H
  rw [if_pos c12] at H
  have c12b0 := decide_eq_true c12
  clear c12
  by_cases c13 : (rd l0_0 (ji10)) ≥ (rd l0_0 x10_1)
  ·rw [if_pos c13] at H
   have c13b0 := decide_eq_true c13
   clear c13
   obtain rfl := Option.some.inj H
   have p235 : 0 ≤ (x10_1 : Int) := of_decide_eq_true as_
   have q235 : x10_1 < (l0_0.length : Int) := of_decide_eq_true as_
   obtain ⟨ad235, e235, hx235_0⟩ := Kd.at_int HR0_0.out x10_1 p235 q235
   cases e235
   replace hx235_0 := (HB.out.cell (World.block_lt_of_cell? w _ hx235_0)).trans hx235_0
   replace p235 := eq_true p235
   replace q235 := eq_true q235
   go_wp2_with (first | ((with_reducible refine gate_callee (f := 98) rfl ?_); refine gs_ (some 16) Try.func98 #[.int .i64 (rd l0_0 x10_1)] ?_; (with_reducible refine (impl_HalfOk.calls (rd l0_0 x10_1) true _ A7.out).mono ?_); rintro e w' ⟨rfl, ⟨nd, rfl⟩⟩; refine ⟨_, rfl, ?_⟩; obtain ⟨hcz14_0, hcz14_1, hcz14_2, hcz14_3, hfz14_0, hfz14_1, hfz14_2, hfz14_3⟩ := cf4_ BK234.out; have p237 : 0 ≤ ((ji10) : Int) := of_decide_eq_true as_; have q237 : (ji10) < (l0_0.length : Int) := of_decide_eq_true as_; obtain ⟨ad237, e237, hx237_0⟩ := Kd.at_int HR0_0.out (ji10) p237 q237; obtain rfl : ad235 = ad237 := (by injection e237); replace hx237_0 := (HB.out.cell (World.block_lt_of_cell? w _ hx237_0)).trans hx237_0; replace p237 := eq_true p237; replace q237 := eq_true q237))
   go_ret
   exact ⟨by first | rfl | (simp [errW_none, errW_some] <;> rfl) | (simp only [← hji10]; first | rfl | (simp [errW_none, errW_some] <;> rfl)) | (simp [*, errW_none, errW_some] <;> rfl) | exact False.elim (Bool.noConfusion ((decide_eq_true (of_eq_true (by assumption))).symm.trans (by assumption))), bl_⟩
  rw [if_neg c13] at H
  have c13b0 := decide_eq_false c13
  clear c13
  have H' := Aside0.mk H
  clear H
  have p235 : 0 ≤ (x10_1 : Int) := of_decide_eq_true as_
  have q235 : x10_1 < (l0_0.length : Int) := of_decide_eq_true as_
  obtain ⟨ad235, e235, hx235_0⟩ := Kd.at_int HR0_0.out x10_1 p235 q235
  cases e235
  replace hx235_0 := (HB.out.cell (World.block_lt_of_cell? w _ hx235_0)).trans hx235_0
  replace p235 := eq_true p235
  replace q235 := eq_true q235
  go_wp2_with (first | ((with_reducible refine gate_callee (f := 98) rfl ?_); refine gs_ (some 16) Try.func98 #[.int .i64 (rd l0_0 x10_1)] ?_; (with_reducible refine (impl_HalfOk.calls (rd l0_0 x10_1) true _ A7.out).mono ?_); rintro e w' ⟨rfl, ⟨nd, rfl⟩⟩; refine ⟨_, rfl, ?_⟩; obtain ⟨hcz15_0, hcz15_1, hcz15_2, hcz15_3, hfz15_0, hfz15_1, hfz15_2, hfz15_3⟩ := cf4_ BK234.out; have p237 : 0 ≤ ((ji10) : Int) := of_decide_eq_true as_; have q237 : (ji10) < (l0_0.length : Int) := of_decide_eq_true as_; obtain ⟨ad237, e237, hx237_0⟩ := Kd.at_int HR0_0.out (ji10) p237 q237; obtain rfl : ad235 = ad237 := (by injection e237); replace hx237_0 := (HB.out.cell (World.block_lt_of_cell? w _ hx237_0)).trans hx237_0; replace p237 := eq_true p237; replace q237 := eq_true q237))
  go_roundg k1
  case measure => have := HK1.out; omega
  case rel => exact ⟨(wrap64 (x10_1 + 1)), (sr_), H', ⟨by have := HK1.out; omega⟩, ⟨bk_ BK234.out⟩, ⟨bl_⟩⟩
 rw [if_neg c4] at H
 have c4b0 := decide_eq_false c4
 clear c4
 have H' := Aside0.mk H
 clear H
 obtain ⟨hcz16_0, hcz16_1, hcz16_2, hcz16_3, hfz16_0, hfz16_1, hfz16_2, hfz16_3⟩ := cf4_ BK234.out
 go_wp2
 go_loopg [36] k1 (fun kq v36 w' => ∃ (x36_2 : Int), v36 = .int .i64 x36_2 ∧ Aside0 (impl_ruleOk.l1 kq l0_1 (l0_1.length : Int) x36_2 l0_0 l0_1 a0_2 a0_3 = some r) ∧ Aside0 (kq ≤ k1) ∧ Aside0 (w'.heap[gb234]? = some (.cells #[(.slice A0_0 l0_0.length c0_0), (.slice A0_1 l0_1.length c0_1), .int .i64 a0_2, .int .i64 a0_3] 53 (0, 0))) ∧ Aside0 (Below w.heap.size w w'))
 case atStart => exact ⟨(0), (sr_), H', ⟨Nat.le_refl _⟩, ⟨bk_ BK234.out⟩, ⟨bl_⟩⟩
 clear H'
 try clear c4
 try clear c4b0
 try clear hcz16_0
 try clear hcz16_1
 try clear hcz16_2
 try clear hcz16_3
 try clear hcz3_0
 try clear hcz3_1
 try clear hcz3_2
 try clear hcz3_3
 try clear hfz16_0
 try clear hfz16_1
 try clear hfz16_2
 try clear hfz16_3
 try clear hfz3_0
 try clear hfz3_1
 try clear hfz3_2
 try clear hfz3_3
 obtain ⟨x36_2, rfl, HA, HK2, BK234, HB⟩ := hrel
 cases gk with
 | zero => exact absurd HA.out (by simp [impl_ruleOk.l1])
 | succ k2 => ?_
 have H := HA.out
 clear HA
 simp only [impl_ruleOk.l1] at H
 by_cases c17 : x36_2 < (l0_1.length : Int)
 rotate_left
 ·rw [if_neg c17] at H
  have c17b0 := decide_eq_false c17
  clear c17
  by_cases c30 : (l0_0.length : Int) ≤ 4
  rotate_left
  ·rw [if_neg c30] at H
   have c30b0 := decide_eq_false c30
   have c30b1 : decide (l0_0.length ≤ 4) = false := decide_eq_false (by omega)
   clear c30
   obtain rfl := Option.some.inj H
   obtain ⟨hcz35_0, hcz35_1, hcz35_2, hcz35_3, hfz35_0, hfz35_1, hfz35_2, hfz35_3⟩ := cf4_ BK234.out
   go_wp2
   go_ret
   exact ⟨er_, bl_⟩
  rw [if_pos c30] at H
  have c30b0 := decide_eq_true c30
  have c30b1 : decide (l0_0.length ≤ 4) = true := decide_eq_true (by omega)
  clear c30
  by_cases c31 : (l0_1.length : Int) ≤ 3
  rotate_left
  ·rw [if_neg c31] at H
   have c31b0 := decide_eq_false c31
   have c31b1 : decide (l0_1.length ≤ 3) = false := decide_eq_false (by omega)
   clear c31
   obtain rfl := Option.some.inj H
   obtain ⟨hcz34_0, hcz34_1, hcz34_2, hcz34_3, hfz34_0, hfz34_1, hfz34_2, hfz34_3⟩ := cf4_ BK234.out
   go_wp2
   go_ret
   exact ⟨er_, bl_⟩
  rw [if_pos c31] at H
  have c31b0 := decide_eq_true c31
  have c31b1 : decide (l0_1.length ≤ 3) = true := decide_eq_true (by omega)
  clear c31
  replace H := bs_ H
  obtain ⟨t241, A32, H⟩ := H
  try dsimp only at H
  obtain rfl := Option.some.inj H
  obtain ⟨hcz33_0, hcz33_1, hcz33_2, hcz33_3, hfz33_0, hfz33_1, hfz33_2, hfz33_3⟩ := cf4_ BK234.out
  go_wp2_with (first | (go_at_call 99; (with_reducible refine (impl_actionOk.calls a0_2 a0_3 t241 _ A32.out).mono ?_); rintro e w' ⟨rfl, ⟨nd, rfl⟩⟩))
  go_ret
  exact ⟨er_, bl_⟩
 rw [if_pos c17] at H
 have c17b0 := decide_eq_true c17
 clear c17
 by_cases c18 : 0 ≤ x36_2
 rotate_left
 ·exact nn_ c18 H
 rw [if_pos c18] at H
 have c18b0 := decide_eq_true c18
 clear c18
 by_cases c19 : x36_2 < (l0_1.length : Int)
 rotate_left
 ·exact nn_ c19 H
 rw [if_pos c19] at H
 have c19b0 := decide_eq_true c19
 clear c19
 replace H := bs_ H
 obtain ⟨t240, A20, H⟩ := H
 try dsimp only at H
 by_cases c21 : t240 = true
 rotate_left
 ·replace c21 := Bool.eq_false_iff.mpr c21
  subst c21
  rw [nf_] at H
  obtain rfl := Option.some.inj H
  have p238 : 0 ≤ (x36_2 : Int) := of_decide_eq_true as_
  have q238 : x36_2 < (l0_1.length : Int) := of_decide_eq_true as_
  obtain ⟨ad238, e238, hx238_0, hx238_1, hx238_2, hx238_3, hx238_4, hx238_5⟩ := at_T100 HR0_1.out x36_2 p238 q238
  cases e238
  replace hx238_0 := (HB.out.cell (World.block_lt_of_cell? w _ hx238_0)).trans hx238_0
  replace hx238_1 := (HB.out.cell (World.block_lt_of_cell? w _ hx238_1)).trans hx238_1
  replace hx238_2 := (HB.out.cell (World.block_lt_of_cell? w _ hx238_2)).trans hx238_2
  replace hx238_3 := (HB.out.cell (World.block_lt_of_cell? w _ hx238_3)).trans hx238_3
  replace hx238_4 := (HB.out.cell (World.block_lt_of_cell? w _ hx238_4)).trans hx238_4
  replace hx238_5 := (HB.out.cell (World.block_lt_of_cell? w _ hx238_5)).trans hx238_5
  replace p238 := eq_true p238
  replace q238 := eq_true q238
  go_wp2_with (first | ((with_reducible refine gate_dst (N := 6) rfl ?_); (try (refine gate_guard (by rfl) ?_; dsimp only)); refine bx_ 6 100 #[.int .i64 0, .int .i64 0, .int .i64 0, .int .i64 0, .int .i64 0, .int .i64 0] ?_; intro gb239 hg w26 hbox hb; have BK239 := Aside0.mk (hbox); have GW239 := Aside0.mk ((hz_ : w.heap.size ≤ gb239)); have GE239 := Aside0.mk ((hz_ : w.heap.size ≤ gb239)); replace HB := Aside0.mk (below_step bl_ hb); have NB234_239 := Aside0.mk ((by rw [hg]; exact Nat.ne_of_lt (blk_lt (g := gb234) (o := .cells #[.slice A0_0 l0_0.length c0_0, .slice (some ad238) l0_1.length c0_1, .int .i64 a0_2, .int .i64 a0_3] 53 (0, 0)) (bk_ BK234.out)) : gb234 ≠ gb239)); have NB239_234 := Aside0.mk ((by rw [hg]; exact Nat.ne_of_gt (blk_lt (g := gb234) (o := .cells #[.slice A0_0 l0_0.length c0_0, .slice (some ad238) l0_1.length c0_1, .int .i64 a0_2, .int .i64 a0_3] 53 (0, 0)) (bk_ BK234.out)) : gb239 ≠ gb234)); replace BK234 := Aside0.mk (blk_below (bn0_ BK234.out) hb); clear hb hbox hg; have hnb27 := NB239_234.out; have hnc27 := NB234_239.out; obtain ⟨hcz28_0, hcz28_1, hcz28_2, hcz28_3, hcz28_4, hcz28_5, hfz28_0, hfz28_1, hfz28_2, hfz28_3, hfz28_4, hfz28_5⟩ := cf6_ BK239.out) | ((with_reducible refine gate_callee (f := 124) rfl ?_); refine gs_ (some 41) Try.func124 #[.agg #[.int .i64 ((rd_T100 l0_1 x36_2).f0), .int .i64 ((rd_T100 l0_1 x36_2).f1.f0), .int .i64 ((rd_T100 l0_1 x36_2).f1.f1), .int .i64 ((rd_T100 l0_1 x36_2).f2), .int .i64 ((rd_T100 l0_1 x36_2).f3.f0), .int .i64 ((rd_T100 l0_1 x36_2).f3.f1)]] ?_; (with_reducible refine (impl_CondOk.calls ((rd_T100 l0_1 x36_2).f0) ((rd_T100 l0_1 x36_2).f1.f0) ((rd_T100 l0_1 x36_2).f1.f1) ((rd_T100 l0_1 x36_2).f2) ((rd_T100 l0_1 x36_2).f3.f0) ((rd_T100 l0_1 x36_2).f3.f1) false _ A20.out).mono ?_); rintro e w29 ⟨rfl, hb⟩; refine ⟨_, rfl, ?_⟩; replace BK234 := Aside0.mk (blk_below (bn1_ BK234.out NB234_239.out) hb); replace BK239 := Aside0.mk (blk_below (g := gb239) (o := .cells #[.int .i64 ((rd_T100 l0_1 x36_2).f0), .int .i64 ((rd_T100 l0_1 x36_2).f1.f0), .int .i64 ((rd_T100 l0_1 x36_2).f1.f1), .int .i64 ((rd_T100 l0_1 x36_2).f2), .int .i64 ((rd_T100 l0_1 x36_2).f3.f0), .int .i64 ((rd_T100 l0_1 x36_2).f3.f1)] 100 (0, 0)) (bp0_ BK239.out) hb); replace HB := Aside0.mk (below_step bl_ hb); (try clear hb)))
  go_ret
  exact ⟨er_, bl_⟩
 subst c21
 rw [if_pos rfl] at H
 have H' := Aside0.mk H
 clear H
 have p238 : 0 ≤ (x36_2 : Int) := of_decide_eq_true as_
 have q238 : x36_2 < (l0_1.length : Int) := of_decide_eq_true as_
 obtain ⟨ad238, e238, hx238_0, hx238_1, hx238_2, hx238_3, hx238_4, hx238_5⟩ := at_T100 HR0_1.out x36_2 p238 q238
 cases e238
 replace hx238_0 := (HB.out.cell (World.block_lt_of_cell? w _ hx238_0)).trans hx238_0
 replace hx238_1 := (HB.out.cell (World.block_lt_of_cell? w _ hx238_1)).trans hx238_1
 replace hx238_2 := (HB.out.cell (World.block_lt_of_cell? w _ hx238_2)).trans hx238_2
 replace hx238_3 := (HB.out.cell (World.block_lt_of_cell? w _ hx238_3)).trans hx238_3
 replace hx238_4 := (HB.out.cell (World.block_lt_of_cell? w _ hx238_4)).trans hx238_4
 replace hx238_5 := (HB.out.cell (World.block_lt_of_cell? w _ hx238_5)).trans hx238_5
 replace p238 := eq_true p238
 replace q238 := eq_true q238
 go_wp2_with (first | ((with_reducible refine gate_dst (N := 6) rfl ?_); (try (refine gate_guard (by rfl) ?_; dsimp only)); refine bx_ 6 100 #[.int .i64 0, .int .i64 0, .int .i64 0, .int .i64 0, .int .i64 0, .int .i64 0] ?_; intro gb239 hg w22 hbox hb; have BK239 := Aside0.mk (hbox); have GW239 := Aside0.mk ((hz_ : w.heap.size ≤ gb239)); have GE239 := Aside0.mk ((hz_ : w.heap.size ≤ gb239)); replace HB := Aside0.mk (below_step bl_ hb); have NB234_239 := Aside0.mk ((by rw [hg]; exact Nat.ne_of_lt (blk_lt (g := gb234) (o := .cells #[.slice A0_0 l0_0.length c0_0, .slice (some ad238) l0_1.length c0_1, .int .i64 a0_2, .int .i64 a0_3] 53 (0, 0)) (bk_ BK234.out)) : gb234 ≠ gb239)); have NB239_234 := Aside0.mk ((by rw [hg]; exact Nat.ne_of_gt (blk_lt (g := gb234) (o := .cells #[.slice A0_0 l0_0.length c0_0, .slice (some ad238) l0_1.length c0_1, .int .i64 a0_2, .int .i64 a0_3] 53 (0, 0)) (bk_ BK234.out)) : gb239 ≠ gb234)); replace BK234 := Aside0.mk (blk_below (bn0_ BK234.out) hb); clear hb hbox hg; have hnb23 := NB239_234.out; have hnc23 := NB234_239.out; obtain ⟨hcz24_0, hcz24_1, hcz24_2, hcz24_3, hcz24_4, hcz24_5, hfz24_0, hfz24_1, hfz24_2, hfz24_3, hfz24_4, hfz24_5⟩ := cf6_ BK239.out) | ((with_reducible refine gate_callee (f := 124) rfl ?_); refine gs_ (some 41) Try.func124 #[.agg #[.int .i64 ((rd_T100 l0_1 x36_2).f0), .int .i64 ((rd_T100 l0_1 x36_2).f1.f0), .int .i64 ((rd_T100 l0_1 x36_2).f1.f1), .int .i64 ((rd_T100 l0_1 x36_2).f2), .int .i64 ((rd_T100 l0_1 x36_2).f3.f0), .int .i64 ((rd_T100 l0_1 x36_2).f3.f1)]] ?_; (with_reducible refine (impl_CondOk.calls ((rd_T100 l0_1 x36_2).f0) ((rd_T100 l0_1 x36_2).f1.f0) ((rd_T100 l0_1 x36_2).f1.f1) ((rd_T100 l0_1 x36_2).f2) ((rd_T100 l0_1 x36_2).f3.f0) ((rd_T100 l0_1 x36_2).f3.f1) true _ A20.out).mono ?_); rintro e w25 ⟨rfl, hb⟩; refine ⟨_, rfl, ?_⟩; replace BK234 := Aside0.mk (blk_below (bn1_ BK234.out NB234_239.out) hb); replace BK239 := Aside0.mk (blk_below (g := gb239) (o := .cells #[.int .i64 ((rd_T100 l0_1 x36_2).f0), .int .i64 ((rd_T100 l0_1 x36_2).f1.f0), .int .i64 ((rd_T100 l0_1 x36_2).f1.f1), .int .i64 ((rd_T100 l0_1 x36_2).f2), .int .i64 ((rd_T100 l0_1 x36_2).f3.f0), .int .i64 ((rd_T100 l0_1 x36_2).f3.f1)] 100 (0, 0)) (bp0_ BK239.out) hb); replace HB := Aside0.mk (below_step bl_ hb); (try clear hb)))
 go_roundg k2
 case measure => have := HK1.out; have := HK2.out; omega
 case rel => exact ⟨(wrap64 (x36_2 + 1)), (sr_), H', ⟨by have := HK1.out; have := HK2.out; omega⟩, ⟨bk_ BK234.out⟩, ⟨bl_⟩⟩


def impl_PolicyOk.l0 : Nat → List (S53) → Int → Int → Int → Int → Int → List (S53) → Option (Bool)
 | 0, _, _, _, _, _, _, _ => none
 | k + 1, x6, x7, x8, x243000, x243001, x243002, x243003 => if x8 < x7 then (if 0 ≤ x8 then (if x8 < (x6.length : Int) then ((impl_ruleOk.f k ((rd_T53 x6 x8).f0) ((rd_T53 x6 x8).f1) ((rd_T53 x6 x8).f2) ((rd_T53 x6 x8).f3)).bind fun t245 => (if t245 = true then (impl_PolicyOk.l0 k x6 x7 (wrap64 (x8 + 1)) x243000 x243001 x243002 x243003) else (some false))) else (none)) else (none)) else ((impl_HalfOk.f x243000).bind fun t246 => (if t246 = true then ((impl_actionOk.f x243001 x243002).bind fun t247 => (if t247 = true then (some (decide ((x243003.length : Int) ≤ 10))) else (some false))) else (some false)))
def impl_PolicyOk.f (k : Nat) (a0_0 : Int) (a0_1 : Int) (a0_2 : Int) (l0_3 : List (S53)) : Option (Bool) := impl_PolicyOk.l0 k l0_3 (l0_3.length : Int) 0 a0_0 a0_1 a0_2 l0_3
theorem impl_PolicyOk.mono_l : ∀ k, (∀ y0 y1 y2 y3 y4 y5 y6, LeO (impl_PolicyOk.l0 k y0 y1 y2 y3 y4 y5 y6) (impl_PolicyOk.l0 (k + 1) y0 y1 y2 y3 y4 y5 y6))
 | 0 => fun _ _ _ _ _ _ _ r h => by simp [impl_PolicyOk.l0] at h
 | k + 1 => by
  have ih0 := impl_PolicyOk.mono_l k
  ·intro y0 y1 y2 y3 y4 y5 y6
   unfold impl_PolicyOk.l0
   have m0 := @impl_ruleOk.mono
   exact mo_
theorem impl_PolicyOk.mono : ∀ a0 a1 a2 a3 k, LeO (impl_PolicyOk.f k a0 a1 a2 a3) (impl_PolicyOk.f (k + 1) a0 a1 a2 a3) := by
 intro a0 a1 a2 a3 k
 have ih0 := impl_PolicyOk.mono_l k
 unfold impl_PolicyOk.f
 have m0 := @impl_ruleOk.mono
 exact mo_
theorem impl_PolicyOk.calls (k : Nat) (a0_0 : Int) (a0_1 : Int) (a0_2 : Int) (A0_3 : Option Addr) (c0_3 : Nat) (l0_3 : List (S53)) (r : Bool) (w : World) (hr0_3 : Kd.C k53 w A0_3 l0_3.length l0_3) (hc0_3 : l0_3.length ≤ c0_3) (h : impl_PolicyOk.f k a0_0 a0_1 a0_2 l0_3 = some r) :
 Calls Try.prog 56 #[.agg #[.int .i64 a0_0, .int .i64 a0_1, .int .i64 a0_2, .slice A0_3 l0_3.length c0_3]] w fun e w' => e = .returned (.bool r) ∧ Below w.heap.size w w' := by
 have hu36 := Try.underlying36
 have hu53 := Try.underlying53
 have HR0_3 := Aside0.mk hr0_3
 have HC0_3 := Aside0.mk hc0_3
 clear hr0_3 hc0_3
 have HB := Aside0.mk (Below.refl w.heap.size w)
 have H := h
 unfold impl_PolicyOk.f at H
 clear h
 have H' := Aside0.mk H
 clear H
 go_enter Try.func56, Try.ntmps56
 go_wp2_with (first | ((with_reducible refine gate_dst (N := 1) rfl ?_); (try (refine gate_guard (by rfl) ?_; dsimp only)); refine bx_ 1 36 #[.int .i64 a0_0, .int .i64 a0_1, .int .i64 a0_2, .slice A0_3 l0_3.length c0_3] ?_; intro gb242 hg w2 hbox hb; have BK242 := Aside0.mk (hbox); have GW242 := Aside0.mk ((hz_ : w.heap.size ≤ gb242)); have GE242 := Aside0.mk ((hz_ : w.heap.size ≤ gb242)); replace HB := Aside0.mk (below_step bl_ hb); clear hb hbox hg; obtain ⟨hcz3_0, hcz3_1, hcz3_2, hcz3_3, hfz3_0, hfz3_1, hfz3_2, hfz3_3⟩ := cf4_ BK242.out))
 go_loopg [8] k (fun kq v8 w' => ∃ (x8_1 : Int), v8 = .int .i64 x8_1 ∧ Aside0 (impl_PolicyOk.l0 kq l0_3 (l0_3.length : Int) x8_1 a0_0 a0_1 a0_2 l0_3 = some r) ∧ Aside0 (kq ≤ k) ∧ Aside0 (w'.heap[gb242]? = some (.cells #[.int .i64 a0_0, .int .i64 a0_1, .int .i64 a0_2, (.slice A0_3 l0_3.length c0_3)] 36 (0, 0))) ∧ Aside0 (Below w.heap.size w w'))
 case atStart => exact ⟨(0), (sr_), H', ⟨Nat.le_refl _⟩, ⟨bk_ BK242.out⟩, ⟨bl_⟩⟩
 clear H'
 try clear hcz3_0
 try clear hcz3_1
 try clear hcz3_2
 try clear hcz3_3
 try clear hfz3_0
 try clear hfz3_1
 try clear hfz3_2
 try clear hfz3_3
 obtain ⟨x8_1, rfl, HA, HK1, BK242, HB⟩ := hrel
 cases gk with
 | zero => exact absurd HA.out (by simp [impl_PolicyOk.l0])
 | succ k1 => ?_
 have H := HA.out
 clear HA
 simp only [impl_PolicyOk.l0] at H
 by_cases c4 : x8_1 < (l0_3.length : Int)
 rotate_left
 ·rw [if_neg c4] at H
  have c4b0 := decide_eq_false c4
  clear c4
  replace H := bs_ H
  obtain ⟨t246, A17, H⟩ := H
  try dsimp only at H
  by_cases c18 : t246 = true
  rotate_left
  ·replace c18 := Bool.eq_false_iff.mpr c18
   subst c18
   rw [nf_] at H
   obtain rfl := Option.some.inj H
   obtain ⟨hcz23_0, hcz23_1, hcz23_2, hcz23_3, hfz23_0, hfz23_1, hfz23_2, hfz23_3⟩ := cf4_ BK242.out
   go_wp2_with (first | ((with_reducible refine gate_callee (f := 98) rfl ?_); refine gs_ (some 18) Try.func98 #[.int .i64 a0_0] ?_; (with_reducible refine (impl_HalfOk.calls a0_0 false _ A17.out).mono ?_); rintro e w' ⟨rfl, ⟨nd, rfl⟩⟩; refine ⟨_, rfl, ?_⟩))
   go_ret
   exact ⟨er_, bl_⟩
  subst c18
  rw [if_pos rfl] at H
  replace H := bs_ H
  obtain ⟨t247, A19, H⟩ := H
  try dsimp only at H
  by_cases c20 : t247 = true
  ·subst c20
   rw [if_pos rfl] at H
   obtain rfl := Option.some.inj H
   obtain ⟨hcz21_0, hcz21_1, hcz21_2, hcz21_3, hfz21_0, hfz21_1, hfz21_2, hfz21_3⟩ := cf4_ BK242.out
   go_wp2_with (first | ((with_reducible refine gate_callee (f := 98) rfl ?_); refine gs_ (some 18) Try.func98 #[.int .i64 a0_0] ?_; (with_reducible refine (impl_HalfOk.calls a0_0 true _ A17.out).mono ?_); rintro e w' ⟨rfl, ⟨nd, rfl⟩⟩; refine ⟨_, rfl, ?_⟩) | (go_at_call 99; (with_reducible refine (impl_actionOk.calls a0_1 a0_2 true _ A19.out).mono ?_); rintro e w' ⟨rfl, ⟨nd, rfl⟩⟩))
   go_ret
   exact ⟨er_, bl_⟩
  replace c20 := Bool.eq_false_iff.mpr c20
  subst c20
  rw [nf_] at H
  obtain rfl := Option.some.inj H
  obtain ⟨hcz22_0, hcz22_1, hcz22_2, hcz22_3, hfz22_0, hfz22_1, hfz22_2, hfz22_3⟩ := cf4_ BK242.out
  go_wp2_with (first | ((with_reducible refine gate_callee (f := 98) rfl ?_); refine gs_ (some 18) Try.func98 #[.int .i64 a0_0] ?_; (with_reducible refine (impl_HalfOk.calls a0_0 true _ A17.out).mono ?_); rintro e w' ⟨rfl, ⟨nd, rfl⟩⟩; refine ⟨_, rfl, ?_⟩) | (go_at_call 99; (with_reducible refine (impl_actionOk.calls a0_1 a0_2 false _ A19.out).mono ?_); rintro e w' ⟨rfl, ⟨nd, rfl⟩⟩))
  go_ret
  exact ⟨er_, bl_⟩
 rw [if_pos c4] at H
 have c4b0 := decide_eq_true c4
 clear c4
 by_cases c5 : 0 ≤ x8_1
 rotate_left
 ·exact nn_ c5 H
 rw [if_pos c5] at H
 have c5b0 := decide_eq_true c5
 clear c5
 by_cases c6 : x8_1 < (l0_3.length : Int)
 rotate_left
 ·exact nn_ c6 H
 rw [if_pos c6] at H
 have c6b0 := decide_eq_true c6
 clear c6
 replace H := bs_ H
 obtain ⟨t245, A7, H⟩ := H
 try dsimp only at H
 by_cases c8 : t245 = true
 rotate_left
 ·replace c8 := Bool.eq_false_iff.mpr c8
  subst c8
  rw [nf_] at H
  obtain rfl := Option.some.inj H
  have p243 : 0 ≤ (x8_1 : Int) := of_decide_eq_true as_
  have q243 : x8_1 < (l0_3.length : Int) := of_decide_eq_true as_
  obtain ⟨ad243, A243_0, c243_0, A243_1, c243_1, e243, hx243_0, hx243_1, hx243_2, hx243_3, hl243_0, hi243_0, hl243_1, hi243_1⟩ := at_T53 HR0_3.out x8_1 p243 q243
  cases e243
  replace hx243_0 := (HB.out.cell (World.block_lt_of_cell? w _ hx243_0)).trans hx243_0
  replace hx243_1 := (HB.out.cell (World.block_lt_of_cell? w _ hx243_1)).trans hx243_1
  replace hx243_2 := (HB.out.cell (World.block_lt_of_cell? w _ hx243_2)).trans hx243_2
  replace hx243_3 := (HB.out.cell (World.block_lt_of_cell? w _ hx243_3)).trans hx243_3
  have HR243_0 := Aside0.mk hi243_0
  have HC243_0 := Aside0.mk hl243_0
  clear hi243_0 hl243_0
  have HR243_1 := Aside0.mk hi243_1
  have HC243_1 := Aside0.mk hl243_1
  clear hi243_1 hl243_1
  replace p243 := eq_true p243
  replace q243 := eq_true q243
  go_wp2_with (first | ((with_reducible refine gate_dst (N := 4) rfl ?_); (try (refine gate_guard (by rfl) ?_; dsimp only)); refine bx_ 4 53 #[.slice none 0 0, .slice none 0 0, .int .i64 0, .int .i64 0] ?_; intro gb244 hg w13 hbox hb; have BK244 := Aside0.mk (hbox); have GW244 := Aside0.mk ((hz_ : w.heap.size ≤ gb244)); have GE244 := Aside0.mk ((hz_ : w.heap.size ≤ gb244)); replace HB := Aside0.mk (below_step bl_ hb); have NB242_244 := Aside0.mk ((by rw [hg]; exact Nat.ne_of_lt (blk_lt (g := gb242) (o := .cells #[.int .i64 a0_0, .int .i64 a0_1, .int .i64 a0_2, .slice (some ad243) l0_3.length c0_3] 36 (0, 0)) (bk_ BK242.out)) : gb242 ≠ gb244)); have NB244_242 := Aside0.mk ((by rw [hg]; exact Nat.ne_of_gt (blk_lt (g := gb242) (o := .cells #[.int .i64 a0_0, .int .i64 a0_1, .int .i64 a0_2, .slice (some ad243) l0_3.length c0_3] 36 (0, 0)) (bk_ BK242.out)) : gb244 ≠ gb242)); replace BK242 := Aside0.mk (blk_below (bn0_ BK242.out) hb); clear hb hbox hg; have hnb14 := NB244_242.out; have hnc14 := NB242_244.out; obtain ⟨hcz15_0, hcz15_1, hcz15_2, hcz15_3, hfz15_0, hfz15_1, hfz15_2, hfz15_3⟩ := cf4_ BK244.out) | ((with_reducible refine gate_callee (f := 97) rfl ?_); refine gs_ (some 13) Try.func97 #[.agg #[.slice A243_0 ((rd_T53 l0_3 x8_1).f0).length c243_0, .slice A243_1 ((rd_T53 l0_3 x8_1).f1).length c243_1, .int .i64 ((rd_T53 l0_3 x8_1).f2), .int .i64 ((rd_T53 l0_3 x8_1).f3)]] ?_; (with_reducible refine (impl_ruleOk.calls k1 _ _ ((rd_T53 l0_3 x8_1).f0) _ _ ((rd_T53 l0_3 x8_1).f1) ((rd_T53 l0_3 x8_1).f2) ((rd_T53 l0_3 x8_1).f3) false _ ?side1 ?side2 ?side3 ?side4 A7.out).mono ?_); (case side1 => exact Kd.C_below HR243_0.out bl_); (case side2 => exact HC243_0.out); (case side3 => exact Kd.C_below HR243_1.out bl_); (case side4 => exact HC243_1.out); rintro e w16 ⟨rfl, hb⟩; refine ⟨_, rfl, ?_⟩; replace BK242 := Aside0.mk (blk_below (bn1_ BK242.out NB242_244.out) hb); replace BK244 := Aside0.mk (blk_below (g := gb244) (o := .cells #[.slice A243_0 ((rd_T53 l0_3 x8_1).f0).length c243_0, .slice A243_1 ((rd_T53 l0_3 x8_1).f1).length c243_1, .int .i64 ((rd_T53 l0_3 x8_1).f2), .int .i64 ((rd_T53 l0_3 x8_1).f3)] 53 (0, 0)) (bp0_ BK244.out) hb); replace HB := Aside0.mk (below_step bl_ hb); (try clear hb)))
  go_ret
  exact ⟨er_, bl_⟩
 subst c8
 rw [if_pos rfl] at H
 have H' := Aside0.mk H
 clear H
 have p243 : 0 ≤ (x8_1 : Int) := of_decide_eq_true as_
 have q243 : x8_1 < (l0_3.length : Int) := of_decide_eq_true as_
 obtain ⟨ad243, A243_0, c243_0, A243_1, c243_1, e243, hx243_0, hx243_1, hx243_2, hx243_3, hl243_0, hi243_0, hl243_1, hi243_1⟩ := at_T53 HR0_3.out x8_1 p243 q243
 cases e243
 replace hx243_0 := (HB.out.cell (World.block_lt_of_cell? w _ hx243_0)).trans hx243_0
 replace hx243_1 := (HB.out.cell (World.block_lt_of_cell? w _ hx243_1)).trans hx243_1
 replace hx243_2 := (HB.out.cell (World.block_lt_of_cell? w _ hx243_2)).trans hx243_2
 replace hx243_3 := (HB.out.cell (World.block_lt_of_cell? w _ hx243_3)).trans hx243_3
 have HR243_0 := Aside0.mk hi243_0
 have HC243_0 := Aside0.mk hl243_0
 clear hi243_0 hl243_0
 have HR243_1 := Aside0.mk hi243_1
 have HC243_1 := Aside0.mk hl243_1
 clear hi243_1 hl243_1
 replace p243 := eq_true p243
 replace q243 := eq_true q243
 go_wp2_with (first | ((with_reducible refine gate_dst (N := 4) rfl ?_); (try (refine gate_guard (by rfl) ?_; dsimp only)); refine bx_ 4 53 #[.slice none 0 0, .slice none 0 0, .int .i64 0, .int .i64 0] ?_; intro gb244 hg w9 hbox hb; have BK244 := Aside0.mk (hbox); have GW244 := Aside0.mk ((hz_ : w.heap.size ≤ gb244)); have GE244 := Aside0.mk ((hz_ : w.heap.size ≤ gb244)); replace HB := Aside0.mk (below_step bl_ hb); have NB242_244 := Aside0.mk ((by rw [hg]; exact Nat.ne_of_lt (blk_lt (g := gb242) (o := .cells #[.int .i64 a0_0, .int .i64 a0_1, .int .i64 a0_2, .slice (some ad243) l0_3.length c0_3] 36 (0, 0)) (bk_ BK242.out)) : gb242 ≠ gb244)); have NB244_242 := Aside0.mk ((by rw [hg]; exact Nat.ne_of_gt (blk_lt (g := gb242) (o := .cells #[.int .i64 a0_0, .int .i64 a0_1, .int .i64 a0_2, .slice (some ad243) l0_3.length c0_3] 36 (0, 0)) (bk_ BK242.out)) : gb244 ≠ gb242)); replace BK242 := Aside0.mk (blk_below (bn0_ BK242.out) hb); clear hb hbox hg; have hnb10 := NB244_242.out; have hnc10 := NB242_244.out; obtain ⟨hcz11_0, hcz11_1, hcz11_2, hcz11_3, hfz11_0, hfz11_1, hfz11_2, hfz11_3⟩ := cf4_ BK244.out) | ((with_reducible refine gate_callee (f := 97) rfl ?_); refine gs_ (some 13) Try.func97 #[.agg #[.slice A243_0 ((rd_T53 l0_3 x8_1).f0).length c243_0, .slice A243_1 ((rd_T53 l0_3 x8_1).f1).length c243_1, .int .i64 ((rd_T53 l0_3 x8_1).f2), .int .i64 ((rd_T53 l0_3 x8_1).f3)]] ?_; (with_reducible refine (impl_ruleOk.calls k1 _ _ ((rd_T53 l0_3 x8_1).f0) _ _ ((rd_T53 l0_3 x8_1).f1) ((rd_T53 l0_3 x8_1).f2) ((rd_T53 l0_3 x8_1).f3) true _ ?side1 ?side2 ?side3 ?side4 A7.out).mono ?_); (case side1 => exact Kd.C_below HR243_0.out bl_); (case side2 => exact HC243_0.out); (case side3 => exact Kd.C_below HR243_1.out bl_); (case side4 => exact HC243_1.out); rintro e w12 ⟨rfl, hb⟩; refine ⟨_, rfl, ?_⟩; replace BK242 := Aside0.mk (blk_below (bn1_ BK242.out NB242_244.out) hb); replace BK244 := Aside0.mk (blk_below (g := gb244) (o := .cells #[.slice A243_0 ((rd_T53 l0_3 x8_1).f0).length c243_0, .slice A243_1 ((rd_T53 l0_3 x8_1).f1).length c243_1, .int .i64 ((rd_T53 l0_3 x8_1).f2), .int .i64 ((rd_T53 l0_3 x8_1).f3)] 53 (0, 0)) (bp0_ BK244.out) hb); replace HB := Aside0.mk (below_step bl_ hb); (try clear hb)))
 go_roundg k1
 case measure => have := HK1.out; omega
 case rel => exact ⟨(wrap64 (x8_1 + 1)), (sr_), H', ⟨by have := HK1.out; omega⟩, ⟨bk_ BK242.out⟩, ⟨bl_⟩⟩


def impl_NumsOf.l0 : Nat → List Int → List (S53) → Int → Int → Option (List Int)
 | 0, _, _, _, _ => none
 | k + 1, x3, x8, x9, x10 => if x10 < x9 then (if 0 ≤ x10 then (if x10 < (x8.length : Int) then (if x3.length + ((rd_T53 x8 x10).f0).length < 17592186044416 then (impl_NumsOf.l0 k (x3 ++ ((rd_T53 x8 x10).f0)) x8 x9 (wrap64 (x10 + 1))) else (none)) else (none)) else (none)) else ((slices_Sort_int_int.f x3).bind fun t257 => ((slices_Compact_int_int.f t257).bind fun t258 => (some t258)))
def impl_NumsOf.f (k : Nat) (a0_0 : Int) (a0_1 : Int) (a0_2 : Int) (l0_3 : List (S53)) : Option (List Int) := impl_NumsOf.l0 k (([] : List Int)) l0_3 (l0_3.length : Int) 0
theorem impl_NumsOf.mono_l : ∀ k, (∀ y0 y1 y2 y3, LeO (impl_NumsOf.l0 k y0 y1 y2 y3) (impl_NumsOf.l0 (k + 1) y0 y1 y2 y3))
 | 0 => fun _ _ _ _ r h => by simp [impl_NumsOf.l0] at h
 | k + 1 => by
  have ih0 := impl_NumsOf.mono_l k
  ·intro y0 y1 y2 y3
   unfold impl_NumsOf.l0
   exact mo_
theorem impl_NumsOf.mono : ∀ a0 a1 a2 a3 k, LeO (impl_NumsOf.f k a0 a1 a2 a3) (impl_NumsOf.f (k + 1) a0 a1 a2 a3) := by
 intro a0 a1 a2 a3 k
 have ih0 := impl_NumsOf.mono_l k
 unfold impl_NumsOf.f
 exact mo_
theorem impl_NumsOf.calls (k : Nat) (a0_0 : Int) (a0_1 : Int) (a0_2 : Int) (A0_3 : Option Addr) (c0_3 : Nat) (l0_3 : List (S53)) (r : List Int) (w : World) (hr0_3 : Kd.C k53 w A0_3 l0_3.length l0_3) (hc0_3 : l0_3.length ≤ c0_3) (h : impl_NumsOf.f k a0_0 a0_1 a0_2 l0_3 = some r) :
 Calls Try.prog 57 #[.agg #[.int .i64 a0_0, .int .i64 a0_1, .int .i64 a0_2, .slice A0_3 l0_3.length c0_3]] w fun e w' => ∃ v0_ : Value, e = .returned (v0_) ∧ Kd.R (Kd.int .i64) 3 w' w.heap.size (fun _ => True) v0_ r ∧ Below w.heap.size w w' := by
 have hu36 := Try.underlying36
 have hu53 := Try.underlying53
 have HR0_3 := Aside0.mk hr0_3
 have HC0_3 := Aside0.mk hc0_3
 clear hr0_3 hc0_3
 have HB := Aside0.mk (Below.refl w.heap.size w)
 have H := h
 unfold impl_NumsOf.f at H
 clear h
 obtain ⟨y249, hy249⟩ : ∃ y_ : List Int, y_ = (([] : List Int)) := ⟨_, rfl⟩
 replace H : (impl_NumsOf.l0 k y249 l0_3 (l0_3.length : Int) 0) = some r := rp_ H hy249
 have Ny249 := Aside0.mk hy249
 clear hy249
 have H' := Aside0.mk H
 clear H
 go_enter Try.func57, Try.ntmps57
 go_wp2_with (first | ((with_reducible refine gate_dst (N := 1) rfl ?_); refine bx_ 1 36 #[.int .i64 a0_0, .int .i64 a0_1, .int .i64 a0_2, .slice A0_3 l0_3.length c0_3] ?_; intro gb248 hg w2 hbox hb; have BK248 := Aside0.mk (hbox); have GW248 := Aside0.mk ((hz_ : w.heap.size ≤ gb248)); have GE248 := Aside0.mk ((hz_ : w.heap.size ≤ gb248)); replace HB := Aside0.mk (below_step bl_ hb); clear hb hbox hg) | ((with_reducible refine gate_dst (N := 6) rfl ?_); refine Kd.R_lit (Kd.int .i64) _ 3 ?hg (N := 6) ?hd (xs := ([] : List Int)) (inner := []) (ok := fun _ => True) (okp := fun _ => True) ?hr ?hp (fun _ hk => hk) trivial (Below.refl _ _) (Nat.le_refl _) (by simp) ?_; (case hd => rfl); (case hg => rfl); (case hr => first | (go_simp; done) | (go_simp; rfl)); (case hp => exact (Reps.none _ _)); intro v250 w3 ho4 hb hg_ hnew_; clear hg_ hnew_; (first | rw [← Ny249.out] at ho4 | (simp only [Int.reduceToNat] at ho4; rw [← Ny249.out] at ho4)); have HO251 := Aside0.mk (Kd.R_lower ho4 (below_size bl_)); replace BK248 := Aside0.mk (blk_below (bn0_ BK248.out) hb); replace HB := Aside0.mk (below_step bl_ hb); clear hb ho4; obtain ⟨hcz5_0, hcz5_1, hcz5_2, hcz5_3, hfz5_0, hfz5_1, hfz5_2, hfz5_3⟩ := cf4_ BK248.out))
 go_loopg [3, 10] k (fun kq v3 v10 w' => ∃ (x3_1 : List Int) (x10_1 : Int), v10 = .int .i64 x10_1 ∧ Aside0 (impl_NumsOf.l0 kq x3_1 l0_3 (l0_3.length : Int) x10_1 = some r) ∧ Aside0 (kq ≤ k) ∧ Aside0 (Kd.R (Kd.int .i64) 3 w' w.heap.size (fun _ => True) v3 x3_1) ∧ Aside0 (w'.heap[gb248]? = some (.cells #[.int .i64 a0_0, .int .i64 a0_1, .int .i64 a0_2, (.slice A0_3 l0_3.length c0_3)] 36 (0, 0))) ∧ Aside0 (Below w.heap.size w w'))
 case atStart => exact ⟨(y249), (0), (sr_), H', ⟨Nat.le_refl _⟩, ⟨ra_ HO251.out⟩, ⟨bk_ BK248.out⟩, ⟨bl_⟩⟩
 clear H'
 try clear hcz5_0
 try clear hcz5_1
 try clear hcz5_2
 try clear hcz5_3
 try clear hfz5_0
 try clear hfz5_1
 try clear hfz5_2
 try clear hfz5_3
 obtain ⟨x3_1, x10_1, rfl, HA, HK1, HO_3, BK248, HB⟩ := hrel
 cases gk with
 | zero => exact absurd HA.out (by simp [impl_NumsOf.l0])
 | succ k1 => ?_
 have H := HA.out
 clear HA
 simp only [impl_NumsOf.l0] at H
 by_cases c6 : x10_1 < (l0_3.length : Int)
 rotate_left
 ·rw [if_neg c6] at H
  have c6b0 := decide_eq_false c6
  clear c6
  replace H := bs_ H
  obtain ⟨t257, A14, H⟩ := H
  try dsimp only at H
  replace H := bs_ H
  obtain ⟨t258, A15, H⟩ := H
  try dsimp only at H
  obtain rfl := Option.some.inj H
  obtain ⟨Ao16, co16, eo16⟩ := Kd.R_slice HO_3.out
  subst eo16
  go_wp2_with (first | ((with_reducible refine gate_callee (f := 100) rfl ?_); refine gs_ (some 20) Try.func100 #[.slice Ao16 x3_1.length co16] ?_; (with_reducible refine (slices_Sort_int_int.calls (fun k_ => some k_ = (.slice Ao16 x3_1.length co16 : Value).ownBlock) (.slice Ao16 x3_1.length co16) x3_1 t257 w _ ?side1 ?side2 A14.out).mono ?_); (case side1 => repeat (first | (with_reducible first | exact HB.out | apply below_alloc | apply pw_below_drewN | apply below_drew1 | refine below_set ?_ GE248.out) | exact HB.out)); (case side2 => exact Kd.R_tight rfl HO_3.out); rintro e w17 ⟨rfl, hy0, hb, hkp⟩; refine ⟨_, rfl, ?_⟩; replace BK248 := Aside0.mk (blk_kept (bk_ BK248.out) hkp (fun hs_ => (fun e_ => (Kd.R_ne HO_3.out BK248.out (by decide)) e_) hs_)); replace HO_3 := Aside0.mk (Kd.R_reok rfl hy0 (fun k_ e_ => HO_3.out.1 k_ e_)); replace HB := Aside0.mk (hb); (try clear hb); (try clear hkp); (try clear hy0)) | ((with_reducible refine gate_callee (f := 101) rfl ?_); refine gs_ (some 22) Try.func101 #[.slice Ao16 x3_1.length co16] ?_; (with_reducible refine (slices_Compact_int_int.calls (fun k_ => some k_ = (.slice Ao16 x3_1.length co16 : Value).ownBlock) (.slice Ao16 x3_1.length co16) t257 t258 w _ ?side1 ?side2 A15.out).mono ?_); (case side1 => repeat (first | (with_reducible first | exact HB.out | apply below_alloc | apply pw_below_drewN | apply below_drew1 | refine below_set ?_ GE248.out) | exact HB.out)); (case side2 => exact Kd.R_tight rfl HO_3.out); rintro e w18 ⟨v259, rfl, ho0, hb, hkp⟩; refine ⟨_, rfl, ?_⟩; replace BK248 := Aside0.mk (blk_kept (bk_ BK248.out) hkp (fun hs_ => (fun e_ => (Kd.R_ne HO_3.out BK248.out (by decide)) e_) hs_)); have HO260 := Aside0.mk (Kd.R_mono (ok' := fun k_ => True) ho0 (fun k_ hk_ => trivial)); replace HB := Aside0.mk (hb); clear HO_3; (try clear hb); (try clear hkp); (try clear ho0)))
  go_ret
  exact ⟨_, er_, ra_ HO260.out, bl_⟩
 rw [if_pos c6] at H
 have c6b0 := decide_eq_true c6
 clear c6
 by_cases c7 : 0 ≤ x10_1
 rotate_left
 ·exact nn_ c7 H
 rw [if_pos c7] at H
 have c7b0 := decide_eq_true c7
 clear c7
 by_cases c8 : x10_1 < (l0_3.length : Int)
 rotate_left
 ·exact nn_ c8 H
 rw [if_pos c8] at H
 have c8b0 := decide_eq_true c8
 clear c8
 by_cases c9 : x3_1.length + ((rd_T53 l0_3 x10_1).f0).length < 17592186044416
 rotate_left
 ·exact nn_ c9 H
 rw [if_pos c9] at H
 have LMc9 := Aside0.mk c9
 clear c9
 obtain ⟨y254, hy254⟩ : ∃ y_ : List Int, y_ = (x3_1 ++ ((rd_T53 l0_3 x10_1).f0)) := ⟨_, rfl⟩
 replace H : (impl_NumsOf.l0 k1 y254 l0_3 (l0_3.length : Int) (wrap64 (x10_1 + 1))) = some r := rp_ H hy254
 have Ny254 := Aside0.mk hy254
 clear hy254
 have H' := Aside0.mk H
 clear H
 have p252 : 0 ≤ (x10_1 : Int) := of_decide_eq_true as_
 have q252 : x10_1 < (l0_3.length : Int) := of_decide_eq_true as_
 obtain ⟨ad252, A252_0, c252_0, A252_1, c252_1, e252, hx252_0, hx252_1, hx252_2, hx252_3, hl252_0, hi252_0, hl252_1, hi252_1⟩ := at_T53 HR0_3.out x10_1 p252 q252
 cases e252
 replace hx252_0 := (HB.out.cell (World.block_lt_of_cell? w _ hx252_0)).trans hx252_0
 replace hx252_1 := (HB.out.cell (World.block_lt_of_cell? w _ hx252_1)).trans hx252_1
 replace hx252_2 := (HB.out.cell (World.block_lt_of_cell? w _ hx252_2)).trans hx252_2
 replace hx252_3 := (HB.out.cell (World.block_lt_of_cell? w _ hx252_3)).trans hx252_3
 have HR252_0 := Aside0.mk hi252_0
 have HC252_0 := Aside0.mk hl252_0
 clear hi252_0 hl252_0
 have HR252_1 := Aside0.mk hi252_1
 have HC252_1 := Aside0.mk hl252_1
 clear hi252_1 hl252_1
 replace p252 := eq_true p252
 replace q252 := eq_true q252
 go_wp2_with (first | ((with_reducible refine gate_dst (N := 5) rfl ?_); refine bx_ 5 53 #[.slice none 0 0, .slice none 0 0, .int .i64 0, .int .i64 0] ?_; intro gb253 hg w10 hbox hb; replace HO_3 := Aside0.mk (Kd.R_below (ra_ HO_3.out) hb); have BK253 := Aside0.mk (hbox); have GW253 := Aside0.mk ((hz_ : w.heap.size ≤ gb253)); have GE253 := Aside0.mk ((hz_ : w.heap.size ≤ gb253)); replace HB := Aside0.mk (below_step bl_ hb); have NB248_253 := Aside0.mk ((by rw [hg]; exact Nat.ne_of_lt (blk_lt (g := gb248) (o := .cells #[.int .i64 a0_0, .int .i64 a0_1, .int .i64 a0_2, .slice (some ad252) l0_3.length c0_3] 36 (0, 0)) (bk_ BK248.out)) : gb248 ≠ gb253)); have NB253_248 := Aside0.mk ((by rw [hg]; exact Nat.ne_of_gt (blk_lt (g := gb248) (o := .cells #[.int .i64 a0_0, .int .i64 a0_1, .int .i64 a0_2, .slice (some ad252) l0_3.length c0_3] 36 (0, 0)) (bk_ BK248.out)) : gb253 ≠ gb248)); replace BK248 := Aside0.mk (blk_below (bn0_ BK248.out) hb); clear hb hbox hg; have hnb11 := NB253_248.out; have hnc11 := NB248_253.out; obtain ⟨hcz12_0, hcz12_1, hcz12_2, hcz12_3, hfz12_0, hfz12_1, hfz12_2, hfz12_3⟩ := cf4_ BK253.out) | ((with_reducible refine gate_builtin (b := .append) (xs := #[.tmp 14, .tmp 16]) rfl ?_); at_builtin; refine Kd.R_append_rows (Kd.int .i64) (w0 := w) w.heap.size rfl (.tmp 14) (.tmp 16) 32 3 (.int .i64 0) 8 rfl Try.underlying32 info3 rfl (by decide) (by omega) u3 x3_1 ((rd_T53 l0_3 x10_1).f0) _ _ _ (fun _ => True) (fun _ => False) rfl rfl ?aO ?aR (fun _ _ h => h) (fun _ h => h.elim) ?aF ?aB ?aS ?aL ?_; (case aR => exact Kd.C_below HR252_0.out bl_); (case aB => exact bl_); (case aF => exact (fun _ _ => trivial)); (case aO => exact (by (with_reducible repeat (first | apply Kd.R_alloc | apply Kd.R_drewN | apply Kd.R_drew)); exact Kd.R_mono (Kd.R_far (p := ⟨gb253, 3, none⟩) (Kd.R_far (p := ⟨gb253, 2, none⟩) (Kd.R_far (p := ⟨gb253, 1, none⟩) (Kd.R_far (p := ⟨gb253, 0, none⟩) (Kd.R_types HO_3.out BK253.out (by decide)) (fun _ hk => hk.2) (.slice A252_0 ((rd_T53 l0_3 x10_1).f0).length c252_0)) (fun _ hk => hk.2) (.slice A252_1 ((rd_T53 l0_3 x10_1).f1).length c252_1)) (fun _ hk => hk.2) (.int .i64 ((rd_T53 l0_3 x10_1).f2))) (fun _ hk => hk.2) (.int .i64 ((rd_T53 l0_3 x10_1).f3))) (fun _ hk => trivial))); (case aS => exact (below_size bl_)); (case aL => have := LMc9.out; omega); intro v255 w13 ho hb hg hat; rw [← Ny254.out] at ho; replace BK248 := Aside0.mk (blk_grown (g := gb248) (o := .cells #[.int .i64 a0_0, .int .i64 a0_1, .int .i64 a0_2, .slice (some ad252) l0_3.length c0_3] 36 (0, 0)) (bp1_ BK248.out NB248_253.out) hg (Kd.R_ne HO_3.out BK248.out (by decide))); replace BK253 := Aside0.mk (blk_grown (g := gb253) (o := .cells #[.slice A252_0 ((rd_T53 l0_3 x10_1).f0).length c252_0, .slice A252_1 ((rd_T53 l0_3 x10_1).f1).length c252_1, .int .i64 ((rd_T53 l0_3 x10_1).f2), .int .i64 ((rd_T53 l0_3 x10_1).f3)] 53 (0, 0)) (bp0_ BK253.out) hg (Kd.R_ne HO_3.out BK253.out (by decide))); replace HB := Aside0.mk (hb); have HO256 := Aside0.mk (ho); clear HO_3; clear ho hb hg hat))
 go_roundg k1
 case measure => have := HK1.out; omega
 case rel => exact ⟨(y254), (wrap64 (x10_1 + 1)), (sr_), H', ⟨by have := HK1.out; omega⟩, ⟨ra_ HO256.out⟩, ⟨bk_ BK248.out⟩, ⟨bl_⟩⟩


def impl_NumsSaid.f (k : Nat) (a0_0 : Int) (a0_1 : Int) (a0_2 : Int) (l0_3 : List (S53)) : Option (List Int) := (impl_PolicyOk.f k a0_0 a0_1 a0_2 l0_3).bind fun t262 => (if t262 = true then ((impl_NumsOf.f k a0_0 a0_1 a0_2 l0_3).bind fun t263 => (some t263)) else (some (([] : List Int))))
theorem impl_NumsSaid.mono : ∀ a0 a1 a2 a3 k, LeO (impl_NumsSaid.f k a0 a1 a2 a3) (impl_NumsSaid.f (k + 1) a0 a1 a2 a3) := by
 intro a0 a1 a2 a3 k
 unfold impl_NumsSaid.f
 have m0 := @impl_NumsOf.mono
 have m1 := @impl_PolicyOk.mono
 exact mo_
theorem impl_NumsSaid.calls (k : Nat) (a0_0 : Int) (a0_1 : Int) (a0_2 : Int) (A0_3 : Option Addr) (c0_3 : Nat) (l0_3 : List (S53)) (r : List Int) (w : World) (hr0_3 : Kd.C k53 w A0_3 l0_3.length l0_3) (hc0_3 : l0_3.length ≤ c0_3) (h : impl_NumsSaid.f k a0_0 a0_1 a0_2 l0_3 = some r) :
 Calls Try.prog 15 #[.agg #[.int .i64 a0_0, .int .i64 a0_1, .int .i64 a0_2, .slice A0_3 l0_3.length c0_3]] w fun e w' => ∃ v0_ : Value, e = .returned (v0_) ∧ Kd.R (Kd.int .i64) 3 w' w.heap.size (fun _ => True) v0_ r ∧ Below w.heap.size w w' := by
 have hu36 := Try.underlying36
 have HR0_3 := Aside0.mk hr0_3
 have HC0_3 := Aside0.mk hc0_3
 clear hr0_3 hc0_3
 have HB := Aside0.mk (Below.refl w.heap.size w)
 have H := h
 unfold impl_NumsSaid.f at H
 clear h
 replace H := bs_ H
 obtain ⟨t262, A2, H⟩ := H
 try dsimp only at H
 by_cases c3 : t262 = true
 ·subst c3
  rw [if_pos rfl] at H
  replace H := bs_ H
  obtain ⟨t263, A4, H⟩ := H
  try dsimp only at H
  obtain rfl := Option.some.inj H
  go_enter Try.func15, Try.ntmps15
  go_wp2_with (first | ((with_reducible refine gate_dst (N := 1) rfl ?_); refine bx_ 1 36 #[.int .i64 a0_0, .int .i64 a0_1, .int .i64 a0_2, .slice A0_3 l0_3.length c0_3] ?_; intro gb261 hg w5 hbox hb; have BK261 := Aside0.mk (hbox); have GW261 := Aside0.mk ((hz_ : w.heap.size ≤ gb261)); have GE261 := Aside0.mk ((hz_ : w.heap.size ≤ gb261)); replace HB := Aside0.mk (below_step bl_ hb); clear hb hbox hg; obtain ⟨hcz6_0, hcz6_1, hcz6_2, hcz6_3, hfz6_0, hfz6_1, hfz6_2, hfz6_3⟩ := cf4_ BK261.out) | ((with_reducible refine gate_callee (f := 56) rfl ?_); refine gs_ (some 4) Try.func56 #[.agg #[.int .i64 a0_0, .int .i64 a0_1, .int .i64 a0_2, .slice A0_3 l0_3.length c0_3]] ?_; (with_reducible refine (impl_PolicyOk.calls k a0_0 a0_1 a0_2 _ _ l0_3 true _ ?side1 ?side2 A2.out).mono ?_); (case side1 => exact cb_ HR0_3.out HB.out); (case side2 => exact HC0_3.out); rintro e w7 ⟨rfl, hb⟩; refine ⟨_, rfl, ?_⟩; replace BK261 := Aside0.mk (blk_below (bn0_ BK261.out) hb); replace HB := Aside0.mk (below_step bl_ hb); (try clear hb); obtain ⟨hcz8_0, hcz8_1, hcz8_2, hcz8_3, hfz8_0, hfz8_1, hfz8_2, hfz8_3⟩ := cf4_ BK261.out) | ((with_reducible refine gate_callee (f := 57) rfl ?_); refine gs_ (some 8) Try.func57 #[.agg #[.int .i64 a0_0, .int .i64 a0_1, .int .i64 a0_2, .slice A0_3 l0_3.length c0_3]] ?_; (with_reducible refine (impl_NumsOf.calls k a0_0 a0_1 a0_2 _ _ l0_3 t263 _ ?side1 ?side2 A4.out).mono ?_); (case side1 => exact cb_ HR0_3.out HB.out); (case side2 => exact HC0_3.out); rintro e w9 ⟨v264, rfl, ho0, hb⟩; refine ⟨_, rfl, ?_⟩; have HO265 := Aside0.mk (Kd.R_lower ho0 (below_size bl_)); replace BK261 := Aside0.mk (blk_below (bn0_ BK261.out) hb); replace HB := Aside0.mk (below_step bl_ hb); (try clear hb); (try clear ho0)))
  go_ret
  exact ⟨_, er_, ra_ HO265.out, bl_⟩
 replace c3 := Bool.eq_false_iff.mpr c3
 subst c3
 rw [nf_] at H
 obtain ⟨y266, hy266⟩ : ∃ y_ : List Int, y_ = (([] : List Int)) := ⟨_, rfl⟩
 replace H : (some y266) = some r := rp_ H hy266
 have Ny266 := Aside0.mk hy266
 clear hy266
 obtain rfl := Option.some.inj H
 go_enter Try.func15, Try.ntmps15
 go_wp2_with (first | ((with_reducible refine gate_dst (N := 1) rfl ?_); refine bx_ 1 36 #[.int .i64 a0_0, .int .i64 a0_1, .int .i64 a0_2, .slice A0_3 l0_3.length c0_3] ?_; intro gb261 hg w10 hbox hb; have BK261 := Aside0.mk (hbox); have GW261 := Aside0.mk ((hz_ : w.heap.size ≤ gb261)); have GE261 := Aside0.mk ((hz_ : w.heap.size ≤ gb261)); replace HB := Aside0.mk (below_step bl_ hb); clear hb hbox hg; obtain ⟨hcz11_0, hcz11_1, hcz11_2, hcz11_3, hfz11_0, hfz11_1, hfz11_2, hfz11_3⟩ := cf4_ BK261.out) | ((with_reducible refine gate_callee (f := 56) rfl ?_); refine gs_ (some 4) Try.func56 #[.agg #[.int .i64 a0_0, .int .i64 a0_1, .int .i64 a0_2, .slice A0_3 l0_3.length c0_3]] ?_; (with_reducible refine (impl_PolicyOk.calls k a0_0 a0_1 a0_2 _ _ l0_3 false _ ?side1 ?side2 A2.out).mono ?_); (case side1 => exact cb_ HR0_3.out HB.out); (case side2 => exact HC0_3.out); rintro e w12 ⟨rfl, hb⟩; refine ⟨_, rfl, ?_⟩; replace BK261 := Aside0.mk (blk_below (bn0_ BK261.out) hb); replace HB := Aside0.mk (below_step bl_ hb); (try clear hb)) | ((with_reducible refine gate_dst (N := 6) rfl ?_); refine Kd.R_lit (Kd.int .i64) _ 3 ?hg (N := 6) ?hd (xs := ([] : List Int)) (inner := []) (ok := fun _ => True) (okp := fun _ => True) ?hr ?hp (fun _ hk => hk) trivial (Below.refl _ _) (Nat.le_refl _) (by simp) ?_; (case hd => rfl); (case hg => rfl); (case hr => first | (go_simp; done) | (go_simp; rfl)); (case hp => exact (Reps.none _ _)); intro v267 w13 ho14 hb hg_ hnew_; clear hg_ hnew_; (first | rw [← Ny266.out] at ho14 | (simp only [Int.reduceToNat] at ho14; rw [← Ny266.out] at ho14)); have HO268 := Aside0.mk (Kd.R_lower ho14 (below_size bl_)); replace BK261 := Aside0.mk (blk_below (bn0_ BK261.out) hb); replace HB := Aside0.mk (below_step bl_ hb); clear hb ho14))
 go_ret
 exact ⟨_, er_, ra_ HO268.out, bl_⟩


def laws_eqIntS.l0 : Nat → List Int → List Int → Int → Option (Bool)
 | 0, _, _, _ => none
 | k + 1, x0, x1, x5 => if x5 < (x0.length : Int) then (if 0 ≤ x5 then (if x5 < (x1.length : Int) then (if (rd x0 x5) = (rd x1 x5) then (laws_eqIntS.l0 k x0 x1 (wrap64 (x5 + 1))) else (some false)) else (none)) else (none)) else (some true)
def laws_eqIntS.f (k : Nat) (l0 : List Int) (l1 : List Int) : Option (Bool) := if (l0.length : Int) = (l1.length : Int) then (laws_eqIntS.l0 k l0 l1 0) else (some false)
theorem laws_eqIntS.mono_l : ∀ k, (∀ y0 y1 y2, LeO (laws_eqIntS.l0 k y0 y1 y2) (laws_eqIntS.l0 (k + 1) y0 y1 y2))
 | 0 => fun _ _ _ r h => by simp [laws_eqIntS.l0] at h
 | k + 1 => by
  have ih0 := laws_eqIntS.mono_l k
  ·intro y0 y1 y2
   unfold laws_eqIntS.l0
   exact mo_
theorem laws_eqIntS.mono : ∀ a0 a1 k, LeO (laws_eqIntS.f k a0 a1) (laws_eqIntS.f (k + 1) a0 a1) := by
 intro a0 a1 k
 have ih0 := laws_eqIntS.mono_l k
 unfold laws_eqIntS.f
 exact mo_
theorem laws_eqIntS.calls (k : Nat) (A0 : Option Addr) (c0 : Nat) (l0 : List Int) (A1 : Option Addr) (c1 : Nat) (l1 : List Int) (r : Bool) (w : World) (hr0 : Kd.C (Kd.int .i64) w A0 l0.length l0) (hc0 : l0.length ≤ c0) (hr1 : Kd.C (Kd.int .i64) w A1 l1.length l1) (hc1 : l1.length ≤ c1) (h : laws_eqIntS.f k l0 l1 = some r) :
 Calls Try.prog 16 #[.slice A0 l0.length c0, .slice A1 l1.length c1] w fun e w' => e = .returned (.bool r) ∧ Drawn0 w w' := by
 have HR0 := Aside0.mk hr0
 have HC0 := Aside0.mk hc0
 clear hr0 hc0
 have HR1 := Aside0.mk hr1
 have HC1 := Aside0.mk hc1
 clear hr1 hc1
 have H := h
 unfold laws_eqIntS.f at H
 clear h
 by_cases c3 : (l0.length : Int) = (l1.length : Int)
 rotate_left
 ·rw [if_neg c3] at H
  have c3b0 : ((l0.length : Int) == (l1.length : Int)) = false := beq_eq_false_iff_ne.mpr c3
  have c3b1 : ((l0.length : Int) != (l1.length : Int)) = true := bne_iff_ne.mpr c3
  have c3b2 : (l0.length == l1.length) = false := by first | simpa using c3 | (simp at c3 ⊢; omega)
  obtain rfl := Option.some.inj H
  go_enter Try.func16, Try.ntmps16
  go_wp2
  repeat (go_quiet (fail); try go_wp2)
  go_ret
  exact ⟨sr_, by repeat (first | exact Drawn0.refl _ | apply Drawn0.step)⟩
 rw [if_pos c3] at H
 have c3b0 : ((l0.length : Int) == (l1.length : Int)) = true := beq_iff_eq.mpr c3
 have c3b1 : ((l0.length : Int) != (l1.length : Int)) = false := bne_eq_false_iff_eq.mpr c3
 have c3b2 : (l0.length == l1.length) = true := by first | simpa using c3 | (simp at c3 ⊢; omega)
 clear c3
 have H' := Aside0.mk H
 clear H
 go_enter Try.func16, Try.ntmps16
 go_wp2
 repeat (go_quiet (fail); try go_wp2)
 go_loopg [5] k (fun kq v5 w' => ∃ (x5_1 : Int), v5 = .int .i64 x5_1 ∧ Aside0 (laws_eqIntS.l0 kq l0 l1 x5_1 = some r) ∧ Aside0 (kq ≤ k) ∧ Drawn0 w w')
 case atStart => exact ⟨(0), (sr_), H', ⟨Nat.le_refl _⟩, by repeat (first | exact Drawn0.refl _ | apply Drawn0.step)⟩
 clear H'
 try clear c1
 try clear c3
 try clear c3b0
 try clear c3b1
 try clear c3b2
 obtain ⟨x5_1, rfl, HA, HK1, ⟨m1, rfl⟩⟩ := hrel
 cases gk with
 | zero => exact absurd HA.out (by simp [laws_eqIntS.l0])
 | succ k1 => ?_
 have H := HA.out
 clear HA
 simp only [laws_eqIntS.l0] at H
 by_cases c4 : x5_1 < (l0.length : Int)
 rotate_left
 ·rw [if_neg c4] at H
  have c4b0 := decide_eq_false c4
  clear c4
  obtain rfl := Option.some.inj H
  go_wp2
  repeat (go_quiet (fail); try go_wp2)
  go_ret
  exact ⟨sr_, by repeat (first | exact Drawn0.refl _ | apply Drawn0.step)⟩
 rw [if_pos c4] at H
 have c4b0 := decide_eq_true c4
 clear c4
 by_cases c5 : 0 ≤ x5_1
 rotate_left
 ·exact nn_ c5 H
 rw [if_pos c5] at H
 have c5b0 := decide_eq_true c5
 clear c5
 by_cases c6 : x5_1 < (l1.length : Int)
 rotate_left
 ·exact nn_ c6 H
 rw [if_pos c6] at H
 have c6b0 := decide_eq_true c6
 clear c6
 by_cases c7 : (rd l0 x5_1) = (rd l1 x5_1)
 rotate_left
 ·rw [if_neg c7] at H
  have c7b0 : ((rd l0 x5_1) == (rd l1 x5_1)) = false := beq_eq_false_iff_ne.mpr c7
  have c7b1 : ((rd l0 x5_1) != (rd l1 x5_1)) = true := bne_iff_ne.mpr c7
  obtain rfl := Option.some.inj H
  have p269 : 0 ≤ (x5_1 : Int) := of_decide_eq_true as_
  have q269 : x5_1 < (l0.length : Int) := of_decide_eq_true as_
  obtain ⟨ad269, e269, hx269_0⟩ := Kd.at_int HR0.out x5_1 p269 q269
  cases e269
  replace p269 := eq_true p269
  replace q269 := eq_true q269
  have p270 : 0 ≤ (x5_1 : Int) := of_decide_eq_true as_
  have q270 : x5_1 < (l1.length : Int) := of_decide_eq_true as_
  obtain ⟨ad270, e270, hx270_0⟩ := Kd.at_int HR1.out x5_1 p270 q270
  cases e270
  replace p270 := eq_true p270
  replace q270 := eq_true q270
  go_wp2
  repeat (go_quiet (fail); try go_wp2)
  go_ret
  exact ⟨sr_, by repeat (first | exact Drawn0.refl _ | apply Drawn0.step)⟩
 rw [if_pos c7] at H
 have c7b0 : ((rd l0 x5_1) == (rd l1 x5_1)) = true := beq_iff_eq.mpr c7
 have c7b1 : ((rd l0 x5_1) != (rd l1 x5_1)) = false := bne_eq_false_iff_eq.mpr c7
 clear c7
 have H' := Aside0.mk H
 clear H
 have p269 : 0 ≤ (x5_1 : Int) := of_decide_eq_true as_
 have q269 : x5_1 < (l0.length : Int) := of_decide_eq_true as_
 obtain ⟨ad269, e269, hx269_0⟩ := Kd.at_int HR0.out x5_1 p269 q269
 cases e269
 replace p269 := eq_true p269
 replace q269 := eq_true q269
 have p270 : 0 ≤ (x5_1 : Int) := of_decide_eq_true as_
 have q270 : x5_1 < (l1.length : Int) := of_decide_eq_true as_
 obtain ⟨ad270, e270, hx270_0⟩ := Kd.at_int HR1.out x5_1 p270 q270
 cases e270
 replace p270 := eq_true p270
 replace q270 := eq_true q270
 go_wp2
 repeat (go_quiet (fail); try go_wp2)
 go_roundg k1
 case measure => have := HK1.out; omega
 case rel => exact ⟨(wrap64 (x5_1 + 1)), (sr_), H', ⟨by have := HK1.out; omega⟩, by repeat (first | exact Drawn0.refl _ | apply Drawn0.step)⟩


def laws_eqWide.f (a0_0 : Int) (a0_1 : Int) (a1_0 : Int) (a1_1 : Int) : Option (Bool) := if a0_0 = a1_0 then (if a0_1 = a1_1 then (some true) else (some false)) else (some false)
theorem laws_eqWide.calls (a0_0 : Int) (a0_1 : Int) (a1_0 : Int) (a1_1 : Int) (r : Bool) (w : World) (h : laws_eqWide.f a0_0 a0_1 a1_0 a1_1 = some r) :
 Calls Try.prog 135 #[.agg #[.int .i64 a0_0, .int .i64 a0_1], .agg #[.int .i64 a1_0, .int .i64 a1_1]] w fun e w' => e = .returned (.bool r) ∧ Below w.heap.size w w' := by
 have hu98 := Try.underlying98
 have HB := Aside0.mk (Below.refl w.heap.size w)
 have H := h
 unfold laws_eqWide.f at H
 clear h
 by_cases c3 : a0_0 = a1_0
 rotate_left
 ·rw [if_neg c3] at H
  have c3b0 : (a0_0 == a1_0) = false := beq_eq_false_iff_ne.mpr c3
  have c3b1 : (a0_0 != a1_0) = true := bne_iff_ne.mpr c3
  obtain rfl := Option.some.inj H
  go_enter Try.func135, Try.ntmps135
  go_wp2_with (first | ((with_reducible refine gate_dst (N := 2) rfl ?_); refine bx_ 2 98 #[.int .i64 a0_0, .int .i64 a0_1] ?_; intro gb271 hg w15 hbox hb; have BK271 := Aside0.mk (hbox); have GW271 := Aside0.mk ((hz_ : w.heap.size ≤ gb271)); have GE271 := Aside0.mk ((hz_ : w.heap.size ≤ gb271)); replace HB := Aside0.mk (below_step bl_ hb); clear hb hbox hg) | ((with_reducible refine gate_dst (N := 3) rfl ?_); refine bx_ 3 98 #[.int .i64 a1_0, .int .i64 a1_1] ?_; intro gb272 hg w16 hbox hb; have BK272 := Aside0.mk (hbox); have GW272 := Aside0.mk ((hz_ : w.heap.size ≤ gb272)); have GE272 := Aside0.mk ((hz_ : w.heap.size ≤ gb272)); replace HB := Aside0.mk (below_step bl_ hb); have NB271_272 := Aside0.mk ((by rw [hg]; exact Nat.ne_of_lt (blk_lt (g := gb271) (o := .cells #[.int .i64 a0_0, .int .i64 a0_1] 98 (0, 0)) (bk_ BK271.out)) : gb271 ≠ gb272)); have NB272_271 := Aside0.mk ((by rw [hg]; exact Nat.ne_of_gt (blk_lt (g := gb271) (o := .cells #[.int .i64 a0_0, .int .i64 a0_1] 98 (0, 0)) (bk_ BK271.out)) : gb272 ≠ gb271)); replace BK271 := Aside0.mk (blk_below (bn0_ BK271.out) hb); clear hb hbox hg; have hnb17 := NB271_272.out; have hnc17 := NB272_271.out; obtain ⟨hcz18_0, hcz18_1, hfz18_0, hfz18_1⟩ := cf2_ BK271.out; obtain ⟨hcz19_0, hcz19_1, hfz19_0, hfz19_1⟩ := cf2_ BK272.out))
  go_ret
  exact ⟨er_, bl_⟩
 rw [if_pos c3] at H
 have c3b0 : (a0_0 == a1_0) = true := beq_iff_eq.mpr c3
 have c3b1 : (a0_0 != a1_0) = false := bne_eq_false_iff_eq.mpr c3
 clear c3
 by_cases c4 : a0_1 = a1_1
 rotate_left
 ·rw [if_neg c4] at H
  have c4b0 : (a0_1 == a1_1) = false := beq_eq_false_iff_ne.mpr c4
  have c4b1 : (a0_1 != a1_1) = true := bne_iff_ne.mpr c4
  obtain rfl := Option.some.inj H
  go_enter Try.func135, Try.ntmps135
  go_wp2_with (first | ((with_reducible refine gate_dst (N := 2) rfl ?_); refine bx_ 2 98 #[.int .i64 a0_0, .int .i64 a0_1] ?_; intro gb271 hg w10 hbox hb; have BK271 := Aside0.mk (hbox); have GW271 := Aside0.mk ((hz_ : w.heap.size ≤ gb271)); have GE271 := Aside0.mk ((hz_ : w.heap.size ≤ gb271)); replace HB := Aside0.mk (below_step bl_ hb); clear hb hbox hg) | ((with_reducible refine gate_dst (N := 3) rfl ?_); refine bx_ 3 98 #[.int .i64 a1_0, .int .i64 a1_1] ?_; intro gb272 hg w11 hbox hb; have BK272 := Aside0.mk (hbox); have GW272 := Aside0.mk ((hz_ : w.heap.size ≤ gb272)); have GE272 := Aside0.mk ((hz_ : w.heap.size ≤ gb272)); replace HB := Aside0.mk (below_step bl_ hb); have NB271_272 := Aside0.mk ((by rw [hg]; exact Nat.ne_of_lt (blk_lt (g := gb271) (o := .cells #[.int .i64 a0_0, .int .i64 a0_1] 98 (0, 0)) (bk_ BK271.out)) : gb271 ≠ gb272)); have NB272_271 := Aside0.mk ((by rw [hg]; exact Nat.ne_of_gt (blk_lt (g := gb271) (o := .cells #[.int .i64 a0_0, .int .i64 a0_1] 98 (0, 0)) (bk_ BK271.out)) : gb272 ≠ gb271)); replace BK271 := Aside0.mk (blk_below (bn0_ BK271.out) hb); clear hb hbox hg; have hnb12 := NB271_272.out; have hnc12 := NB272_271.out; obtain ⟨hcz13_0, hcz13_1, hfz13_0, hfz13_1⟩ := cf2_ BK271.out; obtain ⟨hcz14_0, hcz14_1, hfz14_0, hfz14_1⟩ := cf2_ BK272.out))
  go_ret
  exact ⟨er_, bl_⟩
 rw [if_pos c4] at H
 have c4b0 : (a0_1 == a1_1) = true := beq_iff_eq.mpr c4
 have c4b1 : (a0_1 != a1_1) = false := bne_eq_false_iff_eq.mpr c4
 clear c4
 obtain rfl := Option.some.inj H
 go_enter Try.func135, Try.ntmps135
 go_wp2_with (first | ((with_reducible refine gate_dst (N := 2) rfl ?_); refine bx_ 2 98 #[.int .i64 a0_0, .int .i64 a0_1] ?_; intro gb271 hg w5 hbox hb; have BK271 := Aside0.mk (hbox); have GW271 := Aside0.mk ((hz_ : w.heap.size ≤ gb271)); have GE271 := Aside0.mk ((hz_ : w.heap.size ≤ gb271)); replace HB := Aside0.mk (below_step bl_ hb); clear hb hbox hg) | ((with_reducible refine gate_dst (N := 3) rfl ?_); refine bx_ 3 98 #[.int .i64 a1_0, .int .i64 a1_1] ?_; intro gb272 hg w6 hbox hb; have BK272 := Aside0.mk (hbox); have GW272 := Aside0.mk ((hz_ : w.heap.size ≤ gb272)); have GE272 := Aside0.mk ((hz_ : w.heap.size ≤ gb272)); replace HB := Aside0.mk (below_step bl_ hb); have NB271_272 := Aside0.mk ((by rw [hg]; exact Nat.ne_of_lt (blk_lt (g := gb271) (o := .cells #[.int .i64 a0_0, .int .i64 a0_1] 98 (0, 0)) (bk_ BK271.out)) : gb271 ≠ gb272)); have NB272_271 := Aside0.mk ((by rw [hg]; exact Nat.ne_of_gt (blk_lt (g := gb271) (o := .cells #[.int .i64 a0_0, .int .i64 a0_1] 98 (0, 0)) (bk_ BK271.out)) : gb272 ≠ gb271)); replace BK271 := Aside0.mk (blk_below (bn0_ BK271.out) hb); clear hb hbox hg; have hnb7 := NB271_272.out; have hnc7 := NB272_271.out; obtain ⟨hcz8_0, hcz8_1, hfz8_0, hfz8_1⟩ := cf2_ BK271.out; obtain ⟨hcz9_0, hcz9_1, hfz9_0, hfz9_1⟩ := cf2_ BK272.out))
 go_ret
 exact ⟨er_, bl_⟩


def laws_eqCond.f (a0_0 : Int) (a0_1 : Int) (a0_2 : Int) (a0_3 : Int) (a0_4 : Int) (a0_5 : Int) (a1_0 : Int) (a1_1 : Int) (a1_2 : Int) (a1_3 : Int) (a1_4 : Int) (a1_5 : Int) : Option (Bool) := if a0_0 = a1_0 then ((laws_eqWide.f a0_1 a0_2 a1_1 a1_2).bind fun t275 => (if t275 = true then (if a0_3 = a1_3 then ((laws_eqWide.f a0_4 a0_5 a1_4 a1_5).bind fun t276 => (if t276 = true then (some true) else (some false))) else (some false)) else (some false))) else (some false)
theorem laws_eqCond.calls (a0_0 : Int) (a0_1 : Int) (a0_2 : Int) (a0_3 : Int) (a0_4 : Int) (a0_5 : Int) (a1_0 : Int) (a1_1 : Int) (a1_2 : Int) (a1_3 : Int) (a1_4 : Int) (a1_5 : Int) (r : Bool) (w : World) (h : laws_eqCond.f a0_0 a0_1 a0_2 a0_3 a0_4 a0_5 a1_0 a1_1 a1_2 a1_3 a1_4 a1_5 = some r) :
 Calls Try.prog 148 #[.agg #[.int .i64 a0_0, .int .i64 a0_1, .int .i64 a0_2, .int .i64 a0_3, .int .i64 a0_4, .int .i64 a0_5], .agg #[.int .i64 a1_0, .int .i64 a1_1, .int .i64 a1_2, .int .i64 a1_3, .int .i64 a1_4, .int .i64 a1_5]] w fun e w' => e = .returned (.bool r) ∧ Below w.heap.size w w' := by
 have hu100 := Try.underlying100
 have hu98 := Try.underlying98
 have HB := Aside0.mk (Below.refl w.heap.size w)
 have H := h
 unfold laws_eqCond.f at H
 clear h
 by_cases c3 : a0_0 = a1_0
 rotate_left
 ·rw [if_neg c3] at H
  have c3b0 : (a0_0 == a1_0) = false := beq_eq_false_iff_ne.mpr c3
  have c3b1 : (a0_0 != a1_0) = true := bne_iff_ne.mpr c3
  obtain rfl := Option.some.inj H
  go_enter Try.func148, Try.ntmps148
  go_wp2_with (first | ((with_reducible refine gate_dst (N := 2) rfl ?_); refine bx_ 2 100 #[.int .i64 a0_0, .int .i64 a0_1, .int .i64 a0_2, .int .i64 a0_3, .int .i64 a0_4, .int .i64 a0_5] ?_; intro gb273 hg w41 hbox hb; have BK273 := Aside0.mk (hbox); have GW273 := Aside0.mk ((hz_ : w.heap.size ≤ gb273)); have GE273 := Aside0.mk ((hz_ : w.heap.size ≤ gb273)); replace HB := Aside0.mk (below_step bl_ hb); clear hb hbox hg) | ((with_reducible refine gate_dst (N := 3) rfl ?_); refine bx_ 3 100 #[.int .i64 a1_0, .int .i64 a1_1, .int .i64 a1_2, .int .i64 a1_3, .int .i64 a1_4, .int .i64 a1_5] ?_; intro gb274 hg w42 hbox hb; have BK274 := Aside0.mk (hbox); have GW274 := Aside0.mk ((hz_ : w.heap.size ≤ gb274)); have GE274 := Aside0.mk ((hz_ : w.heap.size ≤ gb274)); replace HB := Aside0.mk (below_step bl_ hb); have NB273_274 := Aside0.mk ((by rw [hg]; exact Nat.ne_of_lt (blk_lt (g := gb273) (o := .cells #[.int .i64 a0_0, .int .i64 a0_1, .int .i64 a0_2, .int .i64 a0_3, .int .i64 a0_4, .int .i64 a0_5] 100 (0, 0)) (bk_ BK273.out)) : gb273 ≠ gb274)); have NB274_273 := Aside0.mk ((by rw [hg]; exact Nat.ne_of_gt (blk_lt (g := gb273) (o := .cells #[.int .i64 a0_0, .int .i64 a0_1, .int .i64 a0_2, .int .i64 a0_3, .int .i64 a0_4, .int .i64 a0_5] 100 (0, 0)) (bk_ BK273.out)) : gb274 ≠ gb273)); replace BK273 := Aside0.mk (blk_below (bn0_ BK273.out) hb); clear hb hbox hg; have hnb43 := NB273_274.out; have hnc43 := NB274_273.out; obtain ⟨hcz44_0, hcz44_1, hcz44_2, hcz44_3, hcz44_4, hcz44_5, hfz44_0, hfz44_1, hfz44_2, hfz44_3, hfz44_4, hfz44_5⟩ := cf6_ BK273.out; obtain ⟨hcz45_0, hcz45_1, hcz45_2, hcz45_3, hcz45_4, hcz45_5, hfz45_0, hfz45_1, hfz45_2, hfz45_3, hfz45_4, hfz45_5⟩ := cf6_ BK274.out))
  go_ret
  exact ⟨er_, bl_⟩
 rw [if_pos c3] at H
 have c3b0 : (a0_0 == a1_0) = true := beq_iff_eq.mpr c3
 have c3b1 : (a0_0 != a1_0) = false := bne_eq_false_iff_eq.mpr c3
 clear c3
 replace H := bs_ H
 obtain ⟨t275, A4, H⟩ := H
 try dsimp only at H
 by_cases c5 : t275 = true
 rotate_left
 ·replace c5 := Bool.eq_false_iff.mpr c5
  subst c5
  rw [nf_] at H
  obtain rfl := Option.some.inj H
  go_enter Try.func148, Try.ntmps148
  go_wp2_with (first | ((with_reducible refine gate_dst (N := 2) rfl ?_); refine bx_ 2 100 #[.int .i64 a0_0, .int .i64 a0_1, .int .i64 a0_2, .int .i64 a0_3, .int .i64 a0_4, .int .i64 a0_5] ?_; intro gb273 hg w35 hbox hb; have BK273 := Aside0.mk (hbox); have GW273 := Aside0.mk ((hz_ : w.heap.size ≤ gb273)); have GE273 := Aside0.mk ((hz_ : w.heap.size ≤ gb273)); replace HB := Aside0.mk (below_step bl_ hb); clear hb hbox hg) | ((with_reducible refine gate_dst (N := 3) rfl ?_); refine bx_ 3 100 #[.int .i64 a1_0, .int .i64 a1_1, .int .i64 a1_2, .int .i64 a1_3, .int .i64 a1_4, .int .i64 a1_5] ?_; intro gb274 hg w36 hbox hb; have BK274 := Aside0.mk (hbox); have GW274 := Aside0.mk ((hz_ : w.heap.size ≤ gb274)); have GE274 := Aside0.mk ((hz_ : w.heap.size ≤ gb274)); replace HB := Aside0.mk (below_step bl_ hb); have NB273_274 := Aside0.mk ((by rw [hg]; exact Nat.ne_of_lt (blk_lt (g := gb273) (o := .cells #[.int .i64 a0_0, .int .i64 a0_1, .int .i64 a0_2, .int .i64 a0_3, .int .i64 a0_4, .int .i64 a0_5] 100 (0, 0)) (bk_ BK273.out)) : gb273 ≠ gb274)); have NB274_273 := Aside0.mk ((by rw [hg]; exact Nat.ne_of_gt (blk_lt (g := gb273) (o := .cells #[.int .i64 a0_0, .int .i64 a0_1, .int .i64 a0_2, .int .i64 a0_3, .int .i64 a0_4, .int .i64 a0_5] 100 (0, 0)) (bk_ BK273.out)) : gb274 ≠ gb273)); replace BK273 := Aside0.mk (blk_below (bn0_ BK273.out) hb); clear hb hbox hg; have hnb37 := NB273_274.out; have hnc37 := NB274_273.out; obtain ⟨hcz38_0, hcz38_1, hcz38_2, hcz38_3, hcz38_4, hcz38_5, hfz38_0, hfz38_1, hfz38_2, hfz38_3, hfz38_4, hfz38_5⟩ := cf6_ BK273.out; obtain ⟨hcz39_0, hcz39_1, hcz39_2, hcz39_3, hcz39_4, hcz39_5, hfz39_0, hfz39_1, hfz39_2, hfz39_3, hfz39_4, hfz39_5⟩ := cf6_ BK274.out) | ((with_reducible refine gate_callee (f := 135) rfl ?_); refine gs_ (some 14) Try.func135 #[.agg #[.int .i64 a0_1, .int .i64 a0_2], .agg #[.int .i64 a1_1, .int .i64 a1_2]] ?_; (with_reducible refine (laws_eqWide.calls a0_1 a0_2 a1_1 a1_2 false _ A4.out).mono ?_); rintro e w40 ⟨rfl, hb⟩; refine ⟨_, rfl, ?_⟩; replace BK273 := Aside0.mk (blk_below (bn0_ BK273.out) hb); replace BK274 := Aside0.mk (blk_below (bn0_ BK274.out) hb); replace HB := Aside0.mk (below_step bl_ hb); (try clear hb)))
  go_ret
  exact ⟨er_, bl_⟩
 subst c5
 rw [if_pos rfl] at H
 by_cases c6 : a0_3 = a1_3
 rotate_left
 ·rw [if_neg c6] at H
  have c6b0 : (a0_3 == a1_3) = false := beq_eq_false_iff_ne.mpr c6
  have c6b1 : (a0_3 != a1_3) = true := bne_iff_ne.mpr c6
  obtain rfl := Option.some.inj H
  go_enter Try.func148, Try.ntmps148
  go_wp2_with (first | ((with_reducible refine gate_dst (N := 2) rfl ?_); refine bx_ 2 100 #[.int .i64 a0_0, .int .i64 a0_1, .int .i64 a0_2, .int .i64 a0_3, .int .i64 a0_4, .int .i64 a0_5] ?_; intro gb273 hg w27 hbox hb; have BK273 := Aside0.mk (hbox); have GW273 := Aside0.mk ((hz_ : w.heap.size ≤ gb273)); have GE273 := Aside0.mk ((hz_ : w.heap.size ≤ gb273)); replace HB := Aside0.mk (below_step bl_ hb); clear hb hbox hg) | ((with_reducible refine gate_dst (N := 3) rfl ?_); refine bx_ 3 100 #[.int .i64 a1_0, .int .i64 a1_1, .int .i64 a1_2, .int .i64 a1_3, .int .i64 a1_4, .int .i64 a1_5] ?_; intro gb274 hg w28 hbox hb; have BK274 := Aside0.mk (hbox); have GW274 := Aside0.mk ((hz_ : w.heap.size ≤ gb274)); have GE274 := Aside0.mk ((hz_ : w.heap.size ≤ gb274)); replace HB := Aside0.mk (below_step bl_ hb); have NB273_274 := Aside0.mk ((by rw [hg]; exact Nat.ne_of_lt (blk_lt (g := gb273) (o := .cells #[.int .i64 a0_0, .int .i64 a0_1, .int .i64 a0_2, .int .i64 a0_3, .int .i64 a0_4, .int .i64 a0_5] 100 (0, 0)) (bk_ BK273.out)) : gb273 ≠ gb274)); have NB274_273 := Aside0.mk ((by rw [hg]; exact Nat.ne_of_gt (blk_lt (g := gb273) (o := .cells #[.int .i64 a0_0, .int .i64 a0_1, .int .i64 a0_2, .int .i64 a0_3, .int .i64 a0_4, .int .i64 a0_5] 100 (0, 0)) (bk_ BK273.out)) : gb274 ≠ gb273)); replace BK273 := Aside0.mk (blk_below (bn0_ BK273.out) hb); clear hb hbox hg; have hnb29 := NB273_274.out; have hnc29 := NB274_273.out; obtain ⟨hcz30_0, hcz30_1, hcz30_2, hcz30_3, hcz30_4, hcz30_5, hfz30_0, hfz30_1, hfz30_2, hfz30_3, hfz30_4, hfz30_5⟩ := cf6_ BK273.out; obtain ⟨hcz31_0, hcz31_1, hcz31_2, hcz31_3, hcz31_4, hcz31_5, hfz31_0, hfz31_1, hfz31_2, hfz31_3, hfz31_4, hfz31_5⟩ := cf6_ BK274.out) | ((with_reducible refine gate_callee (f := 135) rfl ?_); refine gs_ (some 14) Try.func135 #[.agg #[.int .i64 a0_1, .int .i64 a0_2], .agg #[.int .i64 a1_1, .int .i64 a1_2]] ?_; (with_reducible refine (laws_eqWide.calls a0_1 a0_2 a1_1 a1_2 true _ A4.out).mono ?_); rintro e w32 ⟨rfl, hb⟩; refine ⟨_, rfl, ?_⟩; replace BK273 := Aside0.mk (blk_below (bn0_ BK273.out) hb); replace BK274 := Aside0.mk (blk_below (bn0_ BK274.out) hb); replace HB := Aside0.mk (below_step bl_ hb); (try clear hb); obtain ⟨hcz33_0, hcz33_1, hcz33_2, hcz33_3, hcz33_4, hcz33_5, hfz33_0, hfz33_1, hfz33_2, hfz33_3, hfz33_4, hfz33_5⟩ := cf6_ BK273.out; obtain ⟨hcz34_0, hcz34_1, hcz34_2, hcz34_3, hcz34_4, hcz34_5, hfz34_0, hfz34_1, hfz34_2, hfz34_3, hfz34_4, hfz34_5⟩ := cf6_ BK274.out))
  go_ret
  exact ⟨er_, bl_⟩
 rw [if_pos c6] at H
 have c6b0 : (a0_3 == a1_3) = true := beq_iff_eq.mpr c6
 have c6b1 : (a0_3 != a1_3) = false := bne_eq_false_iff_eq.mpr c6
 clear c6
 replace H := bs_ H
 obtain ⟨t276, A7, H⟩ := H
 try dsimp only at H
 by_cases c8 : t276 = true
 ·subst c8
  rw [if_pos rfl] at H
  obtain rfl := Option.some.inj H
  go_enter Try.func148, Try.ntmps148
  go_wp2_with (first | ((with_reducible refine gate_dst (N := 2) rfl ?_); refine bx_ 2 100 #[.int .i64 a0_0, .int .i64 a0_1, .int .i64 a0_2, .int .i64 a0_3, .int .i64 a0_4, .int .i64 a0_5] ?_; intro gb273 hg w9 hbox hb; have BK273 := Aside0.mk (hbox); have GW273 := Aside0.mk ((hz_ : w.heap.size ≤ gb273)); have GE273 := Aside0.mk ((hz_ : w.heap.size ≤ gb273)); replace HB := Aside0.mk (below_step bl_ hb); clear hb hbox hg) | ((with_reducible refine gate_dst (N := 3) rfl ?_); refine bx_ 3 100 #[.int .i64 a1_0, .int .i64 a1_1, .int .i64 a1_2, .int .i64 a1_3, .int .i64 a1_4, .int .i64 a1_5] ?_; intro gb274 hg w10 hbox hb; have BK274 := Aside0.mk (hbox); have GW274 := Aside0.mk ((hz_ : w.heap.size ≤ gb274)); have GE274 := Aside0.mk ((hz_ : w.heap.size ≤ gb274)); replace HB := Aside0.mk (below_step bl_ hb); have NB273_274 := Aside0.mk ((by rw [hg]; exact Nat.ne_of_lt (blk_lt (g := gb273) (o := .cells #[.int .i64 a0_0, .int .i64 a0_1, .int .i64 a0_2, .int .i64 a0_3, .int .i64 a0_4, .int .i64 a0_5] 100 (0, 0)) (bk_ BK273.out)) : gb273 ≠ gb274)); have NB274_273 := Aside0.mk ((by rw [hg]; exact Nat.ne_of_gt (blk_lt (g := gb273) (o := .cells #[.int .i64 a0_0, .int .i64 a0_1, .int .i64 a0_2, .int .i64 a0_3, .int .i64 a0_4, .int .i64 a0_5] 100 (0, 0)) (bk_ BK273.out)) : gb274 ≠ gb273)); replace BK273 := Aside0.mk (blk_below (bn0_ BK273.out) hb); clear hb hbox hg; have hnb11 := NB273_274.out; have hnc11 := NB274_273.out; obtain ⟨hcz12_0, hcz12_1, hcz12_2, hcz12_3, hcz12_4, hcz12_5, hfz12_0, hfz12_1, hfz12_2, hfz12_3, hfz12_4, hfz12_5⟩ := cf6_ BK273.out; obtain ⟨hcz13_0, hcz13_1, hcz13_2, hcz13_3, hcz13_4, hcz13_5, hfz13_0, hfz13_1, hfz13_2, hfz13_3, hfz13_4, hfz13_5⟩ := cf6_ BK274.out) | ((with_reducible refine gate_callee (f := 135) rfl ?_); refine gs_ (some 14) Try.func135 #[.agg #[.int .i64 a0_1, .int .i64 a0_2], .agg #[.int .i64 a1_1, .int .i64 a1_2]] ?_; (with_reducible refine (laws_eqWide.calls a0_1 a0_2 a1_1 a1_2 true _ A4.out).mono ?_); rintro e w14 ⟨rfl, hb⟩; refine ⟨_, rfl, ?_⟩; replace BK273 := Aside0.mk (blk_below (bn0_ BK273.out) hb); replace BK274 := Aside0.mk (blk_below (bn0_ BK274.out) hb); replace HB := Aside0.mk (below_step bl_ hb); (try clear hb); obtain ⟨hcz15_0, hcz15_1, hcz15_2, hcz15_3, hcz15_4, hcz15_5, hfz15_0, hfz15_1, hfz15_2, hfz15_3, hfz15_4, hfz15_5⟩ := cf6_ BK273.out; obtain ⟨hcz16_0, hcz16_1, hcz16_2, hcz16_3, hcz16_4, hcz16_5, hfz16_0, hfz16_1, hfz16_2, hfz16_3, hfz16_4, hfz16_5⟩ := cf6_ BK274.out) | ((with_reducible refine gate_callee (f := 135) rfl ?_); refine gs_ (some 25) Try.func135 #[.agg #[.int .i64 a0_4, .int .i64 a0_5], .agg #[.int .i64 a1_4, .int .i64 a1_5]] ?_; (with_reducible refine (laws_eqWide.calls a0_4 a0_5 a1_4 a1_5 true _ A7.out).mono ?_); rintro e w17 ⟨rfl, hb⟩; refine ⟨_, rfl, ?_⟩; replace BK273 := Aside0.mk (blk_below (bn0_ BK273.out) hb); replace BK274 := Aside0.mk (blk_below (bn0_ BK274.out) hb); replace HB := Aside0.mk (below_step bl_ hb); (try clear hb)))
  go_ret
  exact ⟨er_, bl_⟩
 replace c8 := Bool.eq_false_iff.mpr c8
 subst c8
 rw [nf_] at H
 obtain rfl := Option.some.inj H
 go_enter Try.func148, Try.ntmps148
 go_wp2_with (first | ((with_reducible refine gate_dst (N := 2) rfl ?_); refine bx_ 2 100 #[.int .i64 a0_0, .int .i64 a0_1, .int .i64 a0_2, .int .i64 a0_3, .int .i64 a0_4, .int .i64 a0_5] ?_; intro gb273 hg w18 hbox hb; have BK273 := Aside0.mk (hbox); have GW273 := Aside0.mk ((hz_ : w.heap.size ≤ gb273)); have GE273 := Aside0.mk ((hz_ : w.heap.size ≤ gb273)); replace HB := Aside0.mk (below_step bl_ hb); clear hb hbox hg) | ((with_reducible refine gate_dst (N := 3) rfl ?_); refine bx_ 3 100 #[.int .i64 a1_0, .int .i64 a1_1, .int .i64 a1_2, .int .i64 a1_3, .int .i64 a1_4, .int .i64 a1_5] ?_; intro gb274 hg w19 hbox hb; have BK274 := Aside0.mk (hbox); have GW274 := Aside0.mk ((hz_ : w.heap.size ≤ gb274)); have GE274 := Aside0.mk ((hz_ : w.heap.size ≤ gb274)); replace HB := Aside0.mk (below_step bl_ hb); have NB273_274 := Aside0.mk ((by rw [hg]; exact Nat.ne_of_lt (blk_lt (g := gb273) (o := .cells #[.int .i64 a0_0, .int .i64 a0_1, .int .i64 a0_2, .int .i64 a0_3, .int .i64 a0_4, .int .i64 a0_5] 100 (0, 0)) (bk_ BK273.out)) : gb273 ≠ gb274)); have NB274_273 := Aside0.mk ((by rw [hg]; exact Nat.ne_of_gt (blk_lt (g := gb273) (o := .cells #[.int .i64 a0_0, .int .i64 a0_1, .int .i64 a0_2, .int .i64 a0_3, .int .i64 a0_4, .int .i64 a0_5] 100 (0, 0)) (bk_ BK273.out)) : gb274 ≠ gb273)); replace BK273 := Aside0.mk (blk_below (bn0_ BK273.out) hb); clear hb hbox hg; have hnb20 := NB273_274.out; have hnc20 := NB274_273.out; obtain ⟨hcz21_0, hcz21_1, hcz21_2, hcz21_3, hcz21_4, hcz21_5, hfz21_0, hfz21_1, hfz21_2, hfz21_3, hfz21_4, hfz21_5⟩ := cf6_ BK273.out; obtain ⟨hcz22_0, hcz22_1, hcz22_2, hcz22_3, hcz22_4, hcz22_5, hfz22_0, hfz22_1, hfz22_2, hfz22_3, hfz22_4, hfz22_5⟩ := cf6_ BK274.out) | ((with_reducible refine gate_callee (f := 135) rfl ?_); refine gs_ (some 14) Try.func135 #[.agg #[.int .i64 a0_1, .int .i64 a0_2], .agg #[.int .i64 a1_1, .int .i64 a1_2]] ?_; (with_reducible refine (laws_eqWide.calls a0_1 a0_2 a1_1 a1_2 true _ A4.out).mono ?_); rintro e w23 ⟨rfl, hb⟩; refine ⟨_, rfl, ?_⟩; replace BK273 := Aside0.mk (blk_below (bn0_ BK273.out) hb); replace BK274 := Aside0.mk (blk_below (bn0_ BK274.out) hb); replace HB := Aside0.mk (below_step bl_ hb); (try clear hb); obtain ⟨hcz24_0, hcz24_1, hcz24_2, hcz24_3, hcz24_4, hcz24_5, hfz24_0, hfz24_1, hfz24_2, hfz24_3, hfz24_4, hfz24_5⟩ := cf6_ BK273.out; obtain ⟨hcz25_0, hcz25_1, hcz25_2, hcz25_3, hcz25_4, hcz25_5, hfz25_0, hfz25_1, hfz25_2, hfz25_3, hfz25_4, hfz25_5⟩ := cf6_ BK274.out) | ((with_reducible refine gate_callee (f := 135) rfl ?_); refine gs_ (some 25) Try.func135 #[.agg #[.int .i64 a0_4, .int .i64 a0_5], .agg #[.int .i64 a1_4, .int .i64 a1_5]] ?_; (with_reducible refine (laws_eqWide.calls a0_4 a0_5 a1_4 a1_5 false _ A7.out).mono ?_); rintro e w26 ⟨rfl, hb⟩; refine ⟨_, rfl, ?_⟩; replace BK273 := Aside0.mk (blk_below (bn0_ BK273.out) hb); replace BK274 := Aside0.mk (blk_below (bn0_ BK274.out) hb); replace HB := Aside0.mk (below_step bl_ hb); (try clear hb)))
 go_ret
 exact ⟨er_, bl_⟩

end Go.Proofs.Ytjfmpodeenidnaa.PB
