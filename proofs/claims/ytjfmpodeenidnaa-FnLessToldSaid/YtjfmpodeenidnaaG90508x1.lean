/- Contracts of functions of the program and of the reference, and plain lemmas on what they compute. No condition. -/
import Derived.Test.YtjfmpodeenidnaaG90508x0
import Derived.Test.YtjfmpodeenidnaaProg
import Derived.Below
import Derived.Deep.Draws
import Derived.Deep.AppendLies
import Derived.Maps.AppendAt
import Derived.OwnWalk
import Derived.Laws.BytesArg
import Derived.Laws.MakeOwn
import Derived.Laws.OwnMore
import Derived.Deep.OwnRows
import Derived.Tactics
import Derived.Lib.ConvBytes
import Derived.Laws.Slices
import Derived.WalkKit
import Derived.KernelRfl
import Derived.RowKit3
import Derived.Deep.LoopGhost
import Derived.Deep.QuietTactic
import Derived.BigQuiet
import Derived.WideLaws
import Derived.Deep.DeepCutAuto
import Derived.Deep.CutBlock
import Derived.Deep.RegionHeld3
import Derived.Laws.Rows
import Derived.Lib.AppendStr
import Derived.ArgAppend
import Derived.Laws.IdiomCopy
import Derived.OrdersHeld
import Derived.Laws.BitsLemmas
import Derived.RowKit
import Derived.Test.YtjfmpodeenidnaaV0
import Derived.Test.YtjfmpodeenidnaaGd23b7x0
import Derived.Lib.RowBridge
import Derived.Test.YtjfmpodeenidnaaShortV
set_option maxHeartbeats 8000000
set_option maxRecDepth 100000
namespace Go.Proofs.Ytjfmpodeenidnaa.PC
open Go.RowKit Go.Proofs.Ytjfmpodeenidnaa.Short Go.Proofs.YtjfmpodeenidnaaW.PrintWords Go.Proofs.YtjfmpodeenidnaaW.PrintLast Go.Proofs.YtjfmpodeenidnaaW.PrintMore
attribute [local go_sem] max2_int min2_int max_two min_two max_three min_three max_four min_four   -- for this text's walks alone
set_option linter.unusedVariables false
set_option linter.unusedSimpArgs false

def impl_CondOk.f (a0_0 : Int) (a0_1 : Int) (a0_2 : Int) (a0_3 : Int) (a0_4 : Int) (a0_5 : Int) : Option (Bool) := (impl_within.f a0_0 0 2).bind fun t169 => (if t169 = true then ((impl_WideOk.f a0_1 a0_2).bind fun t170 => (if t170 = true then ((impl_WideOk.f a0_4 a0_5).bind fun t171 => (if t171 = true then ((impl_within.f a0_3 1 6).bind fun t172 => (some t172)) else (some false))) else (some false))) else (some false))
theorem impl_CondOk.calls (a0_0 : Int) (a0_1 : Int) (a0_2 : Int) (a0_3 : Int) (a0_4 : Int) (a0_5 : Int) (r : Bool) (w : World) (h : impl_CondOk.f a0_0 a0_1 a0_2 a0_3 a0_4 a0_5 = some r) :
 Calls Try.prog 124 #[.agg #[.int .i64 a0_0, .int .i64 a0_1, .int .i64 a0_2, .int .i64 a0_3, .int .i64 a0_4, .int .i64 a0_5]] w fun e w' => e = .returned (.bool r) ∧ Below w.heap.size w w' := by
 have hu100 := Try.underlying100
 have hu98 := Try.underlying98
 have HB := Aside0.mk (Below.refl w.heap.size w)
 have H := h
 unfold impl_CondOk.f at H
 clear h
 replace H := bs_ H
 obtain ⟨t169, A2, H⟩ := H
 try dsimp only at H
 by_cases c3 : t169 = true
 rotate_left
 ·replace c3 := Bool.eq_false_iff.mpr c3
  subst c3
  rw [nf_] at H
  obtain rfl := Option.some.inj H
  go_enter Try.func124, Try.ntmps124
  go_wp2_with (first | ((with_reducible refine gate_dst (N := 1) rfl ?_); refine bx_ 1 100 #[.int .i64 a0_0, .int .i64 a0_1, .int .i64 a0_2, .int .i64 a0_3, .int .i64 a0_4, .int .i64 a0_5] ?_; intro gb168 hg w23 hbox hb; have BK168 := Aside0.mk (hbox); have GW168 := Aside0.mk ((hz_ : w.heap.size ≤ gb168)); have GE168 := GW168; replace HB := Aside0.mk (below_step bl_ hb); clear hb hbox hg; obtain ⟨hcz24_0, hcz24_1, hcz24_2, hcz24_3, hcz24_4, hcz24_5, hfz24_0, hfz24_1, hfz24_2, hfz24_3, hfz24_4, hfz24_5⟩ := cf6_ BK168.out) | ((with_reducible refine gate_callee (f := 89) rfl ?_); refine gs_ (some 5) Try.func89 #[.int .i64 a0_0, .int .i64 0, .int .i64 2] ?_; (with_reducible refine (impl_within.calls a0_0 0 2 false _ A2.out).mono ?_); rintro e w' ⟨rfl, ⟨nd, rfl⟩⟩; refine ⟨_, rfl, ?_⟩))
  go_ret
  exact ⟨er_, bl_⟩
 subst c3
 rw [if_pos rfl] at H
 replace H := bs_ H
 obtain ⟨t170, A4, H⟩ := H
 try dsimp only at H
 by_cases c5 : t170 = true
 rotate_left
 ·replace c5 := Bool.eq_false_iff.mpr c5
  subst c5
  rw [nf_] at H
  obtain rfl := Option.some.inj H
  go_enter Try.func124, Try.ntmps124
  go_wp2_with (first | ((with_reducible refine gate_dst (N := 1) rfl ?_); refine bx_ 1 100 #[.int .i64 a0_0, .int .i64 a0_1, .int .i64 a0_2, .int .i64 a0_3, .int .i64 a0_4, .int .i64 a0_5] ?_; intro gb168 hg w20 hbox hb; have BK168 := Aside0.mk (hbox); have GW168 := Aside0.mk ((hz_ : w.heap.size ≤ gb168)); have GE168 := GW168; replace HB := Aside0.mk (below_step bl_ hb); clear hb hbox hg; obtain ⟨hcz21_0, hcz21_1, hcz21_2, hcz21_3, hcz21_4, hcz21_5, hfz21_0, hfz21_1, hfz21_2, hfz21_3, hfz21_4, hfz21_5⟩ := cf6_ BK168.out) | ((with_reducible refine gate_callee (f := 89) rfl ?_); refine gs_ (some 5) Try.func89 #[.int .i64 a0_0, .int .i64 0, .int .i64 2] ?_; (with_reducible refine (impl_within.calls a0_0 0 2 true _ A2.out).mono ?_); rintro e w' ⟨rfl, ⟨nd, rfl⟩⟩; refine ⟨_, rfl, ?_⟩) | (go_at_call 134; (with_reducible refine (impl_WideOk.calls a0_1 a0_2 false _ A4.out).mono ?_); rintro e w22 ⟨rfl, hb⟩; replace BK168 := bb0_ BK168.out hb; replace HB := Aside0.mk (below_step bl_ hb); (try clear hb)))
  go_ret
  exact ⟨er_, bl_⟩
 subst c5
 rw [if_pos rfl] at H
 replace H := bs_ H
 obtain ⟨t171, A6, H⟩ := H
 try dsimp only at H
 by_cases c7 : t171 = true
 rotate_left
 ·replace c7 := Bool.eq_false_iff.mpr c7
  subst c7
  rw [nf_] at H
  obtain rfl := Option.some.inj H
  go_enter Try.func124, Try.ntmps124
  go_wp2_with (first | ((with_reducible refine gate_dst (N := 1) rfl ?_); refine bx_ 1 100 #[.int .i64 a0_0, .int .i64 a0_1, .int .i64 a0_2, .int .i64 a0_3, .int .i64 a0_4, .int .i64 a0_5] ?_; intro gb168 hg w15 hbox hb; have BK168 := Aside0.mk (hbox); have GW168 := Aside0.mk ((hz_ : w.heap.size ≤ gb168)); have GE168 := GW168; replace HB := Aside0.mk (below_step bl_ hb); clear hb hbox hg; obtain ⟨hcz16_0, hcz16_1, hcz16_2, hcz16_3, hcz16_4, hcz16_5, hfz16_0, hfz16_1, hfz16_2, hfz16_3, hfz16_4, hfz16_5⟩ := cf6_ BK168.out) | ((with_reducible refine gate_callee (f := 89) rfl ?_); refine gs_ (some 5) Try.func89 #[.int .i64 a0_0, .int .i64 0, .int .i64 2] ?_; (with_reducible refine (impl_within.calls a0_0 0 2 true _ A2.out).mono ?_); rintro e w' ⟨rfl, ⟨nd, rfl⟩⟩; refine ⟨_, rfl, ?_⟩) | (go_at_call 134; (with_reducible refine (impl_WideOk.calls a0_1 a0_2 true _ A4.out).mono ?_); rintro e w17 ⟨rfl, hb⟩; replace BK168 := bb0_ BK168.out hb; replace HB := Aside0.mk (below_step bl_ hb); obtain ⟨hcz18_0, hcz18_1, hcz18_2, hcz18_3, hcz18_4, hcz18_5, hfz18_0, hfz18_1, hfz18_2, hfz18_3, hfz18_4, hfz18_5⟩ := cf6_ BK168.out) | (go_at_call 134; (with_reducible refine (impl_WideOk.calls a0_4 a0_5 false _ A6.out).mono ?_); rintro e w19 ⟨rfl, hb⟩; replace BK168 := bb0_ BK168.out hb; replace HB := Aside0.mk (below_step bl_ hb); (try clear hb)))
  go_ret
  exact ⟨er_, bl_⟩
 subst c7
 rw [if_pos rfl] at H
 replace H := bs_ H
 obtain ⟨t172, A8, H⟩ := H
 try dsimp only at H
 obtain rfl := Option.some.inj H
 go_enter Try.func124, Try.ntmps124
 go_wp2_with (first | ((with_reducible refine gate_dst (N := 1) rfl ?_); refine bx_ 1 100 #[.int .i64 a0_0, .int .i64 a0_1, .int .i64 a0_2, .int .i64 a0_3, .int .i64 a0_4, .int .i64 a0_5] ?_; intro gb168 hg w9 hbox hb; have BK168 := Aside0.mk (hbox); have GW168 := Aside0.mk ((hz_ : w.heap.size ≤ gb168)); have GE168 := GW168; replace HB := Aside0.mk (below_step bl_ hb); clear hb hbox hg; obtain ⟨hcz10_0, hcz10_1, hcz10_2, hcz10_3, hcz10_4, hcz10_5, hfz10_0, hfz10_1, hfz10_2, hfz10_3, hfz10_4, hfz10_5⟩ := cf6_ BK168.out) | ((with_reducible refine gate_callee (f := 89) rfl ?_); refine gs_ (some 5) Try.func89 #[.int .i64 a0_0, .int .i64 0, .int .i64 2] ?_; (with_reducible refine (impl_within.calls a0_0 0 2 true _ A2.out).mono ?_); rintro e w' ⟨rfl, ⟨nd, rfl⟩⟩; refine ⟨_, rfl, ?_⟩) | (go_at_call 134; (with_reducible refine (impl_WideOk.calls a0_1 a0_2 true _ A4.out).mono ?_); rintro e w11 ⟨rfl, hb⟩; replace BK168 := bb0_ BK168.out hb; replace HB := Aside0.mk (below_step bl_ hb); obtain ⟨hcz12_0, hcz12_1, hcz12_2, hcz12_3, hcz12_4, hcz12_5, hfz12_0, hfz12_1, hfz12_2, hfz12_3, hfz12_4, hfz12_5⟩ := cf6_ BK168.out) | (go_at_call 134; (with_reducible refine (impl_WideOk.calls a0_4 a0_5 true _ A6.out).mono ?_); rintro e w13 ⟨rfl, hb⟩; replace BK168 := bb0_ BK168.out hb; replace HB := Aside0.mk (below_step bl_ hb); obtain ⟨hcz14_0, hcz14_1, hcz14_2, hcz14_3, hcz14_4, hcz14_5, hfz14_0, hfz14_1, hfz14_2, hfz14_3, hfz14_4, hfz14_5⟩ := cf6_ BK168.out) | (go_at_call 89; (with_reducible refine (impl_within.calls a0_3 1 6 t172 _ A8.out).mono ?_); rintro e w' ⟨rfl, ⟨nd, rfl⟩⟩))
 go_ret
 exact ⟨er_, bl_⟩


mutual
def impl_ruleOk.l0 : Nat → List Int → Int → Int → List Int → List (S100) → Int → Int → Option (Bool)
 | 0, _, _, _, _, _, _, _ => none
 | k + 1, x8, x9, x10, x174000, x174001, x174002, x174003 => if x10 < x9 then (if 0 ≤ x10 then (if x10 < (x8.length : Int) then ((impl_HalfOk.f (rd x8 x10)).bind fun t175 => (if t175 = true then (if x10 > 0 then (if 0 ≤ (wrap64 (x10 - 1)) then (if (wrap64 (x10 - 1)) < (x174000.length : Int) then (if (rd x174000 (wrap64 (x10 - 1))) ≥ (rd x8 x10) then (some false) else (impl_ruleOk.l0 k x8 x9 (wrap64 (x10 + 1)) x174000 x174001 x174002 x174003)) else (none)) else (none)) else (impl_ruleOk.l0 k x8 x9 (wrap64 (x10 + 1)) x174000 x174001 x174002 x174003)) else (some false))) else (none)) else (none)) else (impl_ruleOk.l1 k x174001 (x174001.length : Int) 0 x174000 x174001 x174002 x174003)
def impl_ruleOk.l1 : Nat → List (S100) → Int → Int → List Int → List (S100) → Int → Int → Option (Bool)
 | 0, _, _, _, _, _, _, _ => none
 | k + 1, x34, x35, x36, x174000, x174001, x174002, x174003 => if x36 < x35 then (if 0 ≤ x36 then (if x36 < (x34.length : Int) then ((impl_CondOk.f ((rd_T100 x34 x36).f0) ((rd_T100 x34 x36).f1.f0) ((rd_T100 x34 x36).f1.f1) ((rd_T100 x34 x36).f2) ((rd_T100 x34 x36).f3.f0) ((rd_T100 x34 x36).f3.f1)).bind fun t179 => (if t179 = true then (impl_ruleOk.l1 k x34 x35 (wrap64 (x36 + 1)) x174000 x174001 x174002 x174003) else (some false))) else (none)) else (none)) else (if (x174000.length : Int) ≤ 4 then (if (x174001.length : Int) ≤ 3 then ((impl_actionOk.f x174002 x174003).bind fun t180 => (some t180)) else (some false)) else (some false))
end
def impl_ruleOk.f (k : Nat) (l0_0 : List Int) (l0_1 : List (S100)) (a0_2 : Int) (a0_3 : Int) : Option (Bool) := impl_ruleOk.l0 k l0_0 (l0_0.length : Int) 0 l0_0 l0_1 a0_2 a0_3
theorem impl_ruleOk.mono_l : ∀ k, (∀ y0 y1 y2 y3 y4 y5 y6, LeO (impl_ruleOk.l0 k y0 y1 y2 y3 y4 y5 y6) (impl_ruleOk.l0 (k + 1) y0 y1 y2 y3 y4 y5 y6)) ∧ (∀ y0 y1 y2 y3 y4 y5 y6, LeO (impl_ruleOk.l1 k y0 y1 y2 y3 y4 y5 y6) (impl_ruleOk.l1 (k + 1) y0 y1 y2 y3 y4 y5 y6))
 | 0 => ⟨fun _ _ _ _ _ _ _ r h => by simp [impl_ruleOk.l0] at h, fun _ _ _ _ _ _ _ r h => by simp [impl_ruleOk.l1] at h⟩
 | k + 1 => by
  obtain ⟨ih0, ih1⟩ := impl_ruleOk.mono_l k
  refine ⟨?_, ?_⟩
  ·intro y0 y1 y2 y3 y4 y5 y6
   unfold impl_ruleOk.l0
   exact mo_
  ·intro y0 y1 y2 y3 y4 y5 y6
   unfold impl_ruleOk.l1
   exact mo_
theorem impl_ruleOk.mono : ∀ a0 a1 a2 a3 k, LeO (impl_ruleOk.f k a0 a1 a2 a3) (impl_ruleOk.f (k + 1) a0 a1 a2 a3) := by
 intro a0 a1 a2 a3 k
 obtain ⟨ih0, ih1⟩ := impl_ruleOk.mono_l k
 unfold impl_ruleOk.f
 exact mo_
theorem impl_ruleOk.calls (k : Nat) (A0_0 : Option Addr) (c0_0 : Nat) (l0_0 : List Int) (A0_1 : Option Addr) (c0_1 : Nat) (l0_1 : List (S100)) (a0_2 : Int) (a0_3 : Int) (r : Bool) (w : World) (hr0_0 : Kd.C (Kd.int .i64) w A0_0 l0_0.length l0_0) (hc0_0 : l0_0.length ≤ c0_0) (hr0_1 : Kd.C k100 w A0_1 l0_1.length l0_1) (hc0_1 : l0_1.length ≤ c0_1) (h : impl_ruleOk.f k l0_0 l0_1 a0_2 a0_3 = some r) :
 Calls Try.prog 97 #[.agg #[.slice A0_0 l0_0.length c0_0, .slice A0_1 l0_1.length c0_1, .int .i64 a0_2, .int .i64 a0_3]] w fun e w' => e = .returned (.bool r) ∧ Below w.heap.size w w' := by
 have hu53 := Try.underlying53
 have hu100 := Try.underlying100
 have HR0_0 := Aside0.mk hr0_0
 have HC0_0 := Aside0.mk hc0_0
 clear hr0_0 hc0_0
 have HR0_1 := Aside0.mk hr0_1
 have HC0_1 := Aside0.mk hc0_1
 clear hr0_1 hc0_1
 have HB := Aside0.mk (Below.refl w.heap.size w)
 have H := h
 unfold impl_ruleOk.f at H
 clear h
 have H' := Aside0.mk H
 clear H
 go_enter Try.func97, Try.ntmps97
 go_wp2_with (first | ((with_reducible refine gate_dst (N := 1) rfl ?_); (try (refine gate_guard (by rfl) ?_; dsimp only)); refine bx_ 1 53 #[.slice A0_0 l0_0.length c0_0, .slice A0_1 l0_1.length c0_1, .int .i64 a0_2, .int .i64 a0_3] ?_; intro gb173 hg w2 hbox hb; have BK173 := Aside0.mk (hbox); have GW173 := Aside0.mk ((hz_ : w.heap.size ≤ gb173)); have GE173 := GW173; replace HB := Aside0.mk (below_step bl_ hb); clear hb hbox hg; obtain ⟨hcz3_0, hcz3_1, hcz3_2, hcz3_3, hfz3_0, hfz3_1, hfz3_2, hfz3_3⟩ := cf4_ BK173.out))
 go_loopg [10] k (fun kq v10 w' => ∃ (x10_1 : Int), v10 = .int .i64 x10_1 ∧ Aside0 (impl_ruleOk.l0 kq l0_0 (l0_0.length : Int) x10_1 l0_0 l0_1 a0_2 a0_3 = some r) ∧ Aside0 (kq ≤ k) ∧ Aside0 (w'.heap[gb173]? = some (.cells #[(.slice A0_0 l0_0.length c0_0), (.slice A0_1 l0_1.length c0_1), .int .i64 a0_2, .int .i64 a0_3] 53 (0, 0))) ∧ Aside0 (Below w.heap.size w w'))
 case atStart => exact ⟨(0), (sr_), H', ⟨Nat.le_refl _⟩, ⟨bk_ BK173.out⟩, ⟨bl_⟩⟩
 clear H'
 try clear hcz3_0
 try clear hcz3_1
 try clear hcz3_2
 try clear hcz3_3
 try clear hfz3_0
 try clear hfz3_1
 try clear hfz3_2
 try clear hfz3_3
 obtain ⟨x10_1, rfl, HA, HK1, BK173, HB⟩ := hrel
 cases gk with
 | zero => exact absurd HA.out (by simp [impl_ruleOk.l0])
 | succ k1 => ?_
 have H := HA.out
 clear HA
 simp only [impl_ruleOk.l0] at H
 by_cases c4 : x10_1 < (l0_0.length : Int)
 ·rw [if_pos c4] at H
  have c4b0 := decide_eq_true c4
  clear c4
  by_cases c5 : 0 ≤ x10_1
  rotate_left
  ·exact nn_ c5 H
  rw [if_pos c5] at H
  have c5b0 := decide_eq_true c5
  clear c5
  by_cases c6 : x10_1 < (l0_0.length : Int)
  rotate_left
  ·exact nn_ c6 H
  rw [if_pos c6] at H
  have c6b0 := decide_eq_true c6
  clear c6
  replace H := bs_ H
  obtain ⟨t175, A7, H⟩ := H
  try dsimp only at H
  by_cases c8 : t175 = true
  rotate_left
  ·replace c8 := Bool.eq_false_iff.mpr c8
   subst c8
   rw [nf_] at H
   obtain rfl := Option.some.inj H
   have p174 : 0 ≤ (x10_1 : Int) := of_decide_eq_true as_
   have q174 : x10_1 < (l0_0.length : Int) := of_decide_eq_true as_
   obtain ⟨ad174, e174, hx174_0⟩ := Kd.at_int HR0_0.out x10_1 p174 q174
   cases e174
   replace hx174_0 := (HB.out.cell (World.block_lt_of_cell? w _ hx174_0)).trans hx174_0
   replace p174 := eq_true p174
   replace q174 := eq_true q174
   go_wp2_with (first | ((with_reducible refine gate_callee (f := 98) rfl ?_); refine gs_ (some 16) Try.func98 #[.int .i64 (rd l0_0 x10_1)] ?_; (with_reducible refine (impl_HalfOk.calls (rd l0_0 x10_1) false _ A7.out).mono ?_); rintro e w' ⟨rfl, ⟨nd, rfl⟩⟩; refine ⟨_, rfl, ?_⟩))
   go_ret
   exact ⟨er_, bl_⟩
  subst c8
  rw [if_pos rfl] at H
  by_cases c9 : x10_1 > 0
  rotate_left
  ·rw [if_neg c9] at H
   have c9b0 := decide_eq_false c9
   clear c9
   have H' := Aside0.mk H
   clear H
   have p174 : 0 ≤ (x10_1 : Int) := of_decide_eq_true as_
   have q174 : x10_1 < (l0_0.length : Int) := of_decide_eq_true as_
   obtain ⟨ad174, e174, hx174_0⟩ := Kd.at_int HR0_0.out x10_1 p174 q174
   cases e174
   replace hx174_0 := (HB.out.cell (World.block_lt_of_cell? w _ hx174_0)).trans hx174_0
   replace p174 := eq_true p174
   replace q174 := eq_true q174
   go_wp2_with (first | ((with_reducible refine gate_callee (f := 98) rfl ?_); refine gs_ (some 16) Try.func98 #[.int .i64 (rd l0_0 x10_1)] ?_; (with_reducible refine (impl_HalfOk.calls (rd l0_0 x10_1) true _ A7.out).mono ?_); rintro e w' ⟨rfl, ⟨nd, rfl⟩⟩; refine ⟨_, rfl, ?_⟩))
   go_roundg k1
   case measure => have := HK1.out; omega
   case rel => exact ⟨(wrap64 (x10_1 + 1)), (sr_), H', ⟨by have := HK1.out; omega⟩, ⟨bk_ BK173.out⟩, ⟨bl_⟩⟩
  rw [if_pos c9] at H
  have c9b0 := decide_eq_true c9
  clear c9
  obtain ⟨ji10, hji10⟩ : ∃ j_ : Int, (wrap64 (x10_1 - 1)) = j_ := ⟨_, rfl⟩
  replace H : (if 0 ≤ (ji10) then (if (ji10) < (l0_0.length : Int) then (if (rd l0_0 (ji10)) ≥ (rd l0_0 x10_1) then (some false) else (impl_ruleOk.l0 k1 l0_0 (l0_0.length : Int) (wrap64 (x10_1 + 1)) l0_0 l0_1 a0_2 a0_3)) else (none)) else (none)) = some r := by first | (rw [hji10] at H; exact H) | (simp only [hji10] at H ⊢; exact H)
  (try rw [hji10] at A7)
  have hji10w : (IntKind.i64.wrap (x10_1 - 1)) = ji10 := (i64_w _).trans hji10
  by_cases c11 : 0 ≤ (ji10)
  rotate_left
  ·exact nn_ c11 H
  rw [if_pos c11] at H
  have c11b0 := decide_eq_true c11
  clear c11
  by_cases c12 : (ji10) < (l0_0.length : Int)
  rotate_left
  ·exact nn_ c12 H
  rw [if_pos c12] at H
  have c12b0 := decide_eq_true c12
  clear c12
  by_cases c13 : (rd l0_0 (ji10)) ≥ (rd l0_0 x10_1)
  ·rw [if_pos c13] at H
   have c13b0 := decide_eq_true c13
   clear c13
   obtain rfl := Option.some.inj H
   have p174 : 0 ≤ (x10_1 : Int) := of_decide_eq_true as_
   have q174 : x10_1 < (l0_0.length : Int) := of_decide_eq_true as_
   obtain ⟨ad174, e174, hx174_0⟩ := Kd.at_int HR0_0.out x10_1 p174 q174
   cases e174
   replace hx174_0 := (HB.out.cell (World.block_lt_of_cell? w _ hx174_0)).trans hx174_0
   replace p174 := eq_true p174
   replace q174 := eq_true q174
   go_wp2_with (first | ((with_reducible refine gate_callee (f := 98) rfl ?_); refine gs_ (some 16) Try.func98 #[.int .i64 (rd l0_0 x10_1)] ?_; (with_reducible refine (impl_HalfOk.calls (rd l0_0 x10_1) true _ A7.out).mono ?_); rintro e w' ⟨rfl, ⟨nd, rfl⟩⟩; refine ⟨_, rfl, ?_⟩; obtain ⟨hcz14_0, hcz14_1, hcz14_2, hcz14_3, hfz14_0, hfz14_1, hfz14_2, hfz14_3⟩ := cf4_ BK173.out; have p176 : 0 ≤ ((ji10) : Int) := of_decide_eq_true as_; have q176 : (ji10) < (l0_0.length : Int) := of_decide_eq_true as_; obtain ⟨ad176, e176, hx176_0⟩ := Kd.at_int HR0_0.out (ji10) p176 q176; obtain rfl : ad174 = ad176 := (by injection e176); replace hx176_0 := (HB.out.cell (World.block_lt_of_cell? w _ hx176_0)).trans hx176_0; replace p176 := eq_true p176; replace q176 := eq_true q176))
   go_ret
   exact ⟨by first | rfl | (simp [errW_none, errW_some] <;> rfl) | (simp only [← hji10]; first | rfl | (simp [errW_none, errW_some] <;> rfl)) | (simp [*, errW_none, errW_some] <;> rfl) | exact False.elim (Bool.noConfusion ((decide_eq_true (of_eq_true (by assumption))).symm.trans (by assumption))), bl_⟩
  rw [if_neg c13] at H
  have c13b0 := decide_eq_false c13
  clear c13
  have H' := Aside0.mk H
  clear H
  have p174 : 0 ≤ (x10_1 : Int) := of_decide_eq_true as_
  have q174 : x10_1 < (l0_0.length : Int) := of_decide_eq_true as_
  obtain ⟨ad174, e174, hx174_0⟩ := Kd.at_int HR0_0.out x10_1 p174 q174
  cases e174
  replace hx174_0 := (HB.out.cell (World.block_lt_of_cell? w _ hx174_0)).trans hx174_0
  replace p174 := eq_true p174
  replace q174 := eq_true q174
  go_wp2_with (first | ((with_reducible refine gate_callee (f := 98) rfl ?_); refine gs_ (some 16) Try.func98 #[.int .i64 (rd l0_0 x10_1)] ?_; (with_reducible refine (impl_HalfOk.calls (rd l0_0 x10_1) true _ A7.out).mono ?_); rintro e w' ⟨rfl, ⟨nd, rfl⟩⟩; refine ⟨_, rfl, ?_⟩; obtain ⟨hcz15_0, hcz15_1, hcz15_2, hcz15_3, hfz15_0, hfz15_1, hfz15_2, hfz15_3⟩ := cf4_ BK173.out; have p176 : 0 ≤ ((ji10) : Int) := of_decide_eq_true as_; have q176 : (ji10) < (l0_0.length : Int) := of_decide_eq_true as_; obtain ⟨ad176, e176, hx176_0⟩ := Kd.at_int HR0_0.out (ji10) p176 q176; obtain rfl : ad174 = ad176 := (by injection e176); replace hx176_0 := (HB.out.cell (World.block_lt_of_cell? w _ hx176_0)).trans hx176_0; replace p176 := eq_true p176; replace q176 := eq_true q176))
  go_roundg k1
  case measure => have := HK1.out; omega
  case rel => exact ⟨(wrap64 (x10_1 + 1)), (sr_), H', ⟨by have := HK1.out; omega⟩, ⟨bk_ BK173.out⟩, ⟨bl_⟩⟩
 rw [if_neg c4] at H
 have c4b0 := decide_eq_false c4
 clear c4
 have H' := Aside0.mk H
 clear H
 obtain ⟨hcz16_0, hcz16_1, hcz16_2, hcz16_3, hfz16_0, hfz16_1, hfz16_2, hfz16_3⟩ := cf4_ BK173.out
 go_wp2
 go_loopg [36] k1 (fun kq v36 w' => ∃ (x36_2 : Int), v36 = .int .i64 x36_2 ∧ Aside0 (impl_ruleOk.l1 kq l0_1 (l0_1.length : Int) x36_2 l0_0 l0_1 a0_2 a0_3 = some r) ∧ Aside0 (kq ≤ k1) ∧ Aside0 (w'.heap[gb173]? = some (.cells #[(.slice A0_0 l0_0.length c0_0), (.slice A0_1 l0_1.length c0_1), .int .i64 a0_2, .int .i64 a0_3] 53 (0, 0))) ∧ Aside0 (Below w.heap.size w w'))
 case atStart => exact ⟨(0), (sr_), H', ⟨Nat.le_refl _⟩, ⟨bk_ BK173.out⟩, ⟨bl_⟩⟩
 clear H'
 try clear c4
 try clear c4b0
 try clear hcz16_0
 try clear hcz16_1
 try clear hcz16_2
 try clear hcz16_3
 try clear hcz3_0
 try clear hcz3_1
 try clear hcz3_2
 try clear hcz3_3
 try clear hfz16_0
 try clear hfz16_1
 try clear hfz16_2
 try clear hfz16_3
 try clear hfz3_0
 try clear hfz3_1
 try clear hfz3_2
 try clear hfz3_3
 obtain ⟨x36_2, rfl, HA, HK2, BK173, HB⟩ := hrel
 cases gk with
 | zero => exact absurd HA.out (by simp [impl_ruleOk.l1])
 | succ k2 => ?_
 have H := HA.out
 clear HA
 simp only [impl_ruleOk.l1] at H
 by_cases c17 : x36_2 < (l0_1.length : Int)
 rotate_left
 ·rw [if_neg c17] at H
  have c17b0 := decide_eq_false c17
  clear c17
  by_cases c30 : (l0_0.length : Int) ≤ 4
  rotate_left
  ·rw [if_neg c30] at H
   have c30b0 := decide_eq_false c30
   have c30b1 : decide (l0_0.length ≤ 4) = false := decide_eq_false (by omega)
   clear c30
   obtain rfl := Option.some.inj H
   obtain ⟨hcz35_0, hcz35_1, hcz35_2, hcz35_3, hfz35_0, hfz35_1, hfz35_2, hfz35_3⟩ := cf4_ BK173.out
   go_wp2
   go_ret
   exact ⟨er_, bl_⟩
  rw [if_pos c30] at H
  have c30b0 := decide_eq_true c30
  have c30b1 : decide (l0_0.length ≤ 4) = true := decide_eq_true (by omega)
  clear c30
  by_cases c31 : (l0_1.length : Int) ≤ 3
  rotate_left
  ·rw [if_neg c31] at H
   have c31b0 := decide_eq_false c31
   have c31b1 : decide (l0_1.length ≤ 3) = false := decide_eq_false (by omega)
   clear c31
   obtain rfl := Option.some.inj H
   obtain ⟨hcz34_0, hcz34_1, hcz34_2, hcz34_3, hfz34_0, hfz34_1, hfz34_2, hfz34_3⟩ := cf4_ BK173.out
   go_wp2
   go_ret
   exact ⟨er_, bl_⟩
  rw [if_pos c31] at H
  have c31b0 := decide_eq_true c31
  have c31b1 : decide (l0_1.length ≤ 3) = true := decide_eq_true (by omega)
  clear c31
  replace H := bs_ H
  obtain ⟨t180, A32, H⟩ := H
  try dsimp only at H
  obtain rfl := Option.some.inj H
  obtain ⟨hcz33_0, hcz33_1, hcz33_2, hcz33_3, hfz33_0, hfz33_1, hfz33_2, hfz33_3⟩ := cf4_ BK173.out
  go_wp2_with (first | (go_at_call 99; (with_reducible refine (impl_actionOk.calls a0_2 a0_3 t180 _ A32.out).mono ?_); rintro e w' ⟨rfl, ⟨nd, rfl⟩⟩))
  go_ret
  exact ⟨er_, bl_⟩
 rw [if_pos c17] at H
 have c17b0 := decide_eq_true c17
 clear c17
 by_cases c18 : 0 ≤ x36_2
 rotate_left
 ·exact nn_ c18 H
 rw [if_pos c18] at H
 have c18b0 := decide_eq_true c18
 clear c18
 by_cases c19 : x36_2 < (l0_1.length : Int)
 rotate_left
 ·exact nn_ c19 H
 rw [if_pos c19] at H
 have c19b0 := decide_eq_true c19
 clear c19
 replace H := bs_ H
 obtain ⟨t179, A20, H⟩ := H
 try dsimp only at H
 by_cases c21 : t179 = true
 rotate_left
 ·replace c21 := Bool.eq_false_iff.mpr c21
  subst c21
  rw [nf_] at H
  obtain rfl := Option.some.inj H
  have p177 : 0 ≤ (x36_2 : Int) := of_decide_eq_true as_
  have q177 : x36_2 < (l0_1.length : Int) := of_decide_eq_true as_
  obtain ⟨ad177, e177, hx177_0, hx177_1, hx177_2, hx177_3, hx177_4, hx177_5⟩ := at_T100 HR0_1.out x36_2 p177 q177
  cases e177
  replace hx177_0 := (HB.out.cell (World.block_lt_of_cell? w _ hx177_0)).trans hx177_0
  replace hx177_1 := (HB.out.cell (World.block_lt_of_cell? w _ hx177_1)).trans hx177_1
  replace hx177_2 := (HB.out.cell (World.block_lt_of_cell? w _ hx177_2)).trans hx177_2
  replace hx177_3 := (HB.out.cell (World.block_lt_of_cell? w _ hx177_3)).trans hx177_3
  replace hx177_4 := (HB.out.cell (World.block_lt_of_cell? w _ hx177_4)).trans hx177_4
  replace hx177_5 := (HB.out.cell (World.block_lt_of_cell? w _ hx177_5)).trans hx177_5
  replace p177 := eq_true p177
  replace q177 := eq_true q177
  go_wp2_with (first | ((with_reducible refine gate_dst (N := 6) rfl ?_); (try (refine gate_guard (by rfl) ?_; dsimp only)); refine bx_ 6 100 #[.int .i64 0, .int .i64 0, .int .i64 0, .int .i64 0, .int .i64 0, .int .i64 0] ?_; intro gb178 hg w26 hbox hb; have BK178 := Aside0.mk (hbox); have GW178 := Aside0.mk ((hz_ : w.heap.size ≤ gb178)); have GE178 := GW178; replace HB := Aside0.mk (below_step bl_ hb); have NB173_178 := Aside0.mk (nl_ BK173.out hg); have NB178_173 := Aside0.mk (ng_ BK173.out hg); replace BK173 := bb0_ BK173.out hb; clear hb hbox hg; have hnb27 := NB178_173.out; have hnc27 := NB173_178.out; obtain ⟨hcz28_0, hcz28_1, hcz28_2, hcz28_3, hcz28_4, hcz28_5, hfz28_0, hfz28_1, hfz28_2, hfz28_3, hfz28_4, hfz28_5⟩ := cf6_ BK178.out) | ((with_reducible refine gate_callee (f := 124) rfl ?_); refine gs_ (some 41) Try.func124 #[.agg #[.int .i64 ((rd_T100 l0_1 x36_2).f0), .int .i64 ((rd_T100 l0_1 x36_2).f1.f0), .int .i64 ((rd_T100 l0_1 x36_2).f1.f1), .int .i64 ((rd_T100 l0_1 x36_2).f2), .int .i64 ((rd_T100 l0_1 x36_2).f3.f0), .int .i64 ((rd_T100 l0_1 x36_2).f3.f1)]] ?_; (with_reducible refine (impl_CondOk.calls ((rd_T100 l0_1 x36_2).f0) ((rd_T100 l0_1 x36_2).f1.f0) ((rd_T100 l0_1 x36_2).f1.f1) ((rd_T100 l0_1 x36_2).f2) ((rd_T100 l0_1 x36_2).f3.f0) ((rd_T100 l0_1 x36_2).f3.f1) false _ A20.out).mono ?_); rintro e w29 ⟨rfl, hb⟩; refine ⟨_, rfl, ?_⟩; replace BK173 := bb1_ BK173.out NB173_178.out hb; replace BK178 := Aside0.mk (blk_below (g := gb178) (o := .cells #[.int .i64 ((rd_T100 l0_1 x36_2).f0), .int .i64 ((rd_T100 l0_1 x36_2).f1.f0), .int .i64 ((rd_T100 l0_1 x36_2).f1.f1), .int .i64 ((rd_T100 l0_1 x36_2).f2), .int .i64 ((rd_T100 l0_1 x36_2).f3.f0), .int .i64 ((rd_T100 l0_1 x36_2).f3.f1)] 100 (0, 0)) (bp0_ BK178.out) hb); replace HB := Aside0.mk (below_step bl_ hb); (try clear hb)))
  go_ret
  exact ⟨er_, bl_⟩
 subst c21
 rw [if_pos rfl] at H
 have H' := Aside0.mk H
 clear H
 have p177 : 0 ≤ (x36_2 : Int) := of_decide_eq_true as_
 have q177 : x36_2 < (l0_1.length : Int) := of_decide_eq_true as_
 obtain ⟨ad177, e177, hx177_0, hx177_1, hx177_2, hx177_3, hx177_4, hx177_5⟩ := at_T100 HR0_1.out x36_2 p177 q177
 cases e177
 replace hx177_0 := (HB.out.cell (World.block_lt_of_cell? w _ hx177_0)).trans hx177_0
 replace hx177_1 := (HB.out.cell (World.block_lt_of_cell? w _ hx177_1)).trans hx177_1
 replace hx177_2 := (HB.out.cell (World.block_lt_of_cell? w _ hx177_2)).trans hx177_2
 replace hx177_3 := (HB.out.cell (World.block_lt_of_cell? w _ hx177_3)).trans hx177_3
 replace hx177_4 := (HB.out.cell (World.block_lt_of_cell? w _ hx177_4)).trans hx177_4
 replace hx177_5 := (HB.out.cell (World.block_lt_of_cell? w _ hx177_5)).trans hx177_5
 replace p177 := eq_true p177
 replace q177 := eq_true q177
 go_wp2_with (first | ((with_reducible refine gate_dst (N := 6) rfl ?_); (try (refine gate_guard (by rfl) ?_; dsimp only)); refine bx_ 6 100 #[.int .i64 0, .int .i64 0, .int .i64 0, .int .i64 0, .int .i64 0, .int .i64 0] ?_; intro gb178 hg w22 hbox hb; have BK178 := Aside0.mk (hbox); have GW178 := Aside0.mk ((hz_ : w.heap.size ≤ gb178)); have GE178 := GW178; replace HB := Aside0.mk (below_step bl_ hb); have NB173_178 := Aside0.mk (nl_ BK173.out hg); have NB178_173 := Aside0.mk (ng_ BK173.out hg); replace BK173 := bb0_ BK173.out hb; clear hb hbox hg; have hnb23 := NB178_173.out; have hnc23 := NB173_178.out; obtain ⟨hcz24_0, hcz24_1, hcz24_2, hcz24_3, hcz24_4, hcz24_5, hfz24_0, hfz24_1, hfz24_2, hfz24_3, hfz24_4, hfz24_5⟩ := cf6_ BK178.out) | ((with_reducible refine gate_callee (f := 124) rfl ?_); refine gs_ (some 41) Try.func124 #[.agg #[.int .i64 ((rd_T100 l0_1 x36_2).f0), .int .i64 ((rd_T100 l0_1 x36_2).f1.f0), .int .i64 ((rd_T100 l0_1 x36_2).f1.f1), .int .i64 ((rd_T100 l0_1 x36_2).f2), .int .i64 ((rd_T100 l0_1 x36_2).f3.f0), .int .i64 ((rd_T100 l0_1 x36_2).f3.f1)]] ?_; (with_reducible refine (impl_CondOk.calls ((rd_T100 l0_1 x36_2).f0) ((rd_T100 l0_1 x36_2).f1.f0) ((rd_T100 l0_1 x36_2).f1.f1) ((rd_T100 l0_1 x36_2).f2) ((rd_T100 l0_1 x36_2).f3.f0) ((rd_T100 l0_1 x36_2).f3.f1) true _ A20.out).mono ?_); rintro e w25 ⟨rfl, hb⟩; refine ⟨_, rfl, ?_⟩; replace BK173 := bb1_ BK173.out NB173_178.out hb; replace BK178 := Aside0.mk (blk_below (g := gb178) (o := .cells #[.int .i64 ((rd_T100 l0_1 x36_2).f0), .int .i64 ((rd_T100 l0_1 x36_2).f1.f0), .int .i64 ((rd_T100 l0_1 x36_2).f1.f1), .int .i64 ((rd_T100 l0_1 x36_2).f2), .int .i64 ((rd_T100 l0_1 x36_2).f3.f0), .int .i64 ((rd_T100 l0_1 x36_2).f3.f1)] 100 (0, 0)) (bp0_ BK178.out) hb); replace HB := Aside0.mk (below_step bl_ hb); (try clear hb)))
 go_roundg k2
 case measure => have := HK1.out; have := HK2.out; omega
 case rel => exact ⟨(wrap64 (x36_2 + 1)), (sr_), H', ⟨by have := HK1.out; have := HK2.out; omega⟩, ⟨bk_ BK173.out⟩, ⟨bl_⟩⟩


def impl_PolicyOk.l0 : Nat → List (S53) → Int → Int → Int → Int → Int → List (S53) → Option (Bool)
 | 0, _, _, _, _, _, _, _ => none
 | k + 1, x6, x7, x8, x182000, x182001, x182002, x182003 => if x8 < x7 then (if 0 ≤ x8 then (if x8 < (x6.length : Int) then ((impl_ruleOk.f k ((rd_T53 x6 x8).f0) ((rd_T53 x6 x8).f1) ((rd_T53 x6 x8).f2) ((rd_T53 x6 x8).f3)).bind fun t184 => (if t184 = true then (impl_PolicyOk.l0 k x6 x7 (wrap64 (x8 + 1)) x182000 x182001 x182002 x182003) else (some false))) else (none)) else (none)) else ((impl_HalfOk.f x182000).bind fun t185 => (if t185 = true then ((impl_actionOk.f x182001 x182002).bind fun t186 => (if t186 = true then (some (decide ((x182003.length : Int) ≤ 10))) else (some false))) else (some false)))
def impl_PolicyOk.f (k : Nat) (a0_0 : Int) (a0_1 : Int) (a0_2 : Int) (l0_3 : List (S53)) : Option (Bool) := impl_PolicyOk.l0 k l0_3 (l0_3.length : Int) 0 a0_0 a0_1 a0_2 l0_3
theorem impl_PolicyOk.mono_l : ∀ k, (∀ y0 y1 y2 y3 y4 y5 y6, LeO (impl_PolicyOk.l0 k y0 y1 y2 y3 y4 y5 y6) (impl_PolicyOk.l0 (k + 1) y0 y1 y2 y3 y4 y5 y6))
 | 0 => fun _ _ _ _ _ _ _ r h => by simp [impl_PolicyOk.l0] at h
 | k + 1 => by
  have ih0 := impl_PolicyOk.mono_l k
  ·intro y0 y1 y2 y3 y4 y5 y6
   unfold impl_PolicyOk.l0
   have m0 := @impl_ruleOk.mono
   exact mo_
theorem impl_PolicyOk.mono : ∀ a0 a1 a2 a3 k, LeO (impl_PolicyOk.f k a0 a1 a2 a3) (impl_PolicyOk.f (k + 1) a0 a1 a2 a3) := by
 intro a0 a1 a2 a3 k
 have ih0 := impl_PolicyOk.mono_l k
 unfold impl_PolicyOk.f
 have m0 := @impl_ruleOk.mono
 exact mo_
theorem impl_PolicyOk.calls (k : Nat) (a0_0 : Int) (a0_1 : Int) (a0_2 : Int) (A0_3 : Option Addr) (c0_3 : Nat) (l0_3 : List (S53)) (r : Bool) (w : World) (hr0_3 : Kd.C k53 w A0_3 l0_3.length l0_3) (hc0_3 : l0_3.length ≤ c0_3) (h : impl_PolicyOk.f k a0_0 a0_1 a0_2 l0_3 = some r) :
 Calls Try.prog 56 #[.agg #[.int .i64 a0_0, .int .i64 a0_1, .int .i64 a0_2, .slice A0_3 l0_3.length c0_3]] w fun e w' => e = .returned (.bool r) ∧ Below w.heap.size w w' := by
 have hu36 := Try.underlying36
 have hu53 := Try.underlying53
 have HR0_3 := Aside0.mk hr0_3
 have HC0_3 := Aside0.mk hc0_3
 clear hr0_3 hc0_3
 have HB := Aside0.mk (Below.refl w.heap.size w)
 have H := h
 unfold impl_PolicyOk.f at H
 clear h
 have H' := Aside0.mk H
 clear H
 go_enter Try.func56, Try.ntmps56
 go_wp2_with (first | ((with_reducible refine gate_dst (N := 1) rfl ?_); (try (refine gate_guard (by rfl) ?_; dsimp only)); refine bx_ 1 36 #[.int .i64 a0_0, .int .i64 a0_1, .int .i64 a0_2, .slice A0_3 l0_3.length c0_3] ?_; intro gb181 hg w2 hbox hb; have BK181 := Aside0.mk (hbox); have GW181 := Aside0.mk ((hz_ : w.heap.size ≤ gb181)); have GE181 := GW181; replace HB := Aside0.mk (below_step bl_ hb); clear hb hbox hg; obtain ⟨hcz3_0, hcz3_1, hcz3_2, hcz3_3, hfz3_0, hfz3_1, hfz3_2, hfz3_3⟩ := cf4_ BK181.out))
 go_loopg [8] k (fun kq v8 w' => ∃ (x8_1 : Int), v8 = .int .i64 x8_1 ∧ Aside0 (impl_PolicyOk.l0 kq l0_3 (l0_3.length : Int) x8_1 a0_0 a0_1 a0_2 l0_3 = some r) ∧ Aside0 (kq ≤ k) ∧ Aside0 (w'.heap[gb181]? = some (.cells #[.int .i64 a0_0, .int .i64 a0_1, .int .i64 a0_2, (.slice A0_3 l0_3.length c0_3)] 36 (0, 0))) ∧ Aside0 (Below w.heap.size w w'))
 case atStart => exact ⟨(0), (sr_), H', ⟨Nat.le_refl _⟩, ⟨bk_ BK181.out⟩, ⟨bl_⟩⟩
 clear H'
 try clear hcz3_0
 try clear hcz3_1
 try clear hcz3_2
 try clear hcz3_3
 try clear hfz3_0
 try clear hfz3_1
 try clear hfz3_2
 try clear hfz3_3
 obtain ⟨x8_1, rfl, HA, HK1, BK181, HB⟩ := hrel
 cases gk with
 | zero => exact absurd HA.out (by simp [impl_PolicyOk.l0])
 | succ k1 => ?_
 have H := HA.out
 clear HA
 simp only [impl_PolicyOk.l0] at H
 by_cases c4 : x8_1 < (l0_3.length : Int)
 rotate_left
 ·rw [if_neg c4] at H
  have c4b0 := decide_eq_false c4
  clear c4
  replace H := bs_ H
  obtain ⟨t185, A17, H⟩ := H
  try dsimp only at H
  by_cases c18 : t185 = true
  rotate_left
  ·replace c18 := Bool.eq_false_iff.mpr c18
   subst c18
   rw [nf_] at H
   obtain rfl := Option.some.inj H
   obtain ⟨hcz23_0, hcz23_1, hcz23_2, hcz23_3, hfz23_0, hfz23_1, hfz23_2, hfz23_3⟩ := cf4_ BK181.out
   go_wp2_with (first | ((with_reducible refine gate_callee (f := 98) rfl ?_); refine gs_ (some 18) Try.func98 #[.int .i64 a0_0] ?_; (with_reducible refine (impl_HalfOk.calls a0_0 false _ A17.out).mono ?_); rintro e w' ⟨rfl, ⟨nd, rfl⟩⟩; refine ⟨_, rfl, ?_⟩))
   go_ret
   exact ⟨er_, bl_⟩
  subst c18
  rw [if_pos rfl] at H
  replace H := bs_ H
  obtain ⟨t186, A19, H⟩ := H
  try dsimp only at H
  by_cases c20 : t186 = true
  ·subst c20
   rw [if_pos rfl] at H
   obtain rfl := Option.some.inj H
   obtain ⟨hcz21_0, hcz21_1, hcz21_2, hcz21_3, hfz21_0, hfz21_1, hfz21_2, hfz21_3⟩ := cf4_ BK181.out
   go_wp2_with (first | ((with_reducible refine gate_callee (f := 98) rfl ?_); refine gs_ (some 18) Try.func98 #[.int .i64 a0_0] ?_; (with_reducible refine (impl_HalfOk.calls a0_0 true _ A17.out).mono ?_); rintro e w' ⟨rfl, ⟨nd, rfl⟩⟩; refine ⟨_, rfl, ?_⟩) | (go_at_call 99; (with_reducible refine (impl_actionOk.calls a0_1 a0_2 true _ A19.out).mono ?_); rintro e w' ⟨rfl, ⟨nd, rfl⟩⟩))
   go_ret
   exact ⟨er_, bl_⟩
  replace c20 := Bool.eq_false_iff.mpr c20
  subst c20
  rw [nf_] at H
  obtain rfl := Option.some.inj H
  obtain ⟨hcz22_0, hcz22_1, hcz22_2, hcz22_3, hfz22_0, hfz22_1, hfz22_2, hfz22_3⟩ := cf4_ BK181.out
  go_wp2_with (first | ((with_reducible refine gate_callee (f := 98) rfl ?_); refine gs_ (some 18) Try.func98 #[.int .i64 a0_0] ?_; (with_reducible refine (impl_HalfOk.calls a0_0 true _ A17.out).mono ?_); rintro e w' ⟨rfl, ⟨nd, rfl⟩⟩; refine ⟨_, rfl, ?_⟩) | (go_at_call 99; (with_reducible refine (impl_actionOk.calls a0_1 a0_2 false _ A19.out).mono ?_); rintro e w' ⟨rfl, ⟨nd, rfl⟩⟩))
  go_ret
  exact ⟨er_, bl_⟩
 rw [if_pos c4] at H
 have c4b0 := decide_eq_true c4
 clear c4
 by_cases c5 : 0 ≤ x8_1
 rotate_left
 ·exact nn_ c5 H
 rw [if_pos c5] at H
 have c5b0 := decide_eq_true c5
 clear c5
 by_cases c6 : x8_1 < (l0_3.length : Int)
 rotate_left
 ·exact nn_ c6 H
 rw [if_pos c6] at H
 have c6b0 := decide_eq_true c6
 clear c6
 replace H := bs_ H
 obtain ⟨t184, A7, H⟩ := H
 try dsimp only at H
 by_cases c8 : t184 = true
 rotate_left
 ·replace c8 := Bool.eq_false_iff.mpr c8
  subst c8
  rw [nf_] at H
  obtain rfl := Option.some.inj H
  have p182 : 0 ≤ (x8_1 : Int) := of_decide_eq_true as_
  have q182 : x8_1 < (l0_3.length : Int) := of_decide_eq_true as_
  obtain ⟨ad182, A182_0, c182_0, A182_1, c182_1, e182, hx182_0, hx182_1, hx182_2, hx182_3, hl182_0, hi182_0, hl182_1, hi182_1⟩ := at_T53 HR0_3.out x8_1 p182 q182
  cases e182
  replace hx182_0 := (HB.out.cell (World.block_lt_of_cell? w _ hx182_0)).trans hx182_0
  replace hx182_1 := (HB.out.cell (World.block_lt_of_cell? w _ hx182_1)).trans hx182_1
  replace hx182_2 := (HB.out.cell (World.block_lt_of_cell? w _ hx182_2)).trans hx182_2
  replace hx182_3 := (HB.out.cell (World.block_lt_of_cell? w _ hx182_3)).trans hx182_3
  have HR182_0 := Aside0.mk hi182_0
  have HC182_0 := Aside0.mk hl182_0
  clear hi182_0 hl182_0
  have HR182_1 := Aside0.mk hi182_1
  have HC182_1 := Aside0.mk hl182_1
  clear hi182_1 hl182_1
  replace p182 := eq_true p182
  replace q182 := eq_true q182
  go_wp2_with (first | ((with_reducible refine gate_dst (N := 4) rfl ?_); (try (refine gate_guard (by rfl) ?_; dsimp only)); refine bx_ 4 53 #[.slice none 0 0, .slice none 0 0, .int .i64 0, .int .i64 0] ?_; intro gb183 hg w13 hbox hb; have BK183 := Aside0.mk (hbox); have GW183 := Aside0.mk ((hz_ : w.heap.size ≤ gb183)); have GE183 := GW183; replace HB := Aside0.mk (below_step bl_ hb); have NB181_183 := Aside0.mk (nl_ BK181.out hg); have NB183_181 := Aside0.mk (ng_ BK181.out hg); replace BK181 := bb0_ BK181.out hb; clear hb hbox hg; have hnb14 := NB183_181.out; have hnc14 := NB181_183.out; obtain ⟨hcz15_0, hcz15_1, hcz15_2, hcz15_3, hfz15_0, hfz15_1, hfz15_2, hfz15_3⟩ := cf4_ BK183.out) | ((with_reducible refine gate_callee (f := 97) rfl ?_); refine gs_ (some 13) Try.func97 #[.agg #[.slice A182_0 ((rd_T53 l0_3 x8_1).f0).length c182_0, .slice A182_1 ((rd_T53 l0_3 x8_1).f1).length c182_1, .int .i64 ((rd_T53 l0_3 x8_1).f2), .int .i64 ((rd_T53 l0_3 x8_1).f3)]] ?_; (with_reducible refine (impl_ruleOk.calls k1 _ _ ((rd_T53 l0_3 x8_1).f0) _ _ ((rd_T53 l0_3 x8_1).f1) ((rd_T53 l0_3 x8_1).f2) ((rd_T53 l0_3 x8_1).f3) false _ ?side1 ?side2 ?side3 ?side4 A7.out).mono ?_); (case side1 => exact Kd.C_below HR182_0.out bl_); (case side2 => exact HC182_0.out); (case side3 => exact Kd.C_below HR182_1.out bl_); (case side4 => exact HC182_1.out); rintro e w16 ⟨rfl, hb⟩; refine ⟨_, rfl, ?_⟩; replace BK181 := bb1_ BK181.out NB181_183.out hb; replace BK183 := Aside0.mk (blk_below (g := gb183) (o := .cells #[.slice A182_0 ((rd_T53 l0_3 x8_1).f0).length c182_0, .slice A182_1 ((rd_T53 l0_3 x8_1).f1).length c182_1, .int .i64 ((rd_T53 l0_3 x8_1).f2), .int .i64 ((rd_T53 l0_3 x8_1).f3)] 53 (0, 0)) (bp0_ BK183.out) hb); replace HB := Aside0.mk (below_step bl_ hb); (try clear hb)))
  go_ret
  exact ⟨er_, bl_⟩
 subst c8
 rw [if_pos rfl] at H
 have H' := Aside0.mk H
 clear H
 have p182 : 0 ≤ (x8_1 : Int) := of_decide_eq_true as_
 have q182 : x8_1 < (l0_3.length : Int) := of_decide_eq_true as_
 obtain ⟨ad182, A182_0, c182_0, A182_1, c182_1, e182, hx182_0, hx182_1, hx182_2, hx182_3, hl182_0, hi182_0, hl182_1, hi182_1⟩ := at_T53 HR0_3.out x8_1 p182 q182
 cases e182
 replace hx182_0 := (HB.out.cell (World.block_lt_of_cell? w _ hx182_0)).trans hx182_0
 replace hx182_1 := (HB.out.cell (World.block_lt_of_cell? w _ hx182_1)).trans hx182_1
 replace hx182_2 := (HB.out.cell (World.block_lt_of_cell? w _ hx182_2)).trans hx182_2
 replace hx182_3 := (HB.out.cell (World.block_lt_of_cell? w _ hx182_3)).trans hx182_3
 have HR182_0 := Aside0.mk hi182_0
 have HC182_0 := Aside0.mk hl182_0
 clear hi182_0 hl182_0
 have HR182_1 := Aside0.mk hi182_1
 have HC182_1 := Aside0.mk hl182_1
 clear hi182_1 hl182_1
 replace p182 := eq_true p182
 replace q182 := eq_true q182
 go_wp2_with (first | ((with_reducible refine gate_dst (N := 4) rfl ?_); (try (refine gate_guard (by rfl) ?_; dsimp only)); refine bx_ 4 53 #[.slice none 0 0, .slice none 0 0, .int .i64 0, .int .i64 0] ?_; intro gb183 hg w9 hbox hb; have BK183 := Aside0.mk (hbox); have GW183 := Aside0.mk ((hz_ : w.heap.size ≤ gb183)); have GE183 := GW183; replace HB := Aside0.mk (below_step bl_ hb); have NB181_183 := Aside0.mk (nl_ BK181.out hg); have NB183_181 := Aside0.mk (ng_ BK181.out hg); replace BK181 := bb0_ BK181.out hb; clear hb hbox hg; have hnb10 := NB183_181.out; have hnc10 := NB181_183.out; obtain ⟨hcz11_0, hcz11_1, hcz11_2, hcz11_3, hfz11_0, hfz11_1, hfz11_2, hfz11_3⟩ := cf4_ BK183.out) | ((with_reducible refine gate_callee (f := 97) rfl ?_); refine gs_ (some 13) Try.func97 #[.agg #[.slice A182_0 ((rd_T53 l0_3 x8_1).f0).length c182_0, .slice A182_1 ((rd_T53 l0_3 x8_1).f1).length c182_1, .int .i64 ((rd_T53 l0_3 x8_1).f2), .int .i64 ((rd_T53 l0_3 x8_1).f3)]] ?_; (with_reducible refine (impl_ruleOk.calls k1 _ _ ((rd_T53 l0_3 x8_1).f0) _ _ ((rd_T53 l0_3 x8_1).f1) ((rd_T53 l0_3 x8_1).f2) ((rd_T53 l0_3 x8_1).f3) true _ ?side1 ?side2 ?side3 ?side4 A7.out).mono ?_); (case side1 => exact Kd.C_below HR182_0.out bl_); (case side2 => exact HC182_0.out); (case side3 => exact Kd.C_below HR182_1.out bl_); (case side4 => exact HC182_1.out); rintro e w12 ⟨rfl, hb⟩; refine ⟨_, rfl, ?_⟩; replace BK181 := bb1_ BK181.out NB181_183.out hb; replace BK183 := Aside0.mk (blk_below (g := gb183) (o := .cells #[.slice A182_0 ((rd_T53 l0_3 x8_1).f0).length c182_0, .slice A182_1 ((rd_T53 l0_3 x8_1).f1).length c182_1, .int .i64 ((rd_T53 l0_3 x8_1).f2), .int .i64 ((rd_T53 l0_3 x8_1).f3)] 53 (0, 0)) (bp0_ BK183.out) hb); replace HB := Aside0.mk (below_step bl_ hb); (try clear hb)))
 go_roundg k1
 case measure => have := HK1.out; omega
 case rel => exact ⟨(wrap64 (x8_1 + 1)), (sr_), H', ⟨by have := HK1.out; omega⟩, ⟨bk_ BK181.out⟩, ⟨bl_⟩⟩

end Go.Proofs.Ytjfmpodeenidnaa.PC

namespace Go.Proofs.Ytjfmpodeenidnaa.PC
open Go.RowKit Go.Proofs.YtjfmpodeenidnaaW.PrintWords Go.Proofs.YtjfmpodeenidnaaW.PrintLast Go.Proofs.YtjfmpodeenidnaaW.PrintMore
set_option linter.unusedVariables false
set_option linter.unusedSimpArgs false
def slices_Sort_int_int.f (l : List Int) : Option (List Int) := if l.length < 4611686018427387904 then some (l.mergeSort fun x y => decide (x ≤ y)) else none
theorem putRow_at (w : World) (g : Nat) (cur : Array Value) (e : Nat) (fr : Nat × Nat) (d : Array Int) (os : Array Obj) (m : Nat) (hg : w.heap[g]? = some (.cells cur e fr)) :
 (Go.Sort.grow (Go.Sort.putRow (Value.int .i64) (Go.Sort.ahead w m) g 0 d) os).heap[g]? = some (.cells (Go.Sort.putCells (Value.int .i64) 0 d cur) e fr) := by
 have hlt : g < w.heap.size := (Array.getElem?_eq_some_iff.1 hg).1
 show ((w.heap.modify g (Go.Sort.onCells (Go.Sort.putCells (Value.int .i64) 0 d))) ++ os)[g]? = _
 rw [Array.getElem?_append_left (by rw [Array.size_modify]; exact hlt), Array.getElem?_modify, if_pos rfl, hg]
 rfl
theorem putRow_other (w : World) (g : Nat) (d : Array Int) (os : Array Obj) (m k : Nat) (hk : k < w.heap.size) (hne : k ≠ g) :
 (Go.Sort.grow (Go.Sort.putRow (Value.int .i64) (Go.Sort.ahead w m) g 0 d) os).heap[k]? = w.heap[k]? := by
 show ((w.heap.modify g (Go.Sort.onCells (Go.Sort.putCells (Value.int .i64) 0 d))) ++ os)[k]? = _
 rw [Array.getElem?_append_left (by rw [Array.size_modify]; exact hk), Array.getElem?_modify, if_neg (Ne.symm hne)]
theorem putRow_size (w : World) (g : Nat) (d : Array Int) (os : Array Obj) (m : Nat) : w.heap.size ≤ (Go.Sort.grow (Go.Sort.putRow (Value.int .i64) (Go.Sort.ahead w m) g 0 d) os).heap.size := by
 show w.heap.size ≤ ((w.heap.modify g (Go.Sort.onCells (Go.Sort.putCells (Value.int .i64) 0 d))) ++ os).size
 rw [Array.size_append, Array.size_modify]
 omega
theorem putCells_take (cur : Array Value) (ys : List Int) (h : ys.length ≤ cur.size) : (Go.Sort.putCells (Value.int .i64) 0 ys.toArray cur).toList.take ys.length = encs (Value.int .i64) ys := by
 apply List.ext_getElem?
 intro j
 rw [List.getElem?_take]
 by_cases hj : j < ys.length
 ·rw [if_pos hj]
  have h1 : (Go.Sort.putCells (Value.int .i64) 0 ys.toArray cur).toList[j]? = some (Value.int .i64 ys[j]) := by
   rw [Array.getElem?_toList]
   unfold Go.Sort.putCells
   rw [Array.getElem?_mapIdx, Array.getElem?_eq_getElem (by omega)]
   simp only [Option.map_some]
   rw [if_pos ⟨Nat.zero_le _, by simpa using hj⟩]
   simp [hj]
  rw [h1]
  simp [encs, hj]
 ·rw [if_neg hj, List.getElem?_eq_none (by rw [encs_length]; omega)]
theorem slices_Sort_int_int.calls (P0_ : Nat → Prop) (u : Value) (l0 r1 : List Int) (w0 w : World) (hB : Below w0.heap.size w0 w) (ho0 : Kd.R (Kd.int .i64) 3 w w0.heap.size P0_ u l0) (h : slices_Sort_int_int.f l0 = some r1) :
 Calls Try.prog 100 #[u] w fun e w' => e = .returned (.tuple #[]) ∧ Kd.R (Kd.int .i64) 3 w' w0.heap.size (fun k_ => (P0_ k_ ∨ w.heap.size ≤ k_)) u r1 ∧ Below w0.heap.size w0 w' ∧ Kept w w' (fun k_ => P0_ k_) := by
 unfold slices_Sort_int_int.f at h
 split at h
 ·rename_i hsz
  obtain rfl := Option.some.inj h
  have hok := ho0.1
  have ho := Kd.own_of_R ho0
  rcases ho.2 with ⟨rfl, hn⟩ | ⟨g, cap, cur, rfl, hbg, hg, hnc, hcm, hcs, ht⟩
  ·obtain rfl : l0 = [] := List.eq_nil_of_length_eq_zero hn
   refine (Try.slices_Sort_int_none none 0 w).mono ?_
   rintro e w' ⟨rfl, rfl⟩
   rw [show ([] : List Int).mergeSort (fun x y => decide (x ≤ y)) = [] by simp]
   exact ⟨rfl, Kd.R_mono ho0 (fun k hk => Or.inl hk), hB, Kept.refl _ _⟩
  ·have hlt : g < w.heap.size := (Array.getElem?_eq_some_iff.1 hg).1
   have hH : Go.Sort.Holds (Value.int .i64) w g 0 l0.toArray := by
    intro j hj
    have hj' : j < l0.length := by simpa using hj
    have hc := Kd.R_celln (enc := Value.int .i64) 0 ho0 (j : Int) (by omega) (by omega)
    rw [Int.toNat_natCast] at hc
    rw [Nat.zero_add]
    refine ⟨?_, hc.2⟩
    rw [hc.1]
    simp [rdOf, hj']
   refine (Try.slices_Sort_int g 0 cap l0 w hH hlt hsz).mono ?_
   rintro e w' ⟨rfl, m, os, rfl⟩
   have hlen : (l0.mergeSort fun x y => decide (x ≤ y)).length = l0.length := List.length_mergeSort _
   refine ⟨rfl, ?_, ?_, ?_⟩
   ·have hown : (Go.Sort.grow (Go.Sort.putRow (Value.int .i64) (Go.Sort.ahead w m) g 0 (l0.mergeSort fun x y => decide (x ≤ y)).toArray) os).ownsRow w0.heap.size 3 1 (.slice (some ⟨g, 0, none⟩) l0.length cap) (l0.mergeSort fun x y => decide (x ≤ y)).length (encs (Value.int .i64) (l0.mergeSort fun x y => decide (x ≤ y))) := by
     refine ⟨by rw [encs_length, Nat.mul_one], Or.inr ⟨g, cap, _, by rw [hlen], hbg, putRow_at w g cur 3 (0, 0) _ os m hg, by rw [hlen]; exact hnc, hcm, ?_, ?_⟩⟩
     ·unfold Go.Sort.putCells
      rw [Array.size_mapIdx, hcs]
     ·rw [Nat.mul_one]
      exact putCells_take cur _ (by rw [hlen, hcs]; omega)
    exact Kd.R_of_own hown (fun k hk => Or.inl (hok k hk))
   ·refine ⟨hB.os, hB.tape, hB.output, Nat.le_trans hB.size (putRow_size w g _ os m), fun k hk => ?_⟩
    exact (putRow_other w g _ os m k (Nat.lt_of_lt_of_le hk hB.size) (by omega)).trans (hB.block k hk)
   ·refine ⟨putRow_size w g _ os m, fun i hi hn => ?_⟩
    exact putRow_other w g _ os m i hi (fun e => hn (by rw [e]; exact hok g rfl))
 ·cases h
def slices_Compact_int_int.f (l : List Int) : Option (List Int) := some (Go.Lib.compact l)
theorem slices_Compact_int_int.calls (P0_ : Nat → Prop) (u : Value) (l0 r : List Int) (w0 w : World) (hB : Below w0.heap.size w0 w) (ho0 : Kd.R (Kd.int .i64) 3 w w0.heap.size P0_ u l0) (h : slices_Compact_int_int.f l0 = some r) :
 Calls Try.prog 101 #[u] w fun e w' => ∃ v0_ : Value, e = .returned (v0_) ∧ Kd.R (Kd.int .i64) 3 w' w0.heap.size (fun k_ => (P0_ k_ ∨ w.heap.size ≤ k_)) v0_ r ∧ Below w0.heap.size w0 w' ∧ Kept w w' (fun k_ => P0_ k_) := by
 unfold slices_Compact_int_int.f at h
 obtain rfl := Option.some.inj h
 have hok := ho0.1
 have ho := Kd.own_of_R ho0
 rcases ho.2 with ⟨rfl, hn⟩ | ⟨g, cap, cur, rfl, hbg, hg, hnc, hcm, hcs, ht⟩
 ·obtain rfl : l0 = [] := List.eq_nil_of_length_eq_zero hn
  refine (Try.slices_Compact_int_empty none 0 w).mono ?_
  rintro e w' ⟨rfl, rfl⟩
  refine ⟨_, rfl, ?_, hB, Kept.refl _ _⟩
  rw [show Go.Lib.compact ([] : List Int) = [] from rfl]
  exact Kd.R_nil _ _ _ _ _
 ·have hlt : g < w.heap.size := (Array.getElem?_eq_some_iff.1 hg).1
  have hH : Go.Sort.Holds (Value.int .i64) w g 0 l0.toArray := by
   intro j hj
   have hj' : j < l0.length := by simpa using hj
   have hc := Kd.R_celln (enc := Value.int .i64) 0 ho0 (j : Int) (by omega) (by omega)
   rw [Int.toNat_natCast] at hc
   rw [Nat.zero_add]
   refine ⟨?_, hc.2⟩
   rw [hc.1]
   simp [rdOf, hj']
  have hle := Go.Lib.compact_length_le l0
  have hmx : maxLen = 9223372036854775807 := rfl
  refine (Try.slices_Compact_int g 0 cap l0 w hH (by omega) hnc).mono ?_
  rintro e w' ⟨rfl, m, rfl⟩
  rw [← Go.Sort.grow_empty (Go.Sort.putRow _ _ _ _ _)]
  refine ⟨_, rfl, ?_, ?_, ?_⟩
  ·have hlen : (Go.Lib.compact l0 ++ List.replicate (l0.length - (Go.Lib.compact l0).length) 0).length = l0.length := by rw [List.length_append, List.length_replicate]; omega
   have htk := putCells_take cur (Go.Lib.compact l0 ++ List.replicate (l0.length - (Go.Lib.compact l0).length) 0) (by rw [hlen, hcs]; omega)
   have hown : (Go.Sort.grow (Go.Sort.putRow (Value.int .i64) (Go.Sort.ahead w m) g 0 (Go.Lib.compact l0 ++ List.replicate (l0.length - (Go.Lib.compact l0).length) 0).toArray) #[]).ownsRow w0.heap.size 3 1 (.slice (some ⟨g, 0, none⟩) (Go.Lib.compact l0).length cap) (Go.Lib.compact l0).length (encs (Value.int .i64) (Go.Lib.compact l0)) := by
    refine ⟨by rw [encs_length, Nat.mul_one], Or.inr ⟨g, cap, _, rfl, hbg, putRow_at w g cur 3 (0, 0) _ #[] m hg, by omega, hcm, ?_, ?_⟩⟩
    ·unfold Go.Sort.putCells
     rw [Array.size_mapIdx, hcs]
    ·rw [Nat.mul_one]
     have h2 := congrArg (List.take (Go.Lib.compact l0).length) htk
     rw [List.take_take, hlen, Nat.min_eq_left hle] at h2
     rw [h2, encs_append, List.take_append_of_le_length (by rw [encs_length]; omega), List.take_of_length_le (by rw [encs_length]; omega)]
   exact Kd.R_of_own hown (fun k hk => Or.inl (hok k hk))
  ·refine ⟨hB.os, hB.tape, hB.output, Nat.le_trans hB.size (putRow_size w g _ #[] m), fun k hk => ?_⟩
   exact (putRow_other w g _ #[] m k (Nat.lt_of_lt_of_le hk hB.size) (by omega)).trans (hB.block k hk)
  ·refine ⟨putRow_size w g _ #[] m, fun i hi hn => ?_⟩
   exact putRow_other w g _ #[] m i hi (fun e => hn (by rw [e]; exact hok g rfl))
end Go.Proofs.Ytjfmpodeenidnaa.PC

namespace Go.Proofs.Ytjfmpodeenidnaa.PC
open Go.RowKit Go.Proofs.Ytjfmpodeenidnaa.Short Go.Proofs.YtjfmpodeenidnaaW.PrintWords Go.Proofs.YtjfmpodeenidnaaW.PrintLast Go.Proofs.YtjfmpodeenidnaaW.PrintMore
attribute [local go_sem] max2_int min2_int max_two min_two max_three min_three max_four min_four   -- for this text's walks alone
set_option linter.unusedVariables false
set_option linter.unusedSimpArgs false

def impl_NumsOf.l0 : Nat → List Int → List (S53) → Int → Int → Option (List Int)
 | 0, _, _, _, _ => none
 | k + 1, x3, x8, x9, x10 => if x10 < x9 then (if 0 ≤ x10 then (if x10 < (x8.length : Int) then (if x3.length + ((rd_T53 x8 x10).f0).length < 17592186044416 then (impl_NumsOf.l0 k (x3 ++ ((rd_T53 x8 x10).f0)) x8 x9 (wrap64 (x10 + 1))) else (none)) else (none)) else (none)) else ((slices_Sort_int_int.f x3).bind fun t196 => ((slices_Compact_int_int.f t196).bind fun t197 => (some t197)))
def impl_NumsOf.f (k : Nat) (a0_0 : Int) (a0_1 : Int) (a0_2 : Int) (l0_3 : List (S53)) : Option (List Int) := impl_NumsOf.l0 k (([] : List Int)) l0_3 (l0_3.length : Int) 0
theorem impl_NumsOf.mono_l : ∀ k, (∀ y0 y1 y2 y3, LeO (impl_NumsOf.l0 k y0 y1 y2 y3) (impl_NumsOf.l0 (k + 1) y0 y1 y2 y3))
 | 0 => fun _ _ _ _ r h => by simp [impl_NumsOf.l0] at h
 | k + 1 => by
  have ih0 := impl_NumsOf.mono_l k
  ·intro y0 y1 y2 y3
   unfold impl_NumsOf.l0
   exact mo_
theorem impl_NumsOf.mono : ∀ a0 a1 a2 a3 k, LeO (impl_NumsOf.f k a0 a1 a2 a3) (impl_NumsOf.f (k + 1) a0 a1 a2 a3) := by
 intro a0 a1 a2 a3 k
 have ih0 := impl_NumsOf.mono_l k
 unfold impl_NumsOf.f
 exact mo_
theorem impl_NumsOf.calls (k : Nat) (a0_0 : Int) (a0_1 : Int) (a0_2 : Int) (A0_3 : Option Addr) (c0_3 : Nat) (l0_3 : List (S53)) (r : List Int) (w : World) (hr0_3 : Kd.C k53 w A0_3 l0_3.length l0_3) (hc0_3 : l0_3.length ≤ c0_3) (h : impl_NumsOf.f k a0_0 a0_1 a0_2 l0_3 = some r) :
 Calls Try.prog 57 #[.agg #[.int .i64 a0_0, .int .i64 a0_1, .int .i64 a0_2, .slice A0_3 l0_3.length c0_3]] w fun e w' => ∃ v0_ : Value, e = .returned (v0_) ∧ Kd.R (Kd.int .i64) 3 w' w.heap.size (fun _ => True) v0_ r ∧ Below w.heap.size w w' := by
 have hu36 := Try.underlying36
 have hu53 := Try.underlying53
 have HR0_3 := Aside0.mk hr0_3
 have HC0_3 := Aside0.mk hc0_3
 clear hr0_3 hc0_3
 have HB := Aside0.mk (Below.refl w.heap.size w)
 have H := h
 unfold impl_NumsOf.f at H
 clear h
 obtain ⟨y188, hy188⟩ : ∃ y_ : List Int, y_ = (([] : List Int)) := ⟨_, rfl⟩
 replace H : (impl_NumsOf.l0 k y188 l0_3 (l0_3.length : Int) 0) = some r := rp_ H hy188
 have Ny188 := Aside0.mk hy188
 clear hy188
 have H' := Aside0.mk H
 clear H
 go_enter Try.func57, Try.ntmps57
 go_wp2_with (first | ((with_reducible refine gate_dst (N := 1) rfl ?_); refine bx_ 1 36 #[.int .i64 a0_0, .int .i64 a0_1, .int .i64 a0_2, .slice A0_3 l0_3.length c0_3] ?_; intro gb187 hg w2 hbox hb; have BK187 := Aside0.mk (hbox); have GW187 := Aside0.mk ((hz_ : w.heap.size ≤ gb187)); have GE187 := GW187; replace HB := Aside0.mk (below_step bl_ hb); clear hb hbox hg) | ((with_reducible refine gate_dst (N := 6) rfl ?_); refine Kd.R_lit (Kd.int .i64) _ 3 ?hg (N := 6) ?hd (xs := ([] : List Int)) (inner := []) (ok := fun _ => True) (okp := fun _ => True) ?hr ?hp (fun _ hk => hk) trivial (Below.refl _ _) (Nat.le_refl _) (by simp) ?_; (case hd => rfl); (case hg => rfl); (case hr => first | (go_simp; done) | (go_simp; rfl)); (case hp => exact (Reps.none _ _)); intro v189 w3 ho4 hb hg_ hnew_; clear hg_ hnew_; (first | rw [← Ny188.out] at ho4 | (simp only [Int.reduceToNat] at ho4; rw [← Ny188.out] at ho4)); have HO190 := Aside0.mk (Kd.R_lower ho4 (below_size bl_)); replace BK187 := bb0_ BK187.out hb; replace HB := Aside0.mk (below_step bl_ hb); clear hb ho4; obtain ⟨hcz5_0, hcz5_1, hcz5_2, hcz5_3, hfz5_0, hfz5_1, hfz5_2, hfz5_3⟩ := cf4_ BK187.out))
 go_loopg [3, 10] k (fun kq v3 v10 w' => ∃ (x3_1 : List Int) (x10_1 : Int), v10 = .int .i64 x10_1 ∧ Aside0 (impl_NumsOf.l0 kq x3_1 l0_3 (l0_3.length : Int) x10_1 = some r) ∧ Aside0 (kq ≤ k) ∧ Aside0 (Kd.R (Kd.int .i64) 3 w' w.heap.size (fun _ => True) v3 x3_1) ∧ Aside0 (w'.heap[gb187]? = some (.cells #[.int .i64 a0_0, .int .i64 a0_1, .int .i64 a0_2, (.slice A0_3 l0_3.length c0_3)] 36 (0, 0))) ∧ Aside0 (Below w.heap.size w w'))
 case atStart => exact ⟨(y188), (0), (sr_), H', ⟨Nat.le_refl _⟩, ⟨ra_ HO190.out⟩, ⟨bk_ BK187.out⟩, ⟨bl_⟩⟩
 clear H'
 try clear hcz5_0
 try clear hcz5_1
 try clear hcz5_2
 try clear hcz5_3
 try clear hfz5_0
 try clear hfz5_1
 try clear hfz5_2
 try clear hfz5_3
 obtain ⟨x3_1, x10_1, rfl, HA, HK1, HO_3, BK187, HB⟩ := hrel
 cases gk with
 | zero => exact absurd HA.out (by simp [impl_NumsOf.l0])
 | succ k1 => ?_
 have H := HA.out
 clear HA
 simp only [impl_NumsOf.l0] at H
 by_cases c6 : x10_1 < (l0_3.length : Int)
 rotate_left
 ·rw [if_neg c6] at H
  have c6b0 := decide_eq_false c6
  clear c6
  replace H := bs_ H
  obtain ⟨t196, A14, H⟩ := H
  try dsimp only at H
  replace H := bs_ H
  obtain ⟨t197, A15, H⟩ := H
  try dsimp only at H
  obtain rfl := Option.some.inj H
  obtain ⟨Ao16, co16, eo16⟩ := Kd.R_slice HO_3.out
  subst eo16
  go_wp2_with (first | ((with_reducible refine gate_callee (f := 100) rfl ?_); refine gs_ (some 20) Try.func100 #[.slice Ao16 x3_1.length co16] ?_; (with_reducible refine (slices_Sort_int_int.calls (fun k_ => some k_ = (.slice Ao16 x3_1.length co16 : Value).ownBlock) (.slice Ao16 x3_1.length co16) x3_1 t196 w _ ?side1 ?side2 A14.out).mono ?_); (case side1 => repeat (first | (with_reducible first | exact HB.out | apply below_alloc | apply pw_below_drewN | apply below_drew1 | refine below_set ?_ GE187.out) | exact HB.out)); (case side2 => exact Kd.R_tight rfl HO_3.out); rintro e w17 ⟨rfl, hy0, hb, hkp⟩; refine ⟨_, rfl, ?_⟩; replace BK187 := Aside0.mk (blk_kept (bk_ BK187.out) hkp (fun hs_ => (fun e_ => (Kd.R_ne HO_3.out BK187.out (by decide)) e_) hs_)); replace HO_3 := Aside0.mk (Kd.R_reok rfl hy0 (fun k_ e_ => HO_3.out.1 k_ e_)); replace HB := Aside0.mk (hb); (try clear hb); (try clear hkp); (try clear hy0)) | ((with_reducible refine gate_callee (f := 101) rfl ?_); refine gs_ (some 22) Try.func101 #[.slice Ao16 x3_1.length co16] ?_; (with_reducible refine (slices_Compact_int_int.calls (fun k_ => some k_ = (.slice Ao16 x3_1.length co16 : Value).ownBlock) (.slice Ao16 x3_1.length co16) t196 t197 w _ ?side1 ?side2 A15.out).mono ?_); (case side1 => repeat (first | (with_reducible first | exact HB.out | apply below_alloc | apply pw_below_drewN | apply below_drew1 | refine below_set ?_ GE187.out) | exact HB.out)); (case side2 => exact Kd.R_tight rfl HO_3.out); rintro e w18 ⟨v198, rfl, ho0, hb, hkp⟩; refine ⟨_, rfl, ?_⟩; replace BK187 := Aside0.mk (blk_kept (bk_ BK187.out) hkp (fun hs_ => (fun e_ => (Kd.R_ne HO_3.out BK187.out (by decide)) e_) hs_)); have HO199 := Aside0.mk (Kd.R_mono (ok' := fun k_ => True) ho0 (fun k_ hk_ => trivial)); replace HB := Aside0.mk (hb); clear HO_3; (try clear hb); (try clear hkp); (try clear ho0)))
  go_ret
  exact ⟨_, er_, ra_ HO199.out, bl_⟩
 rw [if_pos c6] at H
 have c6b0 := decide_eq_true c6
 clear c6
 by_cases c7 : 0 ≤ x10_1
 rotate_left
 ·exact nn_ c7 H
 rw [if_pos c7] at H
 have c7b0 := decide_eq_true c7
 clear c7
 by_cases c8 : x10_1 < (l0_3.length : Int)
 rotate_left
 ·exact nn_ c8 H
 rw [if_pos c8] at H
 have c8b0 := decide_eq_true c8
 clear c8
 by_cases c9 : x3_1.length + ((rd_T53 l0_3 x10_1).f0).length < 17592186044416
 rotate_left
 ·exact nn_ c9 H
 rw [if_pos c9] at H
 have LMc9 := Aside0.mk c9
 clear c9
 obtain ⟨y193, hy193⟩ : ∃ y_ : List Int, y_ = (x3_1 ++ ((rd_T53 l0_3 x10_1).f0)) := ⟨_, rfl⟩
 replace H : (impl_NumsOf.l0 k1 y193 l0_3 (l0_3.length : Int) (wrap64 (x10_1 + 1))) = some r := rp_ H hy193
 have Ny193 := Aside0.mk hy193
 clear hy193
 have H' := Aside0.mk H
 clear H
 have p191 : 0 ≤ (x10_1 : Int) := of_decide_eq_true as_
 have q191 : x10_1 < (l0_3.length : Int) := of_decide_eq_true as_
 obtain ⟨ad191, A191_0, c191_0, A191_1, c191_1, e191, hx191_0, hx191_1, hx191_2, hx191_3, hl191_0, hi191_0, hl191_1, hi191_1⟩ := at_T53 HR0_3.out x10_1 p191 q191
 cases e191
 replace hx191_0 := (HB.out.cell (World.block_lt_of_cell? w _ hx191_0)).trans hx191_0
 replace hx191_1 := (HB.out.cell (World.block_lt_of_cell? w _ hx191_1)).trans hx191_1
 replace hx191_2 := (HB.out.cell (World.block_lt_of_cell? w _ hx191_2)).trans hx191_2
 replace hx191_3 := (HB.out.cell (World.block_lt_of_cell? w _ hx191_3)).trans hx191_3
 have HR191_0 := Aside0.mk hi191_0
 have HC191_0 := Aside0.mk hl191_0
 clear hi191_0 hl191_0
 have HR191_1 := Aside0.mk hi191_1
 have HC191_1 := Aside0.mk hl191_1
 clear hi191_1 hl191_1
 replace p191 := eq_true p191
 replace q191 := eq_true q191
 go_wp2_with (first | ((with_reducible refine gate_dst (N := 5) rfl ?_); refine bx_ 5 53 #[.slice none 0 0, .slice none 0 0, .int .i64 0, .int .i64 0] ?_; intro gb192 hg w10 hbox hb; replace HO_3 := Aside0.mk (Kd.R_below (ra_ HO_3.out) hb); have BK192 := Aside0.mk (hbox); have GW192 := Aside0.mk ((hz_ : w.heap.size ≤ gb192)); have GE192 := GW192; replace HB := Aside0.mk (below_step bl_ hb); have NB187_192 := Aside0.mk (nl_ BK187.out hg); have NB192_187 := Aside0.mk (ng_ BK187.out hg); replace BK187 := bb0_ BK187.out hb; clear hb hbox hg; have hnb11 := NB192_187.out; have hnc11 := NB187_192.out; obtain ⟨hcz12_0, hcz12_1, hcz12_2, hcz12_3, hfz12_0, hfz12_1, hfz12_2, hfz12_3⟩ := cf4_ BK192.out) | ((with_reducible refine gate_builtin (b := .append) (xs := #[.tmp 14, .tmp 16]) rfl ?_); at_builtin; refine Kd.R_append_rows (Kd.int .i64) (w0 := w) w.heap.size rfl (.tmp 14) (.tmp 16) 32 3 (.int .i64 0) 8 rfl Try.underlying32 info3 rfl (by decide) (by omega) u3 x3_1 ((rd_T53 l0_3 x10_1).f0) _ _ _ (fun _ => True) (fun _ => False) rfl rfl ?aO ?aR (fun _ _ h => h) (fun _ h => h.elim) ?aF ?aB ?aS ?aL ?_; (case aR => exact Kd.C_below HR191_0.out bl_); (case aB => exact bl_); (case aF => exact (fun _ _ => trivial)); (case aO => exact (by (with_reducible repeat (first | apply Kd.R_alloc | apply Kd.R_drewN | apply Kd.R_drew)); exact Kd.R_mono (Kd.R_far (p := ⟨gb192, 3, none⟩) (Kd.R_far (p := ⟨gb192, 2, none⟩) (Kd.R_far (p := ⟨gb192, 1, none⟩) (Kd.R_far (p := ⟨gb192, 0, none⟩) (Kd.R_types HO_3.out BK192.out (by decide)) (fun _ hk => hk.2) (.slice A191_0 ((rd_T53 l0_3 x10_1).f0).length c191_0)) (fun _ hk => hk.2) (.slice A191_1 ((rd_T53 l0_3 x10_1).f1).length c191_1)) (fun _ hk => hk.2) (.int .i64 ((rd_T53 l0_3 x10_1).f2))) (fun _ hk => hk.2) (.int .i64 ((rd_T53 l0_3 x10_1).f3))) (fun _ hk => trivial))); (case aS => exact (below_size bl_)); (case aL => have := LMc9.out; omega); intro v194 w13 ho hb hg hat; rw [← Ny193.out] at ho; replace BK187 := Aside0.mk (blk_grown (g := gb187) (o := .cells #[.int .i64 a0_0, .int .i64 a0_1, .int .i64 a0_2, .slice (some ad191) l0_3.length c0_3] 36 (0, 0)) (bp1_ BK187.out NB187_192.out) hg (Kd.R_ne HO_3.out BK187.out (by decide))); replace BK192 := Aside0.mk (blk_grown (g := gb192) (o := .cells #[.slice A191_0 ((rd_T53 l0_3 x10_1).f0).length c191_0, .slice A191_1 ((rd_T53 l0_3 x10_1).f1).length c191_1, .int .i64 ((rd_T53 l0_3 x10_1).f2), .int .i64 ((rd_T53 l0_3 x10_1).f3)] 53 (0, 0)) (bp0_ BK192.out) hg (Kd.R_ne HO_3.out BK192.out (by decide))); replace HB := Aside0.mk (hb); have HO195 := Aside0.mk (ho); clear HO_3; clear ho hb hg hat))
 go_roundg k1
 case measure => have := HK1.out; omega
 case rel => exact ⟨(y193), (wrap64 (x10_1 + 1)), (sr_), H', ⟨by have := HK1.out; omega⟩, ⟨ra_ HO195.out⟩, ⟨bk_ BK187.out⟩, ⟨bl_⟩⟩


def impl_NumsSaid.f (k : Nat) (a0_0 : Int) (a0_1 : Int) (a0_2 : Int) (l0_3 : List (S53)) : Option (List Int) := (impl_PolicyOk.f k a0_0 a0_1 a0_2 l0_3).bind fun t201 => (if t201 = true then ((impl_NumsOf.f k a0_0 a0_1 a0_2 l0_3).bind fun t202 => (some t202)) else (some (([] : List Int))))
theorem impl_NumsSaid.mono : ∀ a0 a1 a2 a3 k, LeO (impl_NumsSaid.f k a0 a1 a2 a3) (impl_NumsSaid.f (k + 1) a0 a1 a2 a3) := by
 intro a0 a1 a2 a3 k
 unfold impl_NumsSaid.f
 have m0 := @impl_NumsOf.mono
 have m1 := @impl_PolicyOk.mono
 exact mo_
theorem impl_NumsSaid.calls (k : Nat) (a0_0 : Int) (a0_1 : Int) (a0_2 : Int) (A0_3 : Option Addr) (c0_3 : Nat) (l0_3 : List (S53)) (r : List Int) (w : World) (hr0_3 : Kd.C k53 w A0_3 l0_3.length l0_3) (hc0_3 : l0_3.length ≤ c0_3) (h : impl_NumsSaid.f k a0_0 a0_1 a0_2 l0_3 = some r) :
 Calls Try.prog 15 #[.agg #[.int .i64 a0_0, .int .i64 a0_1, .int .i64 a0_2, .slice A0_3 l0_3.length c0_3]] w fun e w' => ∃ v0_ : Value, e = .returned (v0_) ∧ Kd.R (Kd.int .i64) 3 w' w.heap.size (fun _ => True) v0_ r ∧ Below w.heap.size w w' := by
 have hu36 := Try.underlying36
 have HR0_3 := Aside0.mk hr0_3
 have HC0_3 := Aside0.mk hc0_3
 clear hr0_3 hc0_3
 have HB := Aside0.mk (Below.refl w.heap.size w)
 have H := h
 unfold impl_NumsSaid.f at H
 clear h
 replace H := bs_ H
 obtain ⟨t201, A2, H⟩ := H
 try dsimp only at H
 by_cases c3 : t201 = true
 ·subst c3
  rw [if_pos rfl] at H
  replace H := bs_ H
  obtain ⟨t202, A4, H⟩ := H
  try dsimp only at H
  obtain rfl := Option.some.inj H
  go_enter Try.func15, Try.ntmps15
  go_wp2_with (first | ((with_reducible refine gate_dst (N := 1) rfl ?_); refine bx_ 1 36 #[.int .i64 a0_0, .int .i64 a0_1, .int .i64 a0_2, .slice A0_3 l0_3.length c0_3] ?_; intro gb200 hg w5 hbox hb; have BK200 := Aside0.mk (hbox); have GW200 := Aside0.mk ((hz_ : w.heap.size ≤ gb200)); have GE200 := GW200; replace HB := Aside0.mk (below_step bl_ hb); clear hb hbox hg; obtain ⟨hcz6_0, hcz6_1, hcz6_2, hcz6_3, hfz6_0, hfz6_1, hfz6_2, hfz6_3⟩ := cf4_ BK200.out) | ((with_reducible refine gate_callee (f := 56) rfl ?_); refine gs_ (some 4) Try.func56 #[.agg #[.int .i64 a0_0, .int .i64 a0_1, .int .i64 a0_2, .slice A0_3 l0_3.length c0_3]] ?_; (with_reducible refine (impl_PolicyOk.calls k a0_0 a0_1 a0_2 _ _ l0_3 true _ ?side1 ?side2 A2.out).mono ?_); (case side1 => exact cb_ HR0_3.out HB.out); (case side2 => exact HC0_3.out); rintro e w7 ⟨rfl, hb⟩; refine ⟨_, rfl, ?_⟩; replace BK200 := bb0_ BK200.out hb; replace HB := Aside0.mk (below_step bl_ hb); (try clear hb); obtain ⟨hcz8_0, hcz8_1, hcz8_2, hcz8_3, hfz8_0, hfz8_1, hfz8_2, hfz8_3⟩ := cf4_ BK200.out) | ((with_reducible refine gate_callee (f := 57) rfl ?_); refine gs_ (some 8) Try.func57 #[.agg #[.int .i64 a0_0, .int .i64 a0_1, .int .i64 a0_2, .slice A0_3 l0_3.length c0_3]] ?_; (with_reducible refine (impl_NumsOf.calls k a0_0 a0_1 a0_2 _ _ l0_3 t202 _ ?side1 ?side2 A4.out).mono ?_); (case side1 => exact cb_ HR0_3.out HB.out); (case side2 => exact HC0_3.out); rintro e w9 ⟨v203, rfl, ho0, hb⟩; refine ⟨_, rfl, ?_⟩; have HO204 := Aside0.mk (Kd.R_lower ho0 (below_size bl_)); replace BK200 := bb0_ BK200.out hb; replace HB := Aside0.mk (below_step bl_ hb); (try clear hb); (try clear ho0)))
  go_ret
  exact ⟨_, er_, ra_ HO204.out, bl_⟩
 replace c3 := Bool.eq_false_iff.mpr c3
 subst c3
 rw [nf_] at H
 obtain ⟨y205, hy205⟩ : ∃ y_ : List Int, y_ = (([] : List Int)) := ⟨_, rfl⟩
 replace H : (some y205) = some r := rp_ H hy205
 have Ny205 := Aside0.mk hy205
 clear hy205
 obtain rfl := Option.some.inj H
 go_enter Try.func15, Try.ntmps15
 go_wp2_with (first | ((with_reducible refine gate_dst (N := 1) rfl ?_); refine bx_ 1 36 #[.int .i64 a0_0, .int .i64 a0_1, .int .i64 a0_2, .slice A0_3 l0_3.length c0_3] ?_; intro gb200 hg w10 hbox hb; have BK200 := Aside0.mk (hbox); have GW200 := Aside0.mk ((hz_ : w.heap.size ≤ gb200)); have GE200 := GW200; replace HB := Aside0.mk (below_step bl_ hb); clear hb hbox hg; obtain ⟨hcz11_0, hcz11_1, hcz11_2, hcz11_3, hfz11_0, hfz11_1, hfz11_2, hfz11_3⟩ := cf4_ BK200.out) | ((with_reducible refine gate_callee (f := 56) rfl ?_); refine gs_ (some 4) Try.func56 #[.agg #[.int .i64 a0_0, .int .i64 a0_1, .int .i64 a0_2, .slice A0_3 l0_3.length c0_3]] ?_; (with_reducible refine (impl_PolicyOk.calls k a0_0 a0_1 a0_2 _ _ l0_3 false _ ?side1 ?side2 A2.out).mono ?_); (case side1 => exact cb_ HR0_3.out HB.out); (case side2 => exact HC0_3.out); rintro e w12 ⟨rfl, hb⟩; refine ⟨_, rfl, ?_⟩; replace BK200 := bb0_ BK200.out hb; replace HB := Aside0.mk (below_step bl_ hb); (try clear hb)) | ((with_reducible refine gate_dst (N := 6) rfl ?_); refine Kd.R_lit (Kd.int .i64) _ 3 ?hg (N := 6) ?hd (xs := ([] : List Int)) (inner := []) (ok := fun _ => True) (okp := fun _ => True) ?hr ?hp (fun _ hk => hk) trivial (Below.refl _ _) (Nat.le_refl _) (by simp) ?_; (case hd => rfl); (case hg => rfl); (case hr => first | (go_simp; done) | (go_simp; rfl)); (case hp => exact (Reps.none _ _)); intro v206 w13 ho14 hb hg_ hnew_; clear hg_ hnew_; (first | rw [← Ny205.out] at ho14 | (simp only [Int.reduceToNat] at ho14; rw [← Ny205.out] at ho14)); have HO207 := Aside0.mk (Kd.R_lower ho14 (below_size bl_)); replace BK200 := bb0_ BK200.out hb; replace HB := Aside0.mk (below_step bl_ hb); clear hb ho14))
 go_ret
 exact ⟨_, er_, ra_ HO207.out, bl_⟩


def laws_big.f (l0 : List Int) : Option (Bool) := some (decide ((l0.length : Int) > 1048576))
theorem laws_big.calls (A0 : Option Addr) (c0 : Nat) (l0 : List Int) (r : Bool) (w : World) (hr0 : Kd.C (Kd.int .u8) w A0 l0.length l0) (hc0 : l0.length ≤ c0) (h : laws_big.f l0 = some r) :
 Calls Try.prog 21 #[.slice A0 l0.length c0] w fun e w' => e = .returned (.bool r) ∧ Drawn0 w w' := by
 have HR0 := Aside0.mk hr0
 have HC0 := Aside0.mk hc0
 clear hr0 hc0
 have H := h
 unfold laws_big.f at H
 clear h
 obtain rfl := Option.some.inj H
 go_enter Try.func21, Try.ntmps21
 go_wp2
 go_ret
 exact ⟨sr_, by repeat (first | exact Drawn0.refl _ | apply Drawn0.step)⟩


def IsS118 (w0 W : World) (g : Nat) (f0 : List Int) (f1 : Int) (f2 : Int) : Prop := ∃ A0 c0, W.heap[g]? = some (.cells #[.slice A0 f0.length c0, .int .i64 f1, .int .i64 f2] 118 (0, 0)) ∧ w0.heap.size ≤ g ∧ Kd.C (Kd.int .u8) w0 A0 f0.length f0
theorem IsS118.grown {w0 W : World} {g : Nat} {f0 : List Int} {f1 : Int} {f2 : Int} {W1 : World} {row : Option Nat} (h : IsS118 w0 W g f0 f1 f2) (hw : W.grownBy W1 row) (hne : some g ≠ row) : IsS118 w0 W1 g f0 f1 f2 := by
 obtain ⟨A0, c0, hb, hg, hr0⟩ := h
 exact ⟨A0, c0, blk_grown hb hw hne, hg, hr0⟩
theorem IsS118.own_neN {w0 W : World} {g : Nat} {f0 : List Int} {f1 : Int} {f2 : Int} {α : Type} {d : Kd α} {e : Nat} {base : Nat} {ok : Nat → Prop} {v : Value} {xs : List α} (h : IsS118 w0 W g f0 f1 f2) (ho : Kd.N d e W base ok v xs) (ht : e ≠ 118) : some g ≠ v.ownBlock := by
 obtain ⟨A0, c0, hb, hg, hr0⟩ := h
 exact Kd.N_ne ho hb ht
theorem IsS118.fresh {w0 W : World} {g : Nat} {f0 : List Int} {f1 : Int} {f2 : Int} (h : IsS118 w0 W g f0 f1 f2) : ∀ k, W.heap.size ≤ k → k ≠ g := by
 obtain ⟨A0, c0, hb, hg, hr0⟩ := h
 exact Kd.freshB hb
theorem IsS118.kept {w0 W : World} {g : Nat} {f0 : List Int} {f1 : Int} {f2 : Int} {W1 : World} {S : Nat → Prop} (h : IsS118 w0 W g f0 f1 f2) (hk : Kept W W1 S) (hne : ¬ S g) : IsS118 w0 W1 g f0 f1 f2 := by
 obtain ⟨A0, c0, hb, hg, hr0⟩ := h
 exact ⟨A0, c0, blk_kept hb hk hne, hg, hr0⟩
theorem IsS118.below {w0 W : World} {g : Nat} {f0 : List Int} {f1 : Int} {f2 : Int} {W1 : World} (h : IsS118 w0 W g f0 f1 f2) (hw : Below W.heap.size W W1) : IsS118 w0 W1 g f0 f1 f2 := h.grown (grown_of_below hw none) (by simp)
theorem IsS118.alloc {w0 W : World} {g : Nat} {f0 : List Int} {f1 : Int} {f2 : Int} (h : IsS118 w0 W g f0 f1 f2) (o : Obj) : IsS118 w0 (W.alloc o) g f0 f1 f2 := h.below (below_alloc (Below.refl _ _) o)
theorem IsS118.drewN {w0 W : World} {g : Nat} {f0 : List Int} {f1 : Int} {f2 : Int} (h : IsS118 w0 W g f0 f1 f2) (m : Nat) : IsS118 w0 (W.drewN m) g f0 f1 f2 := h
theorem IsS118.drew {w0 W : World} {g : Nat} {f0 : List Int} {f1 : Int} {f2 : Int} (h : IsS118 w0 W g f0 f1 f2) : IsS118 w0 W.drew g f0 f1 f2 := h
theorem IsS118.at_ {w0 W : World} {g : Nat} {f0 : List Int} {f1 : Int} {f2 : Int} {w' : World} {m : Nat} (hq : W.drewN m = w') (h : IsS118 w0 W g f0 f1 f2) : IsS118 w0 w' g f0 f1 f2 := by subst hq; exact IsS118.drewN h m
theorem IsS118.apart {w0 W : World} {g : Nat} {f0 : List Int} {f1 : Int} {f2 : Int} {α : Type} {d : Kd α} {e : Nat} {base : Nat} {ok : Nat → Prop} {v : Value} {xs : List α} (h : IsS118 w0 W g f0 f1 f2) (ho : d.R e W base ok v xs) (ht : ∀ q, q ∈ e :: d.E → q ≠ 118) : d.R e W base (fun k => ok k ∧ k ≠ g) v xs := by
 obtain ⟨A0, c0, hb, hg, hr0⟩ := h
 exact Kd.R_types ho hb ht
theorem IsS118.own_ne {w0 W : World} {g : Nat} {f0 : List Int} {f1 : Int} {f2 : Int} {α : Type} {d : Kd α} {e : Nat} {base : Nat} {ok : Nat → Prop} {v : Value} {xs : List α} (h : IsS118 w0 W g f0 f1 f2) (ho : d.R e W base ok v xs) (ht : e ≠ 118) : some g ≠ v.ownBlock := by
 obtain ⟨A0, c0, hb, hg, hr0⟩ := h
 exact Kd.R_ne ho hb ht
theorem IsS118.apartQ {w0 W : World} {g : Nat} {f0 : List Int} {f1 : Int} {f2 : Int} {α : Type} {d : Kd α} {e : Nat} {base : Nat} {ok : Nat → Prop} {v : Value} {xs : List α} (h : IsS118 w0 W g f0 f1 f2) (ho : d.Q e W base ok v xs) (ht : ∀ q, q ∈ e :: d.E → q ≠ 118) : d.Q e W base (fun k => ok k ∧ k ≠ g) v xs := by
 obtain ⟨A0, c0, hb, hg, hr0⟩ := h
 exact Kd.Q_types ho hb ht
theorem IsS118.own_neQ {w0 W : World} {g : Nat} {f0 : List Int} {f1 : Int} {f2 : Int} {α : Type} {d : Kd α} {e : Nat} {base : Nat} {ok : Nat → Prop} {v : Value} {xs : List α} (h : IsS118 w0 W g f0 f1 f2) (ho : d.Q e W base ok v xs) (ht : e ≠ 118) : some g ≠ v.ownBlock := by
 obtain ⟨A0, c0, hb, hg, hr0⟩ := h
 exact Kd.Q_ne ho hb ht
theorem IsS118.apartS {w0 W : World} {g : Nat} {f0 : List Int} {f1 : Int} {f2 : Int} {α : Type} {d : Kd α} {e : Nat} {base : Nat} {ok : Nat → Prop} {v : Value} {xs : List α} (h : IsS118 w0 W g f0 f1 f2) (ho : d.S e W base ok v xs) (ht : ∀ q, q ∈ e :: d.E → q ≠ 118) : d.S e W base (fun k => ok k ∧ k ≠ g) v xs := by
 obtain ⟨A0, c0, hb, hg, hr0⟩ := h
 exact Kd.S_types ho hb ht
theorem IsS118.own_neS {w0 W : World} {g : Nat} {f0 : List Int} {f1 : Int} {f2 : Int} {α : Type} {d : Kd α} {e : Nat} {base : Nat} {ok : Nat → Prop} {v : Value} {xs : List α} (h : IsS118 w0 W g f0 f1 f2) (ho : d.S e W base ok v xs) (ht : e ≠ 118) : some g ≠ v.ownBlock := by
 obtain ⟨A0, c0, hb, hg, hr0⟩ := h
 exact Kd.S_ne ho hb ht
theorem IsS118.lt {w0 W : World} {g : Nat} {f0 : List Int} {f1 : Int} {f2 : Int} (h : IsS118 w0 W g f0 f1 f2) : g < W.heap.size := by
 obtain ⟨A0, c0, hb, hg, hr0⟩ := h
 exact blk_lt hb
theorem IsS118.ge {w0 W : World} {g : Nat} {f0 : List Int} {f1 : Int} {f2 : Int} (h : IsS118 w0 W g f0 f1 f2) : w0.heap.size ≤ g := by
 obtain ⟨A0, c0, hb, hg, hr0⟩ := h
 exact hg
theorem IsS118.ne_blk {w0 W : World} {g : Nat} {f0 : List Int} {f1 : Int} {f2 : Int} {a : Nat} {cs : Array Value} {t : TypeId} {fr : Nat × Nat} (h : IsS118 w0 W g f0 f1 f2) (hb2 : W.heap[a]? = some (.cells cs t fr)) (ht : t ≠ 118) : g ≠ a := by
 obtain ⟨A0, c0, hb, hg, hr0⟩ := h
 rintro rfl
 rw [hb] at hb2
 injection hb2 with hb2
 injection hb2 with _ ht2
 exact ht ht2.symm
theorem IsS118.far {w0 W : World} {g : Nat} {f0 : List Int} {f1 : Int} {f2 : Int} {p : Addr} (h : IsS118 w0 W g f0 f1 f2) (hne : g ≠ p.block) (u : Value) : IsS118 w0 (W.setCell p u) g f0 f1 f2 := by
 obtain ⟨A0, c0, hb, hg, hr0⟩ := h
 exact ⟨A0, c0, blk_far hb hne u, hg, hr0⟩
theorem cellS118_0 {W : World} {g : Nat} {A0 : Option Addr} {c0 : Nat} {f0 : List Int} {f1 : Int} {f2 : Int} (h : W.heap[g]? = some (.cells #[.slice A0 f0.length c0, .int .i64 f1, .int .i64 f2] 118 (0, 0))) : W.cell? ⟨g, 0, none⟩ = some (.slice A0 f0.length c0) := (blk_cell h 0).trans rfl
theorem cellS118_1 {W : World} {g : Nat} {A0 : Option Addr} {c0 : Nat} {f0 : List Int} {f1 : Int} {f2 : Int} (h : W.heap[g]? = some (.cells #[.slice A0 f0.length c0, .int .i64 f1, .int .i64 f2] 118 (0, 0))) : W.cell? ⟨g, 1, none⟩ = some (.int .i64 f1) := (blk_cell h 1).trans rfl
theorem IsS118.set_1 {w0 W : World} {g : Nat} {f0 : List Int} {f1 : Int} {f2 : Int} (h : IsS118 w0 W g f0 f1 f2) (x : Int) : IsS118 w0 (W.setCell ⟨g, 1, none⟩ (.int .i64 x)) g f0 x f2 := by
 obtain ⟨A0, c0, hb, hg, hr0⟩ := h
 exact ⟨A0, c0, by simpa using blk_set hb 1 (.int .i64 x), hg, hr0⟩
theorem cellS118_2 {W : World} {g : Nat} {A0 : Option Addr} {c0 : Nat} {f0 : List Int} {f1 : Int} {f2 : Int} (h : W.heap[g]? = some (.cells #[.slice A0 f0.length c0, .int .i64 f1, .int .i64 f2] 118 (0, 0))) : W.cell? ⟨g, 2, none⟩ = some (.int .i64 f2) := (blk_cell h 2).trans rfl
theorem IsS118.set_2 {w0 W : World} {g : Nat} {f0 : List Int} {f1 : Int} {f2 : Int} (h : IsS118 w0 W g f0 f1 f2) (x : Int) : IsS118 w0 (W.setCell ⟨g, 2, none⟩ (.int .i64 x)) g f0 f1 x := by
 obtain ⟨A0, c0, hb, hg, hr0⟩ := h
 exact ⟨A0, c0, by simpa using blk_set hb 2 (.int .i64 x), hg, hr0⟩
theorem IsS118.new (w0 W : World) (A0 : Option Addr) (c0 : Nat) (f0 : List Int) (f1 : Int) (f2 : Int) (hB : Below w0.heap.size w0 W) (hr0 : Kd.C (Kd.int .u8) w0 A0 f0.length f0) : IsS118 w0 (W.alloc (.cells #[.slice A0 f0.length c0, .int .i64 f1, .int .i64 f2] 118)) W.heap.size f0 f1 f2 := ⟨A0, c0, by simpa using heap_alloc_new W _, hB.size, hr0⟩

def spec_l01New.l0 : Nat → List Int → Int → Int → Option (List Int × Int × Int)
 | 0, _, _, _ => none
 | k + 1, x0, x3, x4 => if x4 < (x0.length : Int) then (if x4 < 4000 then (if 0 ≤ x4 then (spec_l01New.l0 k x0 (Go.bits .and .i64 (wrap64 ((wrap64 ((wrap64 (x3 * 131)) + (wrap64 (rd x0 x4)))) + 7)) 1073741823) (wrap64 (x4 + 1))) else (none)) else (some (x0, 0, x3))) else (some (x0, 0, x3))
def spec_l01New.f (k : Nat) (l0 : List Int) : Option (List Int × Int × Int) := spec_l01New.l0 k l0 (wrap64 (78801 + (l0.length : Int))) 0
theorem spec_l01New.mono_l : ∀ k, (∀ y0 y1 y2, LeO (spec_l01New.l0 k y0 y1 y2) (spec_l01New.l0 (k + 1) y0 y1 y2))
 | 0 => fun _ _ _ r h => by simp [spec_l01New.l0] at h
 | k + 1 => by
  have ih0 := spec_l01New.mono_l k
  ·intro y0 y1 y2
   unfold spec_l01New.l0
   exact mo_
theorem spec_l01New.mono : ∀ a0 k, LeO (spec_l01New.f k a0) (spec_l01New.f (k + 1) a0) := by
 intro a0 k
 have ih0 := spec_l01New.mono_l k
 unfold spec_l01New.f
 exact mo_
theorem spec_l01New.calls (k : Nat) (A0 : Option Addr) (c0 : Nat) (l0 : List Int) (r1 : List Int) (r2 : Int) (r3 : Int) (w0 w : World) (hB : Below w0.heap.size w0 w) (hr0 : Kd.C (Kd.int .u8) w0 A0 l0.length l0) (hc0 : l0.length ≤ c0) (h : spec_l01New.f k l0 = some (r1, r2, r3)) :
 Calls Try.prog 60 #[.slice A0 l0.length c0] w fun e w' => ∃ g_ : Nat, e = .returned (.pointer (some ⟨g_, 0, none⟩)) ∧ IsS118 w0 w' g_ r1 r2 r3 ∧ Below w0.heap.size w0 w' ∧ Below w.heap.size w w' := by
 have hu118 := Try.underlying118
 have HR0 := Aside0.mk hr0
 have HC0 := Aside0.mk hc0
 clear hr0 hc0
 have HBW := Aside0.mk (Below.refl w.heap.size w)
 have HW0 := Aside0.mk hB.size
 have HB := Aside0.mk hB
 clear hB
 have H := h
 unfold spec_l01New.f at H
 clear h
 have H' := Aside0.mk H
 clear H
 go_enter Try.func60, Try.ntmps60
 go_wp2
 go_loopg [3, 4] k (fun kq v3 v4 w' => ∃ (x3_1 : Int) (x4_1 : Int), v3 = .int .i64 x3_1 ∧ v4 = .int .i64 x4_1 ∧ Aside0 (spec_l01New.l0 kq l0 x3_1 x4_1 = some (r1, r2, r3)) ∧ Aside0 (kq ≤ k) ∧ Aside0 (Below w0.heap.size w0 w') ∧ Aside0 (Below w.heap.size w w'))
 case atStart => exact ⟨(wrap64 (78801 + (l0.length : Int))), (0), (sr_), (sr_), H', ⟨Nat.le_refl _⟩, ⟨bl_⟩, ⟨by repeat (first | (with_reducible first | exact HBW.out | apply below_alloc | apply pw_below_drewN | apply below_drew1) | exact HBW.out)⟩⟩
 clear H'
 obtain ⟨x3_1, x4_1, rfl, rfl, HA, HK1, HB, HBW⟩ := hrel
 cases gk with
 | zero => exact absurd HA.out (by simp [spec_l01New.l0])
 | succ k1 => ?_
 have H := HA.out
 clear HA
 simp only [spec_l01New.l0] at H
 by_cases c2 : x4_1 < (l0.length : Int)
 rotate_left
 ·rw [if_neg c2] at H
  have c2b0 := decide_eq_false c2
  clear c2
  simp only [Option.some.injEq, Prod.mk.injEq] at H
  obtain ⟨rfl, rfl, rfl⟩ := H
  go_wp2_with (first | ((with_reducible refine gate_dst (N := 31) rfl ?_); refine bx_ 31 118 #[.slice A0 l0.length c0, .int .i64 0, .int .i64 x3_1] ?_; intro gb210 hg w6 hbox hb; replace HB := Aside0.mk (below_step bl_ hb); have BK210 := Aside0.mk (hbox); have GW210 := Aside0.mk ((by rw [hg]; exact (below_size (by repeat (first | (with_reducible first | exact HBW.out | apply below_alloc | apply pw_below_drewN | apply below_drew1) | exact HBW.out))) : w.heap.size ≤ gb210)); have GE210 := Aside0.mk ((Nat.le_trans HW0.out (by rw [hg]; exact (below_size (by repeat (first | (with_reducible first | exact HBW.out | apply below_alloc | apply pw_below_drewN | apply below_drew1) | exact HBW.out))) : w.heap.size ≤ gb210) : w0.heap.size ≤ gb210)); replace HBW := Aside0.mk (below_step HBW.out hb); clear hb hbox hg))
  go_ret
  exact ⟨_, rfl, (show IsS118 w0 _ gb210 l0 0 x3_1 from ⟨_, _, bk_ BK210.out, GE210.out, HR0.out⟩), bl_, by repeat (first | (with_reducible first | exact HBW.out | apply below_alloc | apply pw_below_drewN | apply below_drew1 | refine below_set ?_ GW210.out) | exact HBW.out)⟩
 rw [if_pos c2] at H
 have c2b0 := decide_eq_true c2
 clear c2
 by_cases c3 : x4_1 < 4000
 rotate_left
 ·rw [if_neg c3] at H
  have c3b0 := decide_eq_false c3
  clear c3
  simp only [Option.some.injEq, Prod.mk.injEq] at H
  obtain ⟨rfl, rfl, rfl⟩ := H
  go_wp2_with (first | ((with_reducible refine gate_dst (N := 31) rfl ?_); refine bx_ 31 118 #[.slice A0 l0.length c0, .int .i64 0, .int .i64 x3_1] ?_; intro gb209 hg w5 hbox hb; replace HB := Aside0.mk (below_step bl_ hb); have BK209 := Aside0.mk (hbox); have GW209 := Aside0.mk ((by rw [hg]; exact (below_size (by repeat (first | (with_reducible first | exact HBW.out | apply below_alloc | apply pw_below_drewN | apply below_drew1) | exact HBW.out))) : w.heap.size ≤ gb209)); have GE209 := Aside0.mk ((Nat.le_trans HW0.out (by rw [hg]; exact (below_size (by repeat (first | (with_reducible first | exact HBW.out | apply below_alloc | apply pw_below_drewN | apply below_drew1) | exact HBW.out))) : w.heap.size ≤ gb209) : w0.heap.size ≤ gb209)); replace HBW := Aside0.mk (below_step HBW.out hb); clear hb hbox hg))
  go_ret
  exact ⟨_, rfl, (show IsS118 w0 _ gb209 l0 0 x3_1 from ⟨_, _, bk_ BK209.out, GE209.out, HR0.out⟩), bl_, by repeat (first | (with_reducible first | exact HBW.out | apply below_alloc | apply pw_below_drewN | apply below_drew1 | refine below_set ?_ GW209.out) | exact HBW.out)⟩
 rw [if_pos c3] at H
 have c3b0 := decide_eq_true c3
 clear c3
 by_cases c4 : 0 ≤ x4_1
 rotate_left
 ·exact nn_ c4 H
 rw [if_pos c4] at H
 have c4b0 := decide_eq_true c4
 clear c4
 have H' := Aside0.mk H
 clear H
 have p208 : 0 ≤ (x4_1 : Int) := of_decide_eq_true as_
 have q208 : x4_1 < (l0.length : Int) := of_decide_eq_true as_
 obtain ⟨ad208, e208, hx208_0⟩ := Kd.at_int HR0.out x4_1 p208 q208
 cases e208
 replace hx208_0 := pw_cell_below HB.out hx208_0
 replace p208 := eq_true p208
 replace q208 := eq_true q208
 go_wp2
 go_roundg k1
 case measure => have := HK1.out; omega
 case rel => exact ⟨(Go.bits .and .i64 (wrap64 ((wrap64 ((wrap64 (x3_1 * 131)) + (wrap64 (rd l0 x4_1)))) + 7)) 1073741823), (wrap64 (x4_1 + 1)), (sr_), (sr_), H', ⟨by have := HK1.out; omega⟩, ⟨bl_⟩, ⟨by repeat (first | (with_reducible first | exact HBW.out | apply below_alloc | apply pw_below_drewN | apply below_drew1) | exact HBW.out)⟩⟩


def spec_l01Byte.f (s0_0 : List Int) (s0_1 : Int) (s0_2 : Int) : Option (Int × Int × Int) := if s0_1 < (s0_0.length : Int) then (if 0 ≤ s0_1 then (some (Go.bits .and .i64 (wrap64 ((Go.bits .and .i64 (Go.bits .xor .i64 ((wrap64 ((wrap64 (s0_2 * 6364136223846793005)) + 1442695040888963407)) / 8589934592) ((wrap64 ((wrap64 (s0_2 * 6364136223846793005)) + 1442695040888963407)) / 35184372088832)) 255) + (wrap64 (rd s0_0 s0_1)))) 255, wrap64 (s0_1 + 1), wrap64 ((wrap64 (s0_2 * 6364136223846793005)) + 1442695040888963407))) else (none)) else (some (Go.bits .and .i64 (Go.bits .xor .i64 ((wrap64 ((wrap64 (s0_2 * 6364136223846793005)) + 1442695040888963407)) / 8589934592) ((wrap64 ((wrap64 (s0_2 * 6364136223846793005)) + 1442695040888963407)) / 35184372088832)) 255, s0_1, wrap64 ((wrap64 (s0_2 * 6364136223846793005)) + 1442695040888963407)))
theorem spec_l01Byte.calls (g : Nat) (s0_0 : List Int) (s0_1 : Int) (s0_2 : Int) (r1 : Int) (r2 : Int) (r3 : Int) (w0 w : World) (hI : IsS118 w0 w g s0_0 s0_1 s0_2) (hB : Below w0.heap.size w0 w) (h : spec_l01Byte.f s0_0 s0_1 s0_2 = some (r1, r2, r3)) :
 Calls Try.prog 66 #[.pointer (some ⟨g, 0, none⟩)] w fun e w' => e = .returned (.int .i64 r1) ∧ IsS118 w0 w' g s0_0 r2 r3 ∧ Below w0.heap.size w0 w' ∧ KeepBut w w' g none := by
 have HI0 := Aside0.mk hI
 have HK := Aside0.mk (KeepBut.refl w g none)
 have HL := Aside0.mk hB.size
 clear hI
 have HW0 := Aside0.mk hB.size
 have HB := Aside0.mk hB
 clear hB
 have H := h
 unfold spec_l01Byte.f at H
 clear h
 by_cases c2 : s0_1 < (s0_0.length : Int)
 rotate_left
 ·rw [if_neg c2] at H
  have c2b0 := decide_eq_false c2
  clear c2
  simp only [Option.some.injEq, Prod.mk.injEq] at H
  obtain ⟨rfl, rfl, rfl⟩ := H
  obtain ⟨ASz5_0, cSz5_0, HGz5, hgz5, HSz5_0⟩ := HI0.out
  have hcz5_0 := cellS118_0 HGz5
  have hcz5_1 := cellS118_1 HGz5
  have hcz5_2 := cellS118_2 HGz5
  have hfz5_1 := blk_frozen HGz5 1
  have hfz5_2 := blk_frozen HGz5 2
  clear HGz5 hgz5
  go_enter Try.func66, Try.ntmps66
  go_wp2
  repeat (go_quiet (fail); try go_wp2)
  go_ret
  exact ⟨er_, is0_, bi0_, hkx_⟩
 rw [if_pos c2] at H
 have c2b0 := decide_eq_true c2
 clear c2
 by_cases c3 : 0 ≤ s0_1
 rotate_left
 ·exact nn_ c3 H
 rw [if_pos c3] at H
 have c3b0 := decide_eq_true c3
 clear c3
 simp only [Option.some.injEq, Prod.mk.injEq] at H
 obtain ⟨rfl, rfl, rfl⟩ := H
 obtain ⟨ASz4_0, cSz4_0, HGz4, hgz4, HSz4_0⟩ := HI0.out
 have hcz4_0 := cellS118_0 HGz4
 have hcz4_1 := cellS118_1 HGz4
 have hcz4_2 := cellS118_2 HGz4
 have hfz4_1 := blk_frozen HGz4 1
 have hfz4_2 := blk_frozen HGz4 2
 clear HGz4 hgz4
 have p211 : 0 ≤ (s0_1 : Int) := of_decide_eq_true as_
 have q211 : s0_1 < (s0_0.length : Int) := of_decide_eq_true as_
 obtain ⟨ad211, e211, hx211_0⟩ := Kd.at_int HSz4_0 s0_1 p211 q211
 cases e211
 have hn211_0 : ad211.block ≠ g := Nat.ne_of_lt (Nat.lt_of_lt_of_le (by have := World.block_lt_of_cell? _ _ hx211_0; first | rwa [add_block] at this | exact this) (IsS118.ge HI0.out))
 replace hx211_0 := pw_cell_below HB.out hx211_0
 replace hx211_0 := (cell_far (p := ⟨g, 2, none⟩) (by first | (rw [add_block]; exact hn211_0) | (show (Addr.add _ _).block ≠ _; rw [add_block]; exact hn211_0) | exact hn211_0) (.int .i64 (wrap64 ((wrap64 (s0_2 * 6364136223846793005)) + 1442695040888963407)))).trans hx211_0
 (try have hy211_0 := fun (n_ : Nat) => (show (((w.drewN n_).setCell ⟨g, 2, none⟩ (.int .i64 (wrap64 ((wrap64 (s0_2 * 6364136223846793005)) + 1442695040888963407))))).cell? _ = some _ from hx211_0))
 clear hn211_0
 replace p211 := eq_true p211
 replace q211 := eq_true q211
 go_enter Try.func66, Try.ntmps66
 go_wp2
 repeat (go_quiet (fail); try go_wp2)
 go_ret
 exact ⟨er_, is0_, bi0_, hkx_⟩


def spec_l01Below.f (s0_0 : List Int) (s0_1 : Int) (s0_2 : Int) (a1 : Int) : Option (Int × Int × Int) := if a1 ≤ 0 then (some (0, s0_1, s0_2)) else (if a1 ≤ 256 then ((spec_l01Byte.f s0_0 s0_1 s0_2).bind fun bt212 => (if a1 = 0 then (none) else (some (Int.tmod bt212.1 a1, bt212.2.1, bt212.2.2)))) else ((spec_l01Byte.f s0_0 s0_1 s0_2).bind fun bt215 => ((spec_l01Byte.f s0_0 bt215.2.1 bt215.2.2).bind fun bt218 => ((spec_l01Byte.f s0_0 bt218.2.1 bt218.2.2).bind fun bt221 => ((spec_l01Byte.f s0_0 bt221.2.1 bt221.2.2).bind fun bt224 => (if a1 = 0 then (none) else (some (Int.tmod (wrap64 ((wrap64 ((wrap64 ((wrap64 (bt215.1 * 16777216)) + (wrap64 (bt218.1 * 65536)))) + (wrap64 (bt221.1 * 256)))) + bt224.1)) a1, bt224.2.1, bt224.2.2))))))))
theorem spec_l01Below.calls (g : Nat) (s0_0 : List Int) (s0_1 : Int) (s0_2 : Int) (a1 : Int) (r1 : Int) (r2 : Int) (r3 : Int) (w0 w : World) (hI : IsS118 w0 w g s0_0 s0_1 s0_2) (hB : Below w0.heap.size w0 w) (h : spec_l01Below.f s0_0 s0_1 s0_2 a1 = some (r1, r2, r3)) :
 Calls Try.prog 62 #[.pointer (some ⟨g, 0, none⟩), .int .i64 a1] w fun e w' => e = .returned (.int .i64 r1) ∧ IsS118 w0 w' g s0_0 r2 r3 ∧ Below w0.heap.size w0 w' ∧ KeepBut w w' g none := by
 have HI0 := Aside0.mk hI
 have HK := Aside0.mk (KeepBut.refl w g none)
 have HL := Aside0.mk hB.size
 clear hI
 have HW0 := Aside0.mk hB.size
 have HB := Aside0.mk hB
 clear hB
 have H := h
 unfold spec_l01Below.f at H
 clear h
 by_cases c3 : a1 ≤ 0
 ·rw [if_pos c3] at H
  have c3b0 := decide_eq_true c3
  clear c3
  simp only [Option.some.injEq, Prod.mk.injEq] at H
  obtain ⟨rfl, rfl, rfl⟩ := H
  go_enter Try.func62, Try.ntmps62
  go_wp2
  go_ret
  exact ⟨er_, is0_, bi0_, hkx_⟩
 rw [if_neg c3] at H
 have c3b0 := decide_eq_false c3
 clear c3
 by_cases c4 : a1 ≤ 256
 ·rw [if_pos c4] at H
  have c4b0 := decide_eq_true c4
  clear c4
  replace H := bs_ H
  obtain ⟨⟨t212, t213, t214⟩, A5, H⟩ := H
  try dsimp only at H
  by_cases c6 : a1 = 0
  ·exact np_ c6 H
  rw [if_neg c6] at H
  have c6b0 : (a1 == 0) = false := beq_eq_false_iff_ne.mpr c6
  have c6b1 : (a1 != 0) = true := bne_iff_ne.mpr c6
  simp only [Option.some.injEq, Prod.mk.injEq] at H
  obtain ⟨rfl, rfl, rfl⟩ := H
  go_enter Try.func62, Try.ntmps62
  go_wp2_with (first | ((with_reducible refine gate_callee (f := 66) rfl ?_); refine gs_ (some 14) Try.func66 #[.pointer (some ⟨g, 0, none⟩)] ?_; (with_reducible refine (spec_l01Byte.calls g s0_0 s0_1 s0_2 t212 t213 t214 w0 _ ?side1 ?side2 A5.out).mono ?_); (case side1 => exact is0_); (case side2 => exact bi0_); rintro e w7 ⟨rfl, hi, hb, hk⟩; refine ⟨_, rfl, ?_⟩; replace HK := Aside0.mk (KeepBut.trans hkx_ hk (.inl rfl)); replace HB := Aside0.mk (hb); replace HI0 := Aside0.mk (hi); (try clear hb); (try clear hk); (try clear hi)))
  go_ret
  exact ⟨er_, is0_, bi0_, hkx_⟩
 rw [if_neg c4] at H
 have c4b0 := decide_eq_false c4
 clear c4
 replace H := bs_ H
 obtain ⟨⟨t215, t216, t217⟩, A8, H⟩ := H
 try dsimp only at H
 replace H := bs_ H
 obtain ⟨⟨t218, t219, t220⟩, A9, H⟩ := H
 try dsimp only at H
 replace H := bs_ H
 obtain ⟨⟨t221, t222, t223⟩, A10, H⟩ := H
 try dsimp only at H
 replace H := bs_ H
 obtain ⟨⟨t224, t225, t226⟩, A11, H⟩ := H
 try dsimp only at H
 by_cases c12 : a1 = 0
 ·exact np_ c12 H
 rw [if_neg c12] at H
 have c12b0 : (a1 == 0) = false := beq_eq_false_iff_ne.mpr c12
 have c12b1 : (a1 != 0) = true := bne_iff_ne.mpr c12
 simp only [Option.some.injEq, Prod.mk.injEq] at H
 obtain ⟨rfl, rfl, rfl⟩ := H
 go_enter Try.func62, Try.ntmps62
 go_wp2_with (first | ((with_reducible refine gate_callee (f := 66) rfl ?_); refine gs_ (some 18) Try.func66 #[.pointer (some ⟨g, 0, none⟩)] ?_; (with_reducible refine (spec_l01Byte.calls g s0_0 s0_1 s0_2 t215 t216 t217 w0 _ ?side1 ?side2 A8.out).mono ?_); (case side1 => exact is0_); (case side2 => exact bi0_); rintro e w13 ⟨rfl, hi, hb, hk⟩; refine ⟨_, rfl, ?_⟩; replace HK := Aside0.mk (KeepBut.trans hkx_ hk (.inl rfl)); replace HB := Aside0.mk (hb); replace HI0 := Aside0.mk (hi); (try clear hb); (try clear hk); (try clear hi)) | ((with_reducible refine gate_callee (f := 66) rfl ?_); refine gs_ (some 20) Try.func66 #[.pointer (some ⟨g, 0, none⟩)] ?_; (with_reducible refine (spec_l01Byte.calls g s0_0 t216 t217 t218 t219 t220 w0 _ ?side1 ?side2 A9.out).mono ?_); (case side1 => exact is0_); (case side2 => exact bi0_); rintro e w14 ⟨rfl, hi, hb, hk⟩; refine ⟨_, rfl, ?_⟩; replace HK := Aside0.mk (KeepBut.trans hkx_ hk (.inl rfl)); replace HB := Aside0.mk (hb); replace HI0 := Aside0.mk (hi); (try clear hb); (try clear hk); (try clear hi)) | ((with_reducible refine gate_callee (f := 66) rfl ?_); refine gs_ (some 22) Try.func66 #[.pointer (some ⟨g, 0, none⟩)] ?_; (with_reducible refine (spec_l01Byte.calls g s0_0 t219 t220 t221 t222 t223 w0 _ ?side1 ?side2 A10.out).mono ?_); (case side1 => exact is0_); (case side2 => exact bi0_); rintro e w15 ⟨rfl, hi, hb, hk⟩; refine ⟨_, rfl, ?_⟩; replace HK := Aside0.mk (KeepBut.trans hkx_ hk (.inl rfl)); replace HB := Aside0.mk (hb); replace HI0 := Aside0.mk (hi); (try clear hb); (try clear hk); (try clear hi)) | ((with_reducible refine gate_callee (f := 66) rfl ?_); refine gs_ (some 24) Try.func66 #[.pointer (some ⟨g, 0, none⟩)] ?_; (with_reducible refine (spec_l01Byte.calls g s0_0 t222 t223 t224 t225 t226 w0 _ ?side1 ?side2 A11.out).mono ?_); (case side1 => exact is0_); (case side2 => exact bi0_); rintro e w16 ⟨rfl, hi, hb, hk⟩; refine ⟨_, rfl, ?_⟩; replace HK := Aside0.mk (KeepBut.trans hkx_ hk (.inl rfl)); replace HB := Aside0.mk (hb); replace HI0 := Aside0.mk (hi); (try clear hb); (try clear hk); (try clear hi)))
 go_ret
 exact ⟨er_, is0_, bi0_, hkx_⟩


def spec_l01Once.f (s0_0 : List Int) (s0_1 : Int) (s0_2 : Int) (a1 : Int) : Option (Bool × Int × Int) := (spec_l01Below.f s0_0 s0_1 s0_2 a1).bind fun bt231 => (some ((bt231.1 == 0), bt231.2.1, bt231.2.2))
theorem spec_l01Once.calls (g : Nat) (s0_0 : List Int) (s0_1 : Int) (s0_2 : Int) (a1 : Int) (r1 : Bool) (r2 : Int) (r3 : Int) (w0 w : World) (hI : IsS118 w0 w g s0_0 s0_1 s0_2) (hB : Below w0.heap.size w0 w) (h : spec_l01Once.f s0_0 s0_1 s0_2 a1 = some (r1, r2, r3)) :
 Calls Try.prog 65 #[.pointer (some ⟨g, 0, none⟩), .int .i64 a1] w fun e w' => e = .returned (.bool r1) ∧ IsS118 w0 w' g s0_0 r2 r3 ∧ Below w0.heap.size w0 w' ∧ KeepBut w w' g none := by
 have HI0 := Aside0.mk hI
 have HK := Aside0.mk (KeepBut.refl w g none)
 have HL := Aside0.mk hB.size
 clear hI
 have HW0 := Aside0.mk hB.size
 have HB := Aside0.mk hB
 clear hB
 have H := h
 unfold spec_l01Once.f at H
 clear h
 replace H := bs_ H
 obtain ⟨⟨t231, t232, t233⟩, A3, H⟩ := H
 try dsimp only at H
 simp only [Option.some.injEq, Prod.mk.injEq] at H
 obtain ⟨rfl, rfl, rfl⟩ := H
 go_enter Try.func65, Try.ntmps65
 go_wp2_with (first | ((with_reducible refine gate_callee (f := 62) rfl ?_); refine gs_ (some 7) Try.func62 #[.pointer (some ⟨g, 0, none⟩), .int .i64 a1] ?_; (with_reducible refine (spec_l01Below.calls g s0_0 s0_1 s0_2 a1 t231 t232 t233 w0 _ ?side1 ?side2 A3.out).mono ?_); (case side1 => exact is0_); (case side2 => exact bi0_); rintro e w4 ⟨rfl, hi, hb, hk⟩; refine ⟨_, rfl, ?_⟩; replace HK := Aside0.mk (KeepBut.trans hkx_ hk (.inl rfl)); replace HB := Aside0.mk (hb); replace HI0 := Aside0.mk (hi); (try clear hb); (try clear hk); (try clear hi)))
 go_ret
 exact ⟨er_, is0_, bi0_, hkx_⟩


def spec_l01PickInt.f (s0_0 : List Int) (s0_1 : Int) (s0_2 : Int) (l1 : List Int) : Option (Int × Int × Int) := (spec_l01Below.f s0_0 s0_1 s0_2 (l1.length : Int)).bind fun bt227 => (if 0 ≤ bt227.1 then (if bt227.1 < (l1.length : Int) then (some (rd l1 bt227.1, bt227.2.1, bt227.2.2)) else (none)) else (none))
theorem spec_l01PickInt.calls (g : Nat) (s0_0 : List Int) (s0_1 : Int) (s0_2 : Int) (A1 : Option Addr) (c1 : Nat) (l1 : List Int) (r1 : Int) (r2 : Int) (r3 : Int) (w0 w : World) (hI : IsS118 w0 w g s0_0 s0_1 s0_2) (hB : Below w0.heap.size w0 w) (hr1 : Kd.C (Kd.int .i64) w A1 l1.length l1) (hc1 : l1.length ≤ c1) (hf1 : ∀ ad, A1 = some ad → 0 < l1.length → ad.block ≠ g) (h : spec_l01PickInt.f s0_0 s0_1 s0_2 l1 = some (r1, r2, r3)) :
 Calls Try.prog 104 #[.pointer (some ⟨g, 0, none⟩), .slice A1 l1.length c1] w fun e w' => e = .returned (.int .i64 r1) ∧ IsS118 w0 w' g s0_0 r2 r3 ∧ Below w0.heap.size w0 w' ∧ KeepBut w w' g none := by
 have HR1 := Aside0.mk hr1
 have HC1 := Aside0.mk hc1
 clear hr1 hc1
 have HI0 := Aside0.mk hI
 have HK := Aside0.mk (KeepBut.refl w g none)
 have HL := Aside0.mk hB.size
 clear hI
 have HW0 := Aside0.mk hB.size
 have HB := Aside0.mk hB
 clear hB
 have H := h
 unfold spec_l01PickInt.f at H
 clear h
 replace H := bs_ H
 obtain ⟨⟨t227, t228, t229⟩, A3, H⟩ := H
 try dsimp only at H
 by_cases c4 : 0 ≤ t227
 rotate_left
 ·exact nn_ c4 H
 rw [if_pos c4] at H
 have c4b0 := decide_eq_true c4
 clear c4
 by_cases c5 : t227 < (l1.length : Int)
 rotate_left
 ·exact nn_ c5 H
 rw [if_pos c5] at H
 have c5b0 := decide_eq_true c5
 clear c5
 simp only [Option.some.injEq, Prod.mk.injEq] at H
 obtain ⟨rfl, rfl, rfl⟩ := H
 go_enter Try.func104, Try.ntmps104
 go_wp2_with (first | ((with_reducible refine gate_callee (f := 62) rfl ?_); refine gs_ (some 9) Try.func62 #[.pointer (some ⟨g, 0, none⟩), .int .i64 (l1.length : Int)] ?_; (with_reducible refine (spec_l01Below.calls g s0_0 s0_1 s0_2 (l1.length : Int) t227 t228 t229 w0 _ ?side1 ?side2 A3.out).mono ?_); (case side1 => exact is0_); (case side2 => exact bi0_); rintro e w6 ⟨rfl, hi, hb, hk⟩; refine ⟨_, rfl, ?_⟩; replace HK := Aside0.mk (KeepBut.trans hkx_ hk (.inl rfl)); replace HB := Aside0.mk (hb); replace HI0 := Aside0.mk (hi); (try clear hb); (try clear hk); (try clear hi); have p230 : 0 ≤ (t227 : Int) := of_decide_eq_true as_; have q230 : t227 < (l1.length : Int) := of_decide_eq_true as_; obtain ⟨ad230, e230, hx230_0⟩ := Kd.at_int HR1.out t227 p230 q230; cases e230; replace hx230_0 := keep_cell HK.out hx230_0 (by first | (rw [add_block]; exact hf1 _ rfl (by omega)) | exact hf1 _ rfl (by omega) | exact hf1 ad230 rfl (by omega)); replace p230 := eq_true p230; replace q230 := eq_true q230))
 go_ret
 exact ⟨er_, is0_, bi0_, hkx_⟩


def spec_l04Half.f (s0_0 : List Int) (s0_1 : Int) (s0_2 : Int) : Option (Int × Int × Int) := (spec_l01Below.f s0_0 s0_1 s0_2 12).bind fun bt234 => ((spec_l01PickInt.f s0_0 bt234.2.1 bt234.2.2 (([0, 1, 2, 3, 5, 7, 255, 4294967295, 2147483648, bt234.1] : List Int))).bind fun bt240 => (some (bt240.1, bt240.2.1, bt240.2.2)))
theorem spec_l04Half.calls (g : Nat) (s0_0 : List Int) (s0_1 : Int) (s0_2 : Int) (r1 : Int) (r2 : Int) (r3 : Int) (w0 w : World) (hI : IsS118 w0 w g s0_0 s0_1 s0_2) (hB : Below w0.heap.size w0 w) (h : spec_l04Half.f s0_0 s0_1 s0_2 = some (r1, r2, r3)) :
 Calls Try.prog 128 #[.pointer (some ⟨g, 0, none⟩)] w fun e w' => e = .returned (.int .i64 r1) ∧ IsS118 w0 w' g s0_0 r2 r3 ∧ Below w0.heap.size w0 w' ∧ KeepBut w w' g none := by
 have HI0 := Aside0.mk hI
 have HK := Aside0.mk (KeepBut.refl w g none)
 have HL := Aside0.mk hB.size
 clear hI
 have HW0 := Aside0.mk hB.size
 have HB := Aside0.mk hB
 clear hB
 have H := h
 unfold spec_l04Half.f at H
 clear h
 replace H := bs_ H
 obtain ⟨⟨t234, t235, t236⟩, A2, H⟩ := H
 try dsimp only at H
 obtain ⟨y237, hy237⟩ : ∃ y_ : List Int, y_ = (([0, 1, 2, 3, 5, 7, 255, 4294967295, 2147483648, t234] : List Int)) := ⟨_, rfl⟩
 replace H : ((spec_l01PickInt.f s0_0 t235 t236 y237).bind fun bt240 => (some (bt240.1, bt240.2.1, bt240.2.2))) = some (r1, r2, r3) := rp_ H hy237
 have Ny237 := Aside0.mk hy237
 clear hy237
 replace H := bs_ H
 obtain ⟨⟨t240, t241, t242⟩, A3, H⟩ := H
 try dsimp only at H
 simp only [Option.some.injEq, Prod.mk.injEq] at H
 obtain ⟨rfl, rfl, rfl⟩ := H
 go_enter Try.func128, Try.ntmps128
 go_wp2_with (first | ((with_reducible refine gate_callee (f := 62) rfl ?_); refine gs_ (some 5) Try.func62 #[.pointer (some ⟨g, 0, none⟩), .int .i64 12] ?_; (with_reducible refine (spec_l01Below.calls g s0_0 s0_1 s0_2 12 t234 t235 t236 w0 _ ?side1 ?side2 A2.out).mono ?_); (case side1 => exact is0_); (case side2 => exact bi0_); rintro e w4 ⟨rfl, hi, hb, hk⟩; refine ⟨_, rfl, ?_⟩; replace HK := Aside0.mk (KeepBut.trans hkx_ hk (.inl rfl)); replace HB := Aside0.mk (hb); replace HI0 := Aside0.mk (hi); (try clear hb); (try clear hk); (try clear hi)) | ((with_reducible refine gate_dst (N := 6) rfl ?_); refine Kd.R_lit (Kd.int .i64) _ 3 ?hg (N := 6) ?hd (xs := ([0, 1, 2, 3, 5, 7, 255, 4294967295, 2147483648, t234] : List Int)) (inner := [.int .i64 0, .int .i64 1, .int .i64 2, .int .i64 3, .int .i64 5, .int .i64 7, .int .i64 255, .int .i64 4294967295, .int .i64 2147483648, .int .i64 t234]) (ok := fun _ => True) (okp := fun _ => True) ?hr ?hp (fun _ hk => hk) trivial (Below.refl _ _) (Nat.le_refl _) (by simp) ?_; (case hd => rfl); (case hg => rfl); (case hr => first | (go_simp; done) | (go_simp; rfl)); (case hp => exact (Reps.one (show Kd.M (Kd.int .i64) _ _ _ 0 [.int .i64 0] from rfl) (Reps.one (show Kd.M (Kd.int .i64) _ _ _ 1 [.int .i64 1] from rfl) (Reps.one (show Kd.M (Kd.int .i64) _ _ _ 2 [.int .i64 2] from rfl) (Reps.one (show Kd.M (Kd.int .i64) _ _ _ 3 [.int .i64 3] from rfl) (Reps.one (show Kd.M (Kd.int .i64) _ _ _ 5 [.int .i64 5] from rfl) (Reps.one (show Kd.M (Kd.int .i64) _ _ _ 7 [.int .i64 7] from rfl) (Reps.one (show Kd.M (Kd.int .i64) _ _ _ 255 [.int .i64 255] from rfl) (Reps.one (show Kd.M (Kd.int .i64) _ _ _ 4294967295 [.int .i64 4294967295] from rfl) (Reps.one (show Kd.M (Kd.int .i64) _ _ _ 2147483648 [.int .i64 2147483648] from rfl) (Reps.one (show Kd.M (Kd.int .i64) _ _ _ t234 [.int .i64 t234] from rfl) (Reps.none _ _)))))))))))); intro v238 w5 ho6 hb hg_ hnew_; clear hg_ hnew_; (first | rw [← Ny237.out] at ho6 | (simp only [Int.reduceToNat] at ho6; rw [← Ny237.out] at ho6)); have HO239 := Aside0.mk (Kd.R_lower ho6 (keep_size (w := w) (g := g) (row := none) hkx_)); replace HK := Aside0.mk (KeepBut.trans hkx_ (KeepBut.of_below hb g none) (.inl rfl)); replace HB := Aside0.mk (below_step bi0_ hb); replace HI0 := Aside0.mk (IsS118.below is0_ hb); clear hb ho6; obtain ⟨Ao7, co7, eo7⟩ := Kd.R_slice HO239.out; subst eo7) | ((with_reducible refine gate_callee (f := 104) rfl ?_); refine gs_ (some 7) Try.func104 #[.pointer (some ⟨g, 0, none⟩), .slice Ao7 y237.length co7] ?_; (with_reducible refine (spec_l01PickInt.calls g s0_0 t235 t236 _ _ y237 t240 t241 t242 w0 _ ?side1 ?side2 ?side3 ?side4 ?side5 A3.out).mono ?_); (case side1 => exact is0_); (case side2 => exact bi0_); (case side3 => exact cs_ ((Kd.R_reads' HO239.out).2.2)); (case side4 => exact (Kd.R_reads' HO239.out).2.1); (case side5 => exact far_slice (IsS118.own_ne HI0.out HO239.out (by decide))); rintro e w8 ⟨rfl, hi, hb, hk⟩; refine ⟨_, rfl, ?_⟩; replace HO239 := Aside0.mk (Kd.R_mono (Kd.R_keep (IsS118.apart (show IsS118 w0 _ g s0_0 t235 t236 from is0_) (ra_ HO239.out) (by decide)) hk (fun _ h => h.2)) (fun _ h => h.1)); replace HK := Aside0.mk (KeepBut.trans hkx_ hk (.inl rfl)); replace HB := Aside0.mk (hb); replace HI0 := Aside0.mk (hi); (try clear hb); (try clear hk); (try clear hi)))
 go_ret
 exact ⟨er_, is0_, bi0_, hkx_⟩

end Go.Proofs.Ytjfmpodeenidnaa.PC
