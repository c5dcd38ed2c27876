/- Contracts of functions of the program and of the reference, and plain lemmas on what they compute. No condition. -/
import Derived.Test.YtjfmpodeenidnaaG90508x0
import Derived.Test.YtjfmpodeenidnaaProg
import Derived.Below
import Derived.Deep.Draws
import Derived.Deep.AppendLies
import Derived.Maps.AppendAt
import Derived.OwnWalk
import Derived.Laws.BytesArg
import Derived.Laws.MakeOwn
import Derived.Laws.OwnMore
import Derived.Deep.OwnRows
import Derived.Tactics
import Derived.Lib.ConvBytes
import Derived.Laws.Slices
import Derived.WalkKit
import Derived.KernelRfl
import Derived.RowKit3
import Derived.Deep.LoopGhost
import Derived.Deep.QuietTactic
import Derived.BigQuiet
import Derived.WideLaws
import Derived.Deep.DeepCutAuto
import Derived.Deep.CutBlock
import Derived.Deep.RegionHeld3
import Derived.Laws.Rows
import Derived.Lib.AppendStr
import Derived.ArgAppend
import Derived.Laws.IdiomCopy
import Derived.OrdersHeld
import Derived.Laws.BitsLemmas
import Derived.RowKit
import Derived.Test.YtjfmpodeenidnaaV0
import Derived.Lib.SliceRun
import Derived.Test.YtjfmpodeenidnaaG90508x1
import Derived.Test.YtjfmpodeenidnaaShortV
set_option maxHeartbeats 8000000
set_option maxRecDepth 100000
namespace Go.Proofs.Ytjfmpodeenidnaa.PC
open Go.RowKit Go.Proofs.YtjfmpodeenidnaaW.PrintWords Go.Proofs.YtjfmpodeenidnaaW.PrintLast Go.Proofs.YtjfmpodeenidnaaW.PrintMore
set_option linter.unusedVariables false
set_option linter.unusedSimpArgs false
def firstAt (q : Nat → Bool) (n : Nat) : Int := match (List.range n).find? q with
 | some j => (j : Int)
 | none => -1
theorem firstAt_hit {q : Nat → Bool} {n j : Nat} (hj : j < n) (hq : q j = true) (hno : ∀ i, i < j → q i = false) : firstAt q n = (j : Int) := by
 have : (List.range n).find? q = some j := by
  rw [List.find?_range_eq_some]
  exact ⟨hq, List.mem_range.2 hj, fun i hi => by rw [hno i hi]; rfl⟩
 unfold firstAt
 rw [this]
theorem firstAt_miss {q : Nat → Bool} {n : Nat} (hno : ∀ i, i < n → q i = false) : firstAt q n = -1 := by
 have : (List.range n).find? q = none := by
  rw [List.find?_eq_none]
  intro x hx
  rw [hno x (List.mem_range.1 hx)]
  decide
 unfold firstAt
 rw [this]
theorem four_of {r : List Value} (h : r.length = 4) : ∃ a b c d, r = [a, b, c, d] := by
 match r, h with
 | [a, b, c, d], _ => exact ⟨a, b, c, d, rfl⟩
theorem idxFunc_calls (gf : Nat) (lb : Array Value) (eg : ∀ args w, (callFunc gf args).run Try.prog w = .ok (.enter gf args) w) (A : Option Addr) (n c : Nat) (rows : List (List Value)) (hlen : ∀ r ∈ rows, r.length = 4) (hn : rows.length = n) (hb : n ≤ 9223372036854775807) (q : Nat → Bool) (row : Option Nat) (w : World)
 (hc : ∀ (j : Nat) (r : List Value), rows[j]? = some r → ∃ ad, A = some ad ∧ ad.block < w.heap.size ∧ ∀ (t : Nat) u, r[t]? = some u → w.cell? (ad.add (j * 4 + t)) = some u)
 (hp : ∀ (W : World) (j : Nat) (r : List Value), w.grownBy W row → rows[j]? = some r → Calls Try.prog gf (#[.agg r.toArray] ++ lb) W fun e w' => e = .returned (.bool (q j)) ∧ Below W.heap.size W w') :
 Calls Try.prog 108 #[.slice A n c, .func (.func gf) #[] lb] w fun e w' => e = .returned (.int .i64 (firstAt q n)) ∧ Below w.heap.size w w' := by
 have hu53 := Try.underlying53
 go_enter Try.func108, Try.ntmps108
 go_wp2
 go_loopg [5, 8] n (fun gg _ v8 wr => ∃ kk : Nat, kk ≤ n ∧ n - kk ≤ gg ∧ v8 = .int .i64 kk ∧ Aside0 (Below w.heap.size w wr) ∧ Aside0 (∀ j, j < kk → q j = false))
 case atStart => exact ⟨0, Nat.zero_le _, by omega, rfl, ⟨by repeat (first | exact Below.refl _ _ | apply below_alloc | apply pw_below_drewN | apply below_drew1)⟩, ⟨fun j hj => absurd hj (Nat.not_lt_zero _)⟩⟩
 case round =>
  obtain ⟨kk, hkk, hg, rfl, BW, AN⟩ := hrel
  by_cases hlt : kk < n
  ·have hltz : decide ((kk : Int) < (n : Int)) = true := decide_eq_true (by omega)
   obtain ⟨r, hr⟩ : ∃ r, rows[kk]? = some r := ⟨rows[kk]'(by omega), List.getElem?_eq_getElem (by omega)⟩
   obtain ⟨ad, rfl, hbl, hcell⟩ := hc kk r hr
   obtain ⟨a0, a1, a2, a3, rfl⟩ := four_of (hlen r (List.mem_of_getElem? hr))
   have hx_0 : wr.cell? (ad.add (kk * 4)) = some a0 := (BW.out.cell (p := ad.add (kk * 4 + 0)) (by rw [add_block]; exact hbl)).trans (hcell 0 a0 rfl)
   have hx_1 := (BW.out.cell (p := ad.add (kk * 4 + 1)) (by rw [add_block]; exact hbl)).trans (hcell 1 a1 rfl)
   have hx_2 := (BW.out.cell (p := ad.add (kk * 4 + 2)) (by rw [add_block]; exact hbl)).trans (hcell 2 a2 rfl)
   have hx_3 := (BW.out.cell (p := ad.add (kk * 4 + 3)) (by rw [add_block]; exact hbl)).trans (hcell 3 a3 rfl)
   rw [add_field _ _ 1 (by omega)] at hx_1
   rw [add_field _ _ 2 (by omega)] at hx_2
   rw [add_field _ _ 3 (by omega)] at hx_3
   have p0 : (0 ≤ (kk : Int)) = True := eq_true (by omega)
   have q0 : ((kk : Int) < (n : Int)) = True := eq_true (by omega)
   have hcall : Calls Try.prog gf (#[.agg #[a0, a1, a2, a3]] ++ lb) wr _ := hp wr kk _ ⟨BW.out.os, BW.out.tape, BW.out.output, BW.out.size, fun k hk _ => BW.out.block k hk⟩ hr
   clear hp hc hcell
   cases hq : q kk with
   | true =>
    rw [hq] at hcall
    go_wp2_with (go_at_fn gf; refine hcall.mono ?_; rintro e w' ⟨rfl, hb'⟩)
    go_ret
    exact ⟨by rw [firstAt_hit hlt hq AN.out]; rfl, below_step BW.out hb'⟩
   | false =>
    rw [hq] at hcall
    go_wp2_with (go_at_fn gf; refine hcall.mono ?_; rintro e w' ⟨rfl, hb'⟩)
    go_roundg (n - (kk + 1))
    case measure => omega
    case rel =>
     refine ⟨kk + 1, by omega, Nat.le_refl _, by go_num, ⟨below_step BW.out hb'⟩, ⟨fun j hj => ?_⟩⟩
     by_cases e : j = kk
     ·subst e; exact hq
     ·exact AN.out j (by omega)
  ·have hltz : decide ((kk : Int) < (n : Int)) = false := decide_eq_false (by omega)
   obtain rfl : kk = n := by omega
   go_wp2
   go_ret
   exact ⟨by rw [firstAt_miss AN.out]; rfl, BW.out⟩
theorem put4 {W : World} {g : Nat} {z0 z1 z2 z3 : Value} (a0 a1 a2 a3 : Value) (h : W.heap[g]? = some (.cells #[z0, z1, z2, z3] 53 (0, 0))) :
 ((((W.setCell ⟨g, 0, none⟩ a0).setCell ⟨g, 1, none⟩ a1).setCell ⟨g, 2, none⟩ a2).setCell ⟨g, 3, none⟩ a3).heap[g]? = some (.cells #[a0, a1, a2, a3] 53 (0, 0)) ∧ ∀ k, k ≠ g → ((((W.setCell ⟨g, 0, none⟩ a0).setCell ⟨g, 1, none⟩ a1).setCell ⟨g, 2, none⟩ a2).setCell ⟨g, 3, none⟩ a3).heap[k]? = W.heap[k]? := by
 constructor
 ·exact blk_put (cs := #[a0, a1, a2, z3]) (blk_put (cs := #[a0, a1, z2, z3]) (blk_put (cs := #[a0, z1, z2, z3]) (blk_put (cs := #[z0, z1, z2, z3]) h 0 _ rfl) 1 _ rfl) 2 _ rfl) 3 _ rfl
 ·intro k hk
  rw [Below.heap_setCell _ ⟨g, 3, none⟩ _ k hk, Below.heap_setCell _ ⟨g, 2, none⟩ _ k hk, Below.heap_setCell _ ⟨g, 1, none⟩ _ k hk, Below.heap_setCell _ ⟨g, 0, none⟩ _ k hk]
end Go.Proofs.Ytjfmpodeenidnaa.PC

namespace Go.Proofs.Ytjfmpodeenidnaa.PC
open Go.RowKit Go.Proofs.Ytjfmpodeenidnaa.Short Go.Proofs.YtjfmpodeenidnaaW.PrintWords Go.Proofs.YtjfmpodeenidnaaW.PrintLast Go.Proofs.YtjfmpodeenidnaaW.PrintMore
attribute [local go_sem] max2_int min2_int max_two min_two max_three min_three max_four min_four   -- for this text's walks alone
set_option linter.unusedVariables false
set_option linter.unusedSimpArgs false

def impl_copyRule.f (l0_0 : List Int) (l0_1 : List (S100)) (a0_2 : Int) (a0_3 : Int) : Option (List Int × (List (S100)) × Int × Int) := (some (([] : List Int) : List Int)).bind fun y498 => (if y498.length + l0_0.length < 17592186044416 then ((some (([] : List (S100)) : List (S100))).bind fun y504 => (if y504.length + l0_1.length < 2932031007402 then (some ((y498 ++ l0_0), (y504 ++ l0_1), a0_2, a0_3)) else (none))) else (none))
theorem impl_copyRule.calls (A0_0 : Option Addr) (c0_0 : Nat) (l0_0 : List Int) (A0_1 : Option Addr) (c0_1 : Nat) (l0_1 : List (S100)) (a0_2 : Int) (a0_3 : Int) (r1 : List Int) (r2 : List (S100)) (r3 : Int) (r4 : Int) (w : World) (hr0_0 : Kd.C (Kd.int .i64) w A0_0 l0_0.length l0_0) (hc0_0 : l0_0.length ≤ c0_0) (hr0_1 : Kd.C k100 w A0_1 l0_1.length l0_1) (hc0_1 : l0_1.length ≤ c0_1) (h : impl_copyRule.f l0_0 l0_1 a0_2 a0_3 = some (r1, r2, r3, r4)) :
 Calls Try.prog 107 #[.agg #[.slice A0_0 l0_0.length c0_0, .slice A0_1 l0_1.length c0_1, .int .i64 a0_2, .int .i64 a0_3]] w fun e w' => ∃ v0_ v1_ : Value, e = .returned (.agg #[v0_, v1_, .int .i64 r3, .int .i64 r4]) ∧ Kd.R (Kd.int .i64) 3 w' w.heap.size (fun _ => True) v0_ r1 ∧ Kd.R k100 100 w' w.heap.size (fun _ => True) v1_ r2 ∧ Below w.heap.size w w' := by
 have hu53 := Try.underlying53
 have HR0_0 := Aside0.mk hr0_0
 have HC0_0 := Aside0.mk hc0_0
 clear hr0_0 hc0_0
 have HR0_1 := Aside0.mk hr0_1
 have HC0_1 := Aside0.mk hc0_1
 clear hr0_1 hc0_1
 have HB := Aside0.mk (Below.refl w.heap.size w)
 have H := h
 unfold impl_copyRule.f at H
 clear h
 obtain ⟨y498, hy498⟩ : ∃ y_ : List Int, y_ = (([] : List Int)) := ⟨_, rfl⟩
 replace H : (if y498.length + l0_0.length < 17592186044416 then ((some (([] : List (S100)) : List (S100))).bind fun y504 => (if y504.length + l0_1.length < 2932031007402 then (some ((y498 ++ l0_0), (y504 ++ l0_1), a0_2, a0_3)) else (none))) else (none)) = some (r1, r2, r3, r4) := rp_ H hy498
 have Ny498 := Aside0.mk hy498
 clear hy498
 by_cases c2 : y498.length + l0_0.length < 17592186044416
 rotate_left
 ·exact nn_ c2 H
 rw [if_pos c2] at H
 have LMc2 := Aside0.mk c2
 clear c2
 obtain ⟨y501, hy501⟩ : ∃ y_ : List Int, y_ = (y498 ++ l0_0) := ⟨_, rfl⟩
 replace H : ((some (([] : List (S100)) : List (S100))).bind fun y504 => (if y504.length + l0_1.length < 2932031007402 then (some (y501, (y504 ++ l0_1), a0_2, a0_3)) else (none))) = some (r1, r2, r3, r4) := rp_ H hy501
 have Ny501 := Aside0.mk hy501
 clear hy501
 obtain ⟨y504, hy504⟩ : ∃ y_ : List (S100), y_ = (([] : List (S100))) := ⟨_, rfl⟩
 replace H : (if y504.length + l0_1.length < 2932031007402 then (some (y501, (y504 ++ l0_1), a0_2, a0_3)) else (none)) = some (r1, r2, r3, r4) := rp_ H hy504
 have Ny504 := Aside0.mk hy504
 clear hy504
 by_cases c3 : y504.length + l0_1.length < 2932031007402
 rotate_left
 ·exact nn_ c3 H
 rw [if_pos c3] at H
 have LMc3 := Aside0.mk c3
 clear c3
 obtain ⟨y507, hy507⟩ : ∃ y_ : List (S100), y_ = (y504 ++ l0_1) := ⟨_, rfl⟩
 replace H : (some (y501, y507, a0_2, a0_3)) = some (r1, r2, r3, r4) := rp_ H hy507
 have Ny507 := Aside0.mk hy507
 clear hy507
 simp only [Option.some.injEq, Prod.mk.injEq] at H
 obtain ⟨rfl, rfl, rfl, rfl⟩ := H
 go_enter Try.func107, Try.ntmps107
 go_wp2_with (first | ((with_reducible refine gate_dst (N := 1) rfl ?_); refine bx_ 1 53 #[.slice A0_0 l0_0.length c0_0, .slice A0_1 l0_1.length c0_1, .int .i64 a0_2, .int .i64 a0_3] ?_; intro gb496 hg w4 hbox hb; have BK496 := Aside0.mk (hbox); have GW496 := Aside0.mk ((hz_ : w.heap.size ≤ gb496)); have GE496 := GW496; replace HB := Aside0.mk (below_step bl_ hb); clear hb hbox hg) | ((with_reducible refine gate_dst (N := 2) rfl ?_); refine bx_ 2 53 #[.slice none 0 0, .slice none 0 0, .int .i64 0, .int .i64 0] ?_; intro gb497 hg w5 hbox hb; have BK497 := Aside0.mk (hbox); have GW497 := Aside0.mk ((hz_ : w.heap.size ≤ gb497)); have GE497 := GW497; replace HB := Aside0.mk (below_step bl_ hb); have NB496_497 := Aside0.mk (nl_ BK496.out hg); have NB497_496 := Aside0.mk (ng_ BK496.out hg); replace BK496 := bb0_ BK496.out hb; clear hb hbox hg) | ((with_reducible refine gate_dst (N := 3) rfl ?_); refine Kd.R_lit (Kd.int .i64) _ 3 ?hg (N := 3) ?hd (xs := ([] : List Int)) (inner := []) (ok := fun _ => True) (okp := fun _ => True) ?hr ?hp (fun _ hk => hk) trivial (Below.refl _ _) (Nat.le_refl _) (by simp) ?_; (case hd => rfl); (case hg => rfl); (case hr => first | (go_simp; done) | (go_simp; rfl)); (case hp => exact (Reps.none _ _)); intro v499 w6 ho7 hb hg_ hnew_; clear hg_ hnew_; (first | rw [← Ny498.out] at ho7 | (simp only [Int.reduceToNat] at ho7; rw [← Ny498.out] at ho7)); have HO500 := Aside0.mk (Kd.R_lower ho7 (below_size bl_)); replace BK496 := bb0_ BK496.out hb; replace BK497 := bb0_ BK497.out hb; replace HB := Aside0.mk (below_step bl_ hb); clear hb ho7; have hnb8 := NB496_497.out; have hnc8 := NB497_496.out; obtain ⟨hcz9_0, hcz9_1, hcz9_2, hcz9_3, hfz9_0, hfz9_1, hfz9_2, hfz9_3⟩ := cf4_ BK496.out) | ((with_reducible refine gate_builtin (b := .append) (xs := #[.tmp 3, .tmp 5]) rfl ?_); at_builtin; refine Kd.R_append_rows (Kd.int .i64) (w0 := w) w.heap.size rfl (.tmp 3) (.tmp 5) 32 3 (.int .i64 0) 8 rfl Try.underlying32 info3 rfl (by decide) (by omega) v499 y498 l0_0 _ _ _ (fun _ => True) (fun _ => False) rfl rfl ?aO ?aR (fun _ _ h => h) (fun _ h => h.elim) ?aF ?aB ?aS ?aL ?_; (case aR => repeat (first | exact (Kd.C_below HR0_0.out HB.out) | exact HR0_0.out | (with_reducible refine Kd.C_alloc ?_ _) | (with_reducible refine Kd.C_drewN ?_ _) | (with_reducible refine Kd.C_drew ?_))); (case aB => exact bl_); (case aF => exact (fun _ _ => trivial)); (case aO => exact (ra_ HO500.out)); (case aS => exact (below_size bl_)); (case aL => have := LMc2.out; omega); intro v502 w10 ho hb hg hat; rw [← Ny501.out] at ho; replace BK496 := Aside0.mk (blk_grown (g := gb496) (o := .cells #[.slice A0_0 l0_0.length c0_0, .slice A0_1 l0_1.length c0_1, .int .i64 a0_2, .int .i64 a0_3] 53 (0, 0)) (bk_ BK496.out) hg (Kd.R_ne HO500.out BK496.out (by decide))); replace BK497 := Aside0.mk (blk_grown (g := gb497) (o := .cells #[.slice none 0 0, .slice none 0 0, .int .i64 0, .int .i64 0] 53 (0, 0)) (bk_ BK497.out) hg (Kd.R_ne HO500.out BK497.out (by decide))); replace HB := Aside0.mk (hb); have HO503 := Aside0.mk (ho); clear HO500; clear ho hb hg hat; obtain ⟨Ao11, co11, eo11⟩ := Kd.R_slice HO503.out; subst eo11; obtain ⟨hcz12_0, hcz12_1, hcz12_2, hcz12_3, hfz12_0, hfz12_1, hfz12_2, hfz12_3⟩ := cf4_ BK496.out) | ((with_reducible refine gate_dst (N := 8) rfl ?_); refine Kd.R_lit k100 _ 100 ?hg (N := 8) ?hd (xs := ([] : List (S100))) (inner := []) (ok := fun _ => True) (okp := fun _ => True) ?hr ?hp (fun _ hk => hk) trivial (Below.refl _ _) (Nat.le_refl _) (by simp) ?_; (case hd => rfl); (case hg => rfl); (case hr => first | (go_simp; done) | (go_simp; rfl)); (case hp => exact (Reps.none _ _)); intro v505 w13 ho14 hb hg_ hnew_; clear hg_ hnew_; (first | rw [← Ny504.out] at ho14 | (simp only [Int.reduceToNat] at ho14; rw [← Ny504.out] at ho14)); replace HO503 := Aside0.mk (Kd.R_below (rfa_ HO503.out BK496.out) hb); have HO506 := Aside0.mk (Kd.R_lower ho14 (below_size bl_)); replace BK496 := Aside0.mk (blk_below (g := gb496) (o := .cells #[.slice Ao11 y501.length co11, .slice A0_1 l0_1.length c0_1, .int .i64 a0_2, .int .i64 a0_3] 53 (0, 0)) (bp0_ BK496.out) hb); replace BK497 := bb1_ BK497.out NB497_496.out hb; replace HB := Aside0.mk (below_step bl_ hb); clear hb ho14; obtain ⟨hcz15_0, hcz15_1, hcz15_2, hcz15_3, hfz15_0, hfz15_1, hfz15_2, hfz15_3⟩ := cf4_ BK496.out) | ((with_reducible refine gate_builtin (b := .append) (xs := #[.tmp 8, .tmp 10]) rfl ?_); at_builtin; refine Kd.R_append_rows k100 (w0 := w) w.heap.size rfl (.tmp 8) (.tmp 10) 51 100 (.agg #[(.int .i64 0), (.int .i64 0), (.int .i64 0), (.int .i64 0), (.int .i64 0), (.int .i64 0)]) 48 rfl Try.underlying51 info100 rfl (by decide) (by omega) v505 y504 l0_1 _ _ _ (fun _ => True) (fun _ => False) rfl rfl ?aO ?aR (fun _ _ h => h) (fun _ h => h.elim) ?aF ?aB ?aS ?aL ?_; (case aR => repeat (first | exact (Kd.C_below HR0_1.out HB.out) | exact HR0_1.out | (with_reducible refine Kd.C_alloc ?_ _) | (with_reducible refine Kd.C_drewN ?_ _) | (with_reducible refine Kd.C_drew ?_))); (case aB => exact bl_); (case aF => exact (fun _ _ => trivial)); (case aO => exact (ra_ HO506.out)); (case aS => exact (below_size bl_)); (case aL => have := LMc3.out; omega); intro v508 w16 ho hb hg hat; rw [← Ny507.out] at ho; replace BK496 := Aside0.mk (blk_grown (g := gb496) (o := .cells #[.slice Ao11 y501.length co11, .slice A0_1 l0_1.length c0_1, .int .i64 a0_2, .int .i64 a0_3] 53 (0, 0)) (bk_ BK496.out) hg (Kd.R_ne HO506.out BK496.out (by decide))); replace BK497 := Aside0.mk (blk_grown (g := gb497) (o := .cells #[.slice none 0 0, .slice none 0 0, .int .i64 0, .int .i64 0] 53 (0, 0)) (bk_ BK497.out) hg (Kd.R_ne HO506.out BK497.out (by decide))); replace HO503 := Aside0.mk (Kd.R_over' (ra_ HO503.out) (Kd.R_typed (ra_ HO506.out)) (by decide) hg); replace HB := Aside0.mk (hb); have HO509 := Aside0.mk (ho); clear HO506; clear ho hb hg hat; obtain ⟨Ao17, co17, eo17⟩ := Kd.R_slice HO509.out; subst eo17; obtain ⟨hcz18_0, hcz18_1, hcz18_2, hcz18_3, hfz18_0, hfz18_1, hfz18_2, hfz18_3⟩ := cf4_ BK496.out; obtain ⟨hcz19_0, hcz19_1, hcz19_2, hcz19_3, hfz19_0, hfz19_1, hfz19_2, hfz19_3⟩ := cf4_ BK497.out))
 refine bodyPost_ret (results_cell_row rfl _ _ gb497 53 #[.slice Ao11 y501.length co11, .slice Ao17 y507.length co17, .int .i64 a0_2, .int .i64 a0_3] (0, 0) _ rfl (bp1_ BK497.out NB497_496.out) Try.underlying53 rfl (by kernel_rfl)) rfl ?_
 exact ⟨_, _, er_, by (with_reducible repeat (first | apply Kd.R_alloc | apply Kd.R_drewN | apply Kd.R_drew)); exact Kd.R_mono (Kd.R_far (p := ⟨gb497, 3, none⟩) (Kd.R_far (p := ⟨gb497, 2, none⟩) (Kd.R_far (p := ⟨gb497, 1, none⟩) (Kd.R_far (p := ⟨gb497, 0, none⟩) (Kd.R_far (p := ⟨gb496, 1, none⟩) (Kd.R_types (Kd.R_types HO503.out BK496.out (by decide)) BK497.out (by decide)) (fun _ hk => hk.1.2) (.slice Ao17 y507.length co17)) (fun _ hk => hk.2) (.slice Ao11 y501.length co11)) (fun _ hk => hk.2) (.slice Ao17 y507.length co17)) (fun _ hk => hk.2) (.int .i64 a0_2)) (fun _ hk => hk.2) (.int .i64 a0_3)) (fun _ hk => trivial), by (with_reducible repeat (first | apply Kd.R_alloc | apply Kd.R_drewN | apply Kd.R_drew)); exact Kd.R_mono (Kd.R_far (p := ⟨gb497, 3, none⟩) (Kd.R_far (p := ⟨gb497, 2, none⟩) (Kd.R_far (p := ⟨gb497, 1, none⟩) (Kd.R_far (p := ⟨gb497, 0, none⟩) (Kd.R_far (p := ⟨gb496, 1, none⟩) (Kd.R_types (Kd.R_types HO509.out BK496.out (by decide)) BK497.out (by decide)) (fun _ hk => hk.1.2) (.slice Ao17 y507.length co17)) (fun _ hk => hk.2) (.slice Ao11 y501.length co11)) (fun _ hk => hk.2) (.slice Ao17 y507.length co17)) (fun _ hk => hk.2) (.int .i64 a0_2)) (fun _ hk => hk.2) (.int .i64 a0_3)) (fun _ hk => trivial), bl_⟩


def impl_copyPolicy.l0 : Nat → List (S53) → List (S53) → Int → Int → Int → Int → Int → List (S53) → Option (Int × Int × Int × (List (S53)))
 | 0, _, _, _, _, _, _, _, _ => none
 | k + 1, x3, x8, x9, x10, x511000, x511001, x511002, x511003 => if x10 < x9 then (if 0 ≤ x10 then (if x10 < (x8.length : Int) then ((impl_copyRule.f ((rd_T53 x8 x10).f0) ((rd_T53 x8 x10).f1) ((rd_T53 x8 x10).f2) ((rd_T53 x8 x10).f3)).bind fun bt517 => (if x3.length < 2199023255552 then (impl_copyPolicy.l0 k (x3 ++ [(⟨bt517.1, bt517.2.1, bt517.2.2.1, bt517.2.2.2⟩ : S53)]) x8 x9 (wrap64 (x10 + 1)) x511000 x511001 x511002 x511003) else (none))) else (none)) else (none)) else (some (x511000, x511001, x511002, x3))
def impl_copyPolicy.f (k : Nat) (a0_0 : Int) (a0_1 : Int) (a0_2 : Int) (l0_3 : List (S53)) : Option (Int × Int × Int × (List (S53))) := impl_copyPolicy.l0 k (([] : List (S53))) l0_3 (l0_3.length : Int) 0 a0_0 a0_1 a0_2 l0_3
theorem impl_copyPolicy.mono_l : ∀ k, (∀ y0 y1 y2 y3 y4 y5 y6 y7, LeO (impl_copyPolicy.l0 k y0 y1 y2 y3 y4 y5 y6 y7) (impl_copyPolicy.l0 (k + 1) y0 y1 y2 y3 y4 y5 y6 y7))
 | 0 => fun _ _ _ _ _ _ _ _ r h => by simp [impl_copyPolicy.l0] at h
 | k + 1 => by
  have ih0 := impl_copyPolicy.mono_l k
  ·intro y0 y1 y2 y3 y4 y5 y6 y7
   unfold impl_copyPolicy.l0
   exact mo_
theorem impl_copyPolicy.mono : ∀ a0 a1 a2 a3 k, LeO (impl_copyPolicy.f k a0 a1 a2 a3) (impl_copyPolicy.f (k + 1) a0 a1 a2 a3) := by
 intro a0 a1 a2 a3 k
 have ih0 := impl_copyPolicy.mono_l k
 unfold impl_copyPolicy.f
 exact mo_
theorem impl_copyPolicy.calls (k : Nat) (a0_0 : Int) (a0_1 : Int) (a0_2 : Int) (A0_3 : Option Addr) (c0_3 : Nat) (l0_3 : List (S53)) (r1 : Int) (r2 : Int) (r3 : Int) (r4 : List (S53)) (w : World) (hr0_3 : Kd.C k53 w A0_3 l0_3.length l0_3) (hc0_3 : l0_3.length ≤ c0_3) (h : impl_copyPolicy.f k a0_0 a0_1 a0_2 l0_3 = some (r1, r2, r3, r4)) :
 Calls Try.prog 67 #[.agg #[.int .i64 a0_0, .int .i64 a0_1, .int .i64 a0_2, .slice A0_3 l0_3.length c0_3]] w fun e w' => ∃ v3_ : Value, e = .returned (.agg #[.int .i64 r1, .int .i64 r2, .int .i64 r3, v3_]) ∧ Kd.S k53 53 w' w.heap.size (fun _ => True) v3_ r4 ∧ Below w.heap.size w w' := by
 have hu36 := Try.underlying36
 have hu53 := Try.underlying53
 have HR0_3 := Aside0.mk hr0_3
 have HC0_3 := Aside0.mk hc0_3
 clear hr0_3 hc0_3
 have HB := Aside0.mk (Below.refl w.heap.size w)
 have H := h
 unfold impl_copyPolicy.f at H
 clear h
 obtain ⟨y512, hy512⟩ : ∃ y_ : List (S53), y_ = (([] : List (S53))) := ⟨_, rfl⟩
 replace H : (impl_copyPolicy.l0 k y512 l0_3 (l0_3.length : Int) 0 a0_0 a0_1 a0_2 l0_3) = some (r1, r2, r3, r4) := rp_ H hy512
 have Ny512 := Aside0.mk hy512
 clear hy512
 have H' := Aside0.mk H
 clear H
 go_enter Try.func67, Try.ntmps67
 go_wp2_with (first | ((with_reducible refine gate_dst (N := 1) rfl ?_); refine bx_ 1 36 #[.int .i64 a0_0, .int .i64 a0_1, .int .i64 a0_2, .slice A0_3 l0_3.length c0_3] ?_; intro gb510 hg w2 hbox hb; have BK510 := Aside0.mk (hbox); have GW510 := Aside0.mk ((hz_ : w.heap.size ≤ gb510)); have GE510 := GW510; replace HB := Aside0.mk (below_step bl_ hb); clear hb hbox hg) | ((with_reducible refine gate_dst (N := 2) rfl ?_); refine bx_ 2 36 #[.int .i64 0, .int .i64 0, .int .i64 0, .slice none 0 0] ?_; intro gb511 hg w3 hbox hb; have BK511 := Aside0.mk (hbox); have GW511 := Aside0.mk ((hz_ : w.heap.size ≤ gb511)); have GE511 := GW511; replace HB := Aside0.mk (below_step bl_ hb); have NB510_511 := Aside0.mk (nl_ BK510.out hg); have NB511_510 := Aside0.mk (ng_ BK510.out hg); replace BK510 := bb0_ BK510.out hb; clear hb hbox hg) | ((with_reducible refine gate_dst (N := 6) rfl ?_); refine Kd.S_lit k53 _ 53 ?hg (N := 6) ?hd (xs := ([] : List (S53))) (inner := []) (ok := fun _ => True) (okp := fun _ => True) ?hr ?hp (fun _ hk => hk) trivial (Below.refl _ _) (Nat.le_refl _) (by simp) ?_; (case hd => rfl); (case hg => rfl); (case hr => first | (go_simp; done) | (go_simp; rfl)); (case hp => exact (Reps.none _ _)); intro v513 w4 ho5 hb hg_ hnew_; clear hg_ hnew_; (first | rw [← Ny512.out] at ho5 | (simp only [Int.reduceToNat] at ho5; rw [← Ny512.out] at ho5)); have HO514 := Aside0.mk (Kd.S_lower ho5 (below_size bl_)); replace BK510 := bb0_ BK510.out hb; replace BK511 := bb0_ BK511.out hb; replace HB := Aside0.mk (below_step bl_ hb); clear hb ho5; have hnb6 := NB510_511.out; have hnc6 := NB511_510.out; obtain ⟨hcz7_0, hcz7_1, hcz7_2, hcz7_3, hfz7_0, hfz7_1, hfz7_2, hfz7_3⟩ := cf4_ BK510.out))
 go_loopg [3, 10] k (fun kq v3 v10 w' => ∃ (x3_1 : List (S53)) (x10_1 : Int), v10 = .int .i64 x10_1 ∧ Aside0 (impl_copyPolicy.l0 kq x3_1 l0_3 (l0_3.length : Int) x10_1 a0_0 a0_1 a0_2 l0_3 = some (r1, r2, r3, r4)) ∧ Aside0 (kq ≤ k) ∧ Aside0 (Kd.S k53 53 w' w.heap.size (fun _ => True) v3 x3_1) ∧ Aside0 (w'.heap[gb510]? = some (.cells #[.int .i64 a0_0, .int .i64 a0_1, .int .i64 a0_2, (.slice A0_3 l0_3.length c0_3)] 36 (0, 0))) ∧ Aside0 (w'.heap[gb511]? = some (.cells #[.int .i64 0, .int .i64 0, .int .i64 0, (.slice none 0 0)] 36 (0, 0))) ∧ Aside0 (Below w.heap.size w w'))
 case atStart => exact ⟨(y512), (0), (sr_), H', ⟨Nat.le_refl _⟩, ⟨by (with_reducible repeat (first | apply Kd.S_alloc | apply Kd.S_drewN | apply Kd.S_drew)); exact HO514.out⟩, ⟨bk_ BK510.out⟩, ⟨bk_ BK511.out⟩, ⟨bl_⟩⟩
 clear H'
 try clear hcz7_0
 try clear hcz7_1
 try clear hcz7_2
 try clear hcz7_3
 try clear hfz7_0
 try clear hfz7_1
 try clear hfz7_2
 try clear hfz7_3
 obtain ⟨x3_1, x10_1, rfl, HA, HK1, HO_3, BK510, BK511, HB⟩ := hrel
 cases gk with
 | zero => exact absurd HA.out (by simp [impl_copyPolicy.l0])
 | succ k1 => ?_
 have H := HA.out
 clear HA
 simp only [impl_copyPolicy.l0] at H
 by_cases c8 : x10_1 < (l0_3.length : Int)
 rotate_left
 ·rw [if_neg c8] at H
  have c8b0 := decide_eq_false c8
  clear c8
  simp only [Option.some.injEq, Prod.mk.injEq] at H
  obtain ⟨rfl, rfl, rfl, rfl⟩ := H
  obtain ⟨Ao21, co21, eo21⟩ := Kd.S_slice HO_3.out
  subst eo21
  have hnb22 := NB510_511.out
  have hnc22 := NB511_510.out
  obtain ⟨hcz23_0, hcz23_1, hcz23_2, hcz23_3, hfz23_0, hfz23_1, hfz23_2, hfz23_3⟩ := cf4_ BK510.out
  obtain ⟨hcz24_0, hcz24_1, hcz24_2, hcz24_3, hfz24_0, hfz24_1, hfz24_2, hfz24_3⟩ := cf4_ BK511.out
  go_wp2
  refine bodyPost_ret (results_cell_row rfl _ _ gb511 36 #[.int .i64 a0_0, .int .i64 a0_1, .int .i64 a0_2, .slice Ao21 x3_1.length co21] (0, 0) _ rfl (bp1_ BK511.out NB511_510.out) Try.underlying36 rfl (by kernel_rfl)) rfl ?_
  exact ⟨_, er_, by (with_reducible repeat (first | apply Kd.S_alloc | apply Kd.S_drewN | apply Kd.S_drew)); exact Kd.S_mono (Kd.S_far (p := ⟨gb511, 3, none⟩) (Kd.S_far (p := ⟨gb511, 2, none⟩) (Kd.S_far (p := ⟨gb511, 1, none⟩) (Kd.S_far (p := ⟨gb511, 0, none⟩) (Kd.S_far (p := ⟨gb510, 3, none⟩) (Kd.S_types (Kd.S_types HO_3.out BK510.out (by decide)) BK511.out (by decide)) (fun _ hk => hk.1.2) (.slice Ao21 x3_1.length co21)) (fun _ hk => hk.2) (.int .i64 a0_0)) (fun _ hk => hk.2) (.int .i64 a0_1)) (fun _ hk => hk.2) (.int .i64 a0_2)) (fun _ hk => hk.2) (.slice Ao21 x3_1.length co21)) (fun _ hk => trivial), bl_⟩
 rw [if_pos c8] at H
 have c8b0 := decide_eq_true c8
 clear c8
 by_cases c9 : 0 ≤ x10_1
 rotate_left
 ·exact nn_ c9 H
 rw [if_pos c9] at H
 have c9b0 := decide_eq_true c9
 clear c9
 by_cases c10 : x10_1 < (l0_3.length : Int)
 rotate_left
 ·exact nn_ c10 H
 rw [if_pos c10] at H
 have c10b0 := decide_eq_true c10
 clear c10
 replace H := bs_ H
 obtain ⟨⟨t517, t520, t523, t524⟩, A11, H⟩ := H
 try dsimp only at H
 by_cases c12 : x3_1.length < 2199023255552
 rotate_left
 ·exact nn_ c12 H
 rw [if_pos c12] at H
 have LMc12 := Aside0.mk c12
 clear c12
 obtain ⟨y525, hy525⟩ : ∃ y_ : List (S53), y_ = (x3_1 ++ [(⟨t517, t520, t523, t524⟩ : S53)]) := ⟨_, rfl⟩
 replace H : (impl_copyPolicy.l0 k1 y525 l0_3 (l0_3.length : Int) (wrap64 (x10_1 + 1)) a0_0 a0_1 a0_2 l0_3) = some (r1, r2, r3, r4) := rp_ H hy525
 have Ny525 := Aside0.mk hy525
 clear hy525
 have H' := Aside0.mk H
 clear H
 have p515 : 0 ≤ (x10_1 : Int) := of_decide_eq_true as_
 have q515 : x10_1 < (l0_3.length : Int) := of_decide_eq_true as_
 obtain ⟨ad515, A515_0, c515_0, A515_1, c515_1, e515, hx515_0, hx515_1, hx515_2, hx515_3, hl515_0, hi515_0, hl515_1, hi515_1⟩ := at_T53 HR0_3.out x10_1 p515 q515
 cases e515
 replace hx515_0 := (HB.out.cell (World.block_lt_of_cell? w _ hx515_0)).trans hx515_0
 replace hx515_1 := (HB.out.cell (World.block_lt_of_cell? w _ hx515_1)).trans hx515_1
 replace hx515_2 := (HB.out.cell (World.block_lt_of_cell? w _ hx515_2)).trans hx515_2
 replace hx515_3 := (HB.out.cell (World.block_lt_of_cell? w _ hx515_3)).trans hx515_3
 have HR515_0 := Aside0.mk hi515_0
 have HC515_0 := Aside0.mk hl515_0
 clear hi515_0 hl515_0
 have HR515_1 := Aside0.mk hi515_1
 have HC515_1 := Aside0.mk hl515_1
 clear hi515_1 hl515_1
 replace p515 := eq_true p515
 replace q515 := eq_true q515
 go_wp2_with (first | ((with_reducible refine gate_dst (N := 5) rfl ?_); refine bx_ 5 53 #[.slice none 0 0, .slice none 0 0, .int .i64 0, .int .i64 0] ?_; intro gb516 hg w13 hbox hb; replace HO_3 := Aside0.mk (Kd.S_below (Kd.S_elderB (by (with_reducible repeat (first | apply Kd.S_alloc | apply Kd.S_drewN | apply Kd.S_drew)); exact HO_3.out) gb516 (Nat.le_of_eq hg.symm)) hb); have BK516 := Aside0.mk (hbox); have GW516 := Aside0.mk ((hz_ : w.heap.size ≤ gb516)); have GE516 := GW516; replace HB := Aside0.mk (below_step bl_ hb); have NB510_516 := Aside0.mk (nl_ BK510.out hg); have NB516_510 := Aside0.mk (ng_ BK510.out hg); replace BK510 := bb0_ BK510.out hb; have NB511_516 := Aside0.mk (nl_ BK511.out hg); have NB516_511 := Aside0.mk (ng_ BK511.out hg); replace BK511 := bb0_ BK511.out hb; clear hb hbox hg; have hnb14 := NB516_510.out; have hnc14 := NB510_516.out; have hnb15 := NB516_511.out; have hnc15 := NB511_516.out; obtain ⟨hcz16_0, hcz16_1, hcz16_2, hcz16_3, hfz16_0, hfz16_1, hfz16_2, hfz16_3⟩ := cf4_ BK516.out) | ((with_reducible refine gate_callee (f := 107) rfl ?_); refine gs_ (some 16) Try.func107 #[.agg #[.slice A515_0 ((rd_T53 l0_3 x10_1).f0).length c515_0, .slice A515_1 ((rd_T53 l0_3 x10_1).f1).length c515_1, .int .i64 ((rd_T53 l0_3 x10_1).f2), .int .i64 ((rd_T53 l0_3 x10_1).f3)]] ?_; (with_reducible refine (impl_copyRule.calls _ _ ((rd_T53 l0_3 x10_1).f0) _ _ ((rd_T53 l0_3 x10_1).f1) ((rd_T53 l0_3 x10_1).f2) ((rd_T53 l0_3 x10_1).f3) t517 t520 t523 t524 _ ?side1 ?side2 ?side3 ?side4 A11.out).mono ?_); (case side1 => exact Kd.C_below HR515_0.out bl_); (case side2 => exact HC515_0.out); (case side3 => exact Kd.C_below HR515_1.out bl_); (case side4 => exact HC515_1.out); rintro e w17 ⟨v518, v521, rfl, ho0, ho1, hb⟩; refine ⟨_, rfl, ?_⟩; replace HO_3 := Aside0.mk (Kd.S_mono (Kd.S_told (Kd.S_told (Kd.S_old (by (with_reducible repeat (first | apply Kd.S_alloc | apply Kd.S_drewN | apply Kd.S_drew)); exact (Kd.S_mono (Kd.S_far (p := ⟨gb516, 3, none⟩) (Kd.S_far (p := ⟨gb516, 2, none⟩) (Kd.S_far (p := ⟨gb516, 1, none⟩) (Kd.S_far (p := ⟨gb516, 0, none⟩) (Kd.S_mono HO_3.out (fun k_ hk => (⟨hk, hk.2⟩ : _ ∧ k_ ≠ gb516))) (fun _ hk => hk.2) (.slice A515_0 ((rd_T53 l0_3 x10_1).f0).length c515_0)) (fun _ hk => hk.2) (.slice A515_1 ((rd_T53 l0_3 x10_1).f1).length c515_1)) (fun _ hk => hk.2) (.int .i64 ((rd_T53 l0_3 x10_1).f2))) (fun _ hk => hk.2) (.int .i64 ((rd_T53 l0_3 x10_1).f3))) (fun _ h_ => h_.1))) hb) (Kd.R_base ho0)) (Kd.R_base ho1)) (fun _ h_ => h_.1)); have HO519 := Aside0.mk (Kd.R_lower ho0 (below_size bl_)); have HO522 := Aside0.mk (Kd.R_lower ho1 (below_size bl_)); replace BK510 := bb1_ BK510.out NB510_516.out hb; replace BK511 := bb1_ BK511.out NB511_516.out hb; replace BK516 := Aside0.mk (blk_below (g := gb516) (o := .cells #[.slice A515_0 ((rd_T53 l0_3 x10_1).f0).length c515_0, .slice A515_1 ((rd_T53 l0_3 x10_1).f1).length c515_1, .int .i64 ((rd_T53 l0_3 x10_1).f2), .int .i64 ((rd_T53 l0_3 x10_1).f3)] 53 (0, 0)) (bp0_ BK516.out) hb); replace HB := Aside0.mk (below_step bl_ hb); (try clear hb); (try clear ho0); (try clear ho1); obtain ⟨Ao19, co19, eo19⟩ := Kd.R_slice HO519.out; subst eo19; obtain ⟨Ao20, co20, eo20⟩ := Kd.R_slice HO522.out; subst eo20) | ((with_reducible refine gate_builtin (b := .append) (xs := #[.tmp 14, .tmp 17]) rfl ?_); at_builtin; refine Kd.S_append k53 (w0 := w) w.heap.size rfl (.tmp 14) (.tmp 17) 34 53 (.agg #[(.slice none 0 0), (.slice none 0 0), (.int .i64 0), (.int .i64 0)]) 64 rfl Try.underlying34 info53 rfl (by decide) (by omega) u3 x3_1 (⟨t517, t520, t523, t524⟩ : S53) [.slice Ao19 t517.length co19, .slice Ao20 t520.length co20, .int .i64 t523, .int .i64 t524] (fun k_ => k_ ≠ gb516) (fun k_ => some k_ = (.slice Ao19 t517.length co19 : Value).ownBlock ∨ some k_ = (.slice Ao20 t520.length co20 : Value).ownBlock) rfl rfl ?aP (fun k_ hk_ => hk_.elim (fun h_ => ((Kd.R_mono (ok' := fun k_ => ((fun k_ => k_ ≠ gb516)) k_ ∧ some k_ ≠ (u3 : Value).ownBlock) (Kd.R_types (Kd.R_apart' (HO519.out) (Kd.S_typed HO_3.out) (by decide)) BK516.out (by decide)) (fun k_ hk => ⟨hk.2, hk.1.2⟩))).1 k_ h_.symm) (fun h_ => ((Kd.R_mono (ok' := fun k_ => ((fun k_ => k_ ≠ gb516)) k_ ∧ some k_ ≠ (u3 : Value).ownBlock) (Kd.R_types (Kd.R_apart' (HO522.out) (Kd.S_typed HO_3.out) (by decide)) BK516.out (by decide)) (fun k_ hk => ⟨hk.2, hk.1.2⟩))).1 k_ h_.symm)) ?aF ?aO ?aB ?aS ?aL ?_; (case aP => exact k53_mkM _ _ _ (⟨t517, t520, t523, t524⟩ : S53) (Kd.R_mono (Kd.R_tight rfl (Kd.R_mono (ok' := fun k_ => ((fun k_ => k_ ≠ gb516)) k_ ∧ some k_ ≠ (u3 : Value).ownBlock) (Kd.R_types (Kd.R_apart' (HO519.out) (Kd.S_typed HO_3.out) (by decide)) BK516.out (by decide)) (fun k_ hk => ⟨hk.2, hk.1.2⟩))) (fun _ h_ => Or.inl h_)) (Kd.R_mono (Kd.R_tight rfl (Kd.R_mono (ok' := fun k_ => ((fun k_ => k_ ≠ gb516)) k_ ∧ some k_ ≠ (u3 : Value).ownBlock) (Kd.R_types (Kd.R_apart' (HO522.out) (Kd.S_typed HO_3.out) (by decide)) BK516.out (by decide)) (fun k_ hk => ⟨hk.2, hk.1.2⟩))) (fun _ h_ => Or.inr (h_)))); (case aB => exact bl_); (case aF => exact (fun k_ hk => fb_ BK516.out k_ hk)); (case aO => exact (by (with_reducible repeat (first | apply Kd.S_alloc | apply Kd.S_drewN | apply Kd.S_drew)); exact Kd.S_mono HO_3.out (fun k_ hk => ⟨hk.1.1.2, fun e_ => e_.elim (fun h_ => hk.1.2 h_) (fun h_ => hk.2 h_)⟩))); (case aS => exact (below_size bl_)); (case aL => have := LMc12.out; omega); intro v526 w18 ho hb hg hat; rw [← Ny525.out] at ho; replace BK510 := Aside0.mk (blk_grown (g := gb510) (o := .cells #[.int .i64 a0_0, .int .i64 a0_1, .int .i64 a0_2, .slice (some ad515) l0_3.length c0_3] 36 (0, 0)) (bk_ BK510.out) hg (Kd.S_ne HO_3.out BK510.out (by decide))); replace BK511 := Aside0.mk (blk_grown (g := gb511) (o := .cells #[.int .i64 0, .int .i64 0, .int .i64 0, .slice none 0 0] 36 (0, 0)) (bk_ BK511.out) hg (Kd.S_ne HO_3.out BK511.out (by decide))); replace BK516 := Aside0.mk (blk_grown (g := gb516) (o := .cells #[.slice A515_0 ((rd_T53 l0_3 x10_1).f0).length c515_0, .slice A515_1 ((rd_T53 l0_3 x10_1).f1).length c515_1, .int .i64 ((rd_T53 l0_3 x10_1).f2), .int .i64 ((rd_T53 l0_3 x10_1).f3)] 53 (0, 0)) (bk_ BK516.out) hg (Kd.S_away HO_3.out (fun _ hk => hk.1.1.2))); replace HB := Aside0.mk (hb); have HO527 := Aside0.mk (ho); clear HO_3 HO519 HO522; clear ho hb hg hat))
 go_roundg k1
 case measure => have := HK1.out; omega
 case rel => exact ⟨(y525), (wrap64 (x10_1 + 1)), (sr_), H', ⟨by have := HK1.out; omega⟩, ⟨by (with_reducible repeat (first | apply Kd.S_alloc | apply Kd.S_drewN | apply Kd.S_drew)); exact Kd.S_mono HO527.out (fun _ hk => trivial)⟩, ⟨bk_ BK510.out⟩, ⟨bk_ BK511.out⟩, ⟨bl_⟩⟩


def slices_Index_int_int.l0 : Nat → List Int → Int → Int → Int → Option (Int)
 | 0, _, _, _, _ => none
 | k + 1, x0, x1, x7, x8 => if x8 < x7 then (if 0 ≤ x8 then (if x8 < (x0.length : Int) then (if x1 = (rd x0 x8) then (some x8) else (slices_Index_int_int.l0 k x0 x1 x7 (wrap64 (x8 + 1)))) else (none)) else (none)) else (some (-1))
def slices_Index_int_int.f (k : Nat) (l0 : List Int) (a1 : Int) : Option (Int) := slices_Index_int_int.l0 k l0 a1 (l0.length : Int) 0
theorem slices_Index_int_int.mono_l : ∀ k, (∀ y0 y1 y2 y3, LeO (slices_Index_int_int.l0 k y0 y1 y2 y3) (slices_Index_int_int.l0 (k + 1) y0 y1 y2 y3))
 | 0 => fun _ _ _ _ r h => by simp [slices_Index_int_int.l0] at h
 | k + 1 => by
  have ih0 := slices_Index_int_int.mono_l k
  ·intro y0 y1 y2 y3
   unfold slices_Index_int_int.l0
   exact mo_
theorem slices_Index_int_int.mono : ∀ a0 a1 k, LeO (slices_Index_int_int.f k a0 a1) (slices_Index_int_int.f (k + 1) a0 a1) := by
 intro a0 a1 k
 have ih0 := slices_Index_int_int.mono_l k
 unfold slices_Index_int_int.f
 exact mo_
theorem slices_Index_int_int.calls (k : Nat) (A0 : Option Addr) (c0 : Nat) (l0 : List Int) (a1 : Int) (r : Int) (w : World) (hr0 : Kd.C (Kd.int .i64) w A0 l0.length l0) (hc0 : l0.length ≤ c0) (h : slices_Index_int_int.f k l0 a1 = some r) :
 Calls Try.prog 109 #[.slice A0 l0.length c0, .int .i64 a1] w fun e w' => e = .returned (.int .i64 r) ∧ Drawn0 w w' := by
 have HR0 := Aside0.mk hr0
 have HC0 := Aside0.mk hc0
 clear hr0 hc0
 have H := h
 unfold slices_Index_int_int.f at H
 clear h
 have H' := Aside0.mk H
 clear H
 go_enter Try.func109, Try.ntmps109
 go_wp2
 go_loopg [8] k (fun kq v8 w' => ∃ (x8_1 : Int), v8 = .int .i64 x8_1 ∧ Aside0 (slices_Index_int_int.l0 kq l0 a1 (l0.length : Int) x8_1 = some r) ∧ Aside0 (kq ≤ k) ∧ Drawn0 w w')
 case atStart => exact ⟨(0), (sr_), H', ⟨Nat.le_refl _⟩, by repeat (first | exact Drawn0.refl _ | apply Drawn0.step)⟩
 clear H'
 obtain ⟨x8_1, rfl, HA, HK1, ⟨m1, rfl⟩⟩ := hrel
 cases gk with
 | zero => exact absurd HA.out (by simp [slices_Index_int_int.l0])
 | succ k1 => ?_
 have H := HA.out
 clear HA
 simp only [slices_Index_int_int.l0] at H
 by_cases c3 : x8_1 < (l0.length : Int)
 rotate_left
 ·rw [if_neg c3] at H
  have c3b0 := decide_eq_false c3
  clear c3
  obtain rfl := Option.some.inj H
  go_wp2
  go_ret
  exact ⟨sr_, by repeat (first | exact Drawn0.refl _ | apply Drawn0.step)⟩
 rw [if_pos c3] at H
 have c3b0 := decide_eq_true c3
 clear c3
 by_cases c4 : 0 ≤ x8_1
 rotate_left
 ·exact nn_ c4 H
 rw [if_pos c4] at H
 have c4b0 := decide_eq_true c4
 clear c4
 by_cases c5 : x8_1 < (l0.length : Int)
 rotate_left
 ·exact nn_ c5 H
 rw [if_pos c5] at H
 have c5b0 := decide_eq_true c5
 clear c5
 by_cases c6 : a1 = (rd l0 x8_1)
 ·rw [if_pos c6] at H
  have c6b0 : (a1 == (rd l0 x8_1)) = true := beq_iff_eq.mpr c6
  have c6b1 : (a1 != (rd l0 x8_1)) = false := bne_eq_false_iff_eq.mpr c6
  clear c6
  obtain rfl := Option.some.inj H
  have p727 : 0 ≤ (x8_1 : Int) := of_decide_eq_true as_
  have q727 : x8_1 < (l0.length : Int) := of_decide_eq_true as_
  obtain ⟨ad727, e727, hx727_0⟩ := Kd.at_int HR0.out x8_1 p727 q727
  cases e727
  replace p727 := eq_true p727
  replace q727 := eq_true q727
  go_wp2
  go_ret
  exact ⟨sr_, by repeat (first | exact Drawn0.refl _ | apply Drawn0.step)⟩
 rw [if_neg c6] at H
 have c6b0 : (a1 == (rd l0 x8_1)) = false := beq_eq_false_iff_ne.mpr c6
 have c6b1 : (a1 != (rd l0 x8_1)) = true := bne_iff_ne.mpr c6
 have H' := Aside0.mk H
 clear H
 have p727 : 0 ≤ (x8_1 : Int) := of_decide_eq_true as_
 have q727 : x8_1 < (l0.length : Int) := of_decide_eq_true as_
 obtain ⟨ad727, e727, hx727_0⟩ := Kd.at_int HR0.out x8_1 p727 q727
 cases e727
 replace p727 := eq_true p727
 replace q727 := eq_true q727
 go_wp2
 go_roundg k1
 case measure => have := HK1.out; omega
 case rel => exact ⟨(wrap64 (x8_1 + 1)), (sr_), H', ⟨by have := HK1.out; omega⟩, by repeat (first | exact Drawn0.refl _ | apply Drawn0.step)⟩


def slices_Contains_int_int.f (k : Nat) (l0 : List Int) (a1 : Int) : Option (Bool) := (slices_Index_int_int.f k l0 a1).bind fun t728 => (some (decide (t728 ≥ 0)))
theorem slices_Contains_int_int.mono : ∀ a0 a1 k, LeO (slices_Contains_int_int.f k a0 a1) (slices_Contains_int_int.f (k + 1) a0 a1) := by
 intro a0 a1 k
 unfold slices_Contains_int_int.f
 have m0 := @slices_Index_int_int.mono
 exact mo_
theorem slices_Contains_int_int.calls (k : Nat) (A0 : Option Addr) (c0 : Nat) (l0 : List Int) (a1 : Int) (r : Bool) (w : World) (hr0 : Kd.C (Kd.int .i64) w A0 l0.length l0) (hc0 : l0.length ≤ c0) (h : slices_Contains_int_int.f k l0 a1 = some r) :
 Calls Try.prog 70 #[.slice A0 l0.length c0, .int .i64 a1] w fun e w' => e = .returned (.bool r) ∧ Drawn0 w w' := by
 have HR0 := Aside0.mk hr0
 have HC0 := Aside0.mk hc0
 clear hr0 hc0
 have H := h
 unfold slices_Contains_int_int.f at H
 clear h
 replace H := bs_ H
 obtain ⟨t728, A3, H⟩ := H
 try dsimp only at H
 obtain rfl := Option.some.inj H
 go_enter Try.func70, Try.ntmps70
 go_wp2_with (first | ((with_reducible refine gate_callee (f := 109) rfl ?_); refine gs_ (some 7) Try.func109 #[.slice A0 l0.length c0, .int .i64 a1] ?_; (with_reducible refine (slices_Index_int_int.calls k _ _ l0 a1 t728 _ ?side1 ?side2 A3.out).mono ?_); (case side1 => exact cs_ HR0.out); (case side2 => exact HC0.out); rintro e w' ⟨rfl, ⟨nd, rfl⟩⟩; refine ⟨_, rfl, ?_⟩))
 go_ret
 exact ⟨sr_, by repeat (first | exact Drawn0.refl _ | apply Drawn0.step)⟩

end Go.Proofs.Ytjfmpodeenidnaa.PC

namespace Go.Proofs.Ytjfmpodeenidnaa.PC
open Go.RowKit Go.Proofs.Ytjfmpodeenidnaa.Short Go.Proofs.YtjfmpodeenidnaaW.PrintWords Go.Proofs.YtjfmpodeenidnaaW.PrintLast Go.Proofs.YtjfmpodeenidnaaW.PrintMore
set_option linter.unusedVariables false
set_option linter.unusedSimpArgs false
def pB (num : Int) (r : S53) : Bool := decide (0 < r.f0.length) && !decide (num ∈ r.f0)
theorem idx_in (num : Int) : ∀ (l : List Int), l.length ≤ 9223372036854775807 → ∃ k t, slices_Contains_int_int.f k l num = some t ∧ t = decide (num ∈ l) := by
 intro l hl
 have key : ∀ d i, i + d = l.length → ∃ t : Int, slices_Index_int_int.l0 (d + 1) l num (l.length : Int) (i : Int) = some t ∧ decide (t ≥ 0) = decide (num ∈ l.drop i) := by
  intro d
  induction d with
  | zero =>
   intro i hi
   refine ⟨-1, ?_, ?_⟩
   ·simp only [slices_Index_int_int.l0]
    rw [if_neg (by omega)]
   ·rw [List.drop_of_length_le (by omega)]
    simp
  | succ d ih =>
   intro i hi
   have hlt : i < l.length := by omega
   obtain ⟨t, h1, h2⟩ := ih (i + 1) (by omega)
   by_cases hc : num = l[i]
   ·refine ⟨(i : Int), ?_, ?_⟩
    ·unfold slices_Index_int_int.l0
     rw [if_pos (by omega), if_pos (by omega), if_pos (by omega), if_pos (by simp [rd, hlt, hc])]
    ·rw [List.drop_eq_getElem_cons hlt, ← hc]
     simp
   ·refine ⟨t, ?_, ?_⟩
    ·unfold slices_Index_int_int.l0
     rw [if_pos (by omega), if_pos (by omega), if_pos (by omega), if_neg (by simpa [rd, hlt] using hc)]
     rw [show wrap64 ((i : Int) + 1) = ((i + 1 : Nat) : Int) by unfold wrap64; omega]
     exact h1
    ·rw [h2, List.drop_eq_getElem_cons hlt, Bool.eq_iff_iff, decide_eq_true_eq, decide_eq_true_eq, List.mem_cons]
     exact ⟨Or.inr, fun h => h.resolve_left hc⟩
 obtain ⟨t, h1, h2⟩ := key l.length 0 (by omega)
 refine ⟨l.length + 1, decide (t ≥ 0), ?_, by simpa using h2⟩
 unfold slices_Contains_int_int.f slices_Index_int_int.f
 rw [show ((0 : Nat) : Int) = 0 from rfl] at h1
 rw [h1]
 rfl
theorem onlyPred_calls (x : S53) (cx : List Value) (b : Nat) (num : Int) (W : World) (hx : k53.K W x cx) (hb : W.heap[b]? = some (.cells #[.int .i64 num] 3 (0, 0))) :
 Calls Try.prog 69 #[.agg cx.toArray, .pointer (some ⟨b, 0, none⟩)] W fun e w' => e = .returned (.bool (pB num x)) ∧ Below W.heap.size W w' := by
 obtain ⟨A0, c0, A1, c1, rfl, l0, h0, l1, h1⟩ := k53_open hx
 obtain ⟨k, t, hk, ht⟩ := idx_in num x.f0 (h0.1 ▸ h0.2.1)
 have hu53 := Try.underlying53
 have hlt := blk_lt hb
 have hne : b ≠ W.heap.size := by omega
 have hc0 : W.cell? ⟨b, 0, none⟩ = some (.int .i64 num) := (blk_cell hb 0).trans rfl
 clear hb hx
 have H0 := Aside0.mk h0
 clear h0 h1
 show Calls Try.prog 69 #[.agg #[.slice A0 x.f0.length c0, .slice A1 x.f1.length c1, .int .i64 x.f2, .int .i64 x.f3], .pointer (some ⟨b, 0, none⟩)] W _
 unfold pB
 rw [← ht]
 clear ht
 by_cases hp : 0 < x.f0.length
 ·have hpd : decide (0 < (x.f0.length : Int)) = true := decide_eq_true (by omega)
  have hpd2 : decide (0 < x.f0.length) = true := decide_eq_true hp
  rw [hpd2]
  go_enter Try.func69, Try.ntmps69
  go_wp2_with (go_at_call 70; refine (slices_Contains_int_int.calls k _ _ x.f0 num t _ ?s1 l0 hk).mono ?_; (case s1 => repeat (first | exact H0.out | refine Kd.C_alloc ?_ _ | refine Kd.C_drewN ?_ _ | refine Kd.C_drew ?_)); rintro e w' ⟨rfl, ⟨nd, rfl⟩⟩)
  go_ret
  exact ⟨by simp, by repeat (first | exact Below.refl _ _ | apply below_alloc | apply pw_below_drewN | apply below_drew1)⟩
 ·have hpd : decide (0 < (x.f0.length : Int)) = false := decide_eq_false (by omega)
  have hpd2 : decide (0 < x.f0.length) = false := decide_eq_false hp
  rw [hpd2]
  go_enter Try.func69, Try.ntmps69
  go_wp2
  go_ret
  exact ⟨by simp, by repeat (first | exact Below.refl _ _ | apply below_alloc | apply pw_below_drewN | apply below_drew1)⟩
def RowAt (W : World) (g cap : Nat) (rows : List (List Value)) : Prop :=
 ∃ cur : Array Value, W.heap[g]? = some (.cells cur 53 (0, 0)) ∧ cur.size = cap * 4 ∧ rows.length ≤ cap ∧ ∀ (j : Nat) (r : List Value), rows[j]? = some r → r.length = 4 ∧ ∀ (t : Nat) u, r[t]? = some u → cur[j * 4 + t]? = some u
theorem RowAt.cell {W : World} {g cap : Nat} {rows : List (List Value)} (h : RowAt W g cap rows) {j : Nat} {r : List Value} (hj : rows[j]? = some r) {t : Nat} {u : Value} (ht : r[t]? = some u) : W.cell? ⟨g, j * 4 + t, none⟩ = some u := by
 obtain ⟨cur, h1, _, _, h4⟩ := h
 exact (blk_cell h1 _).trans ((h4 j r hj).2 t u ht)
theorem RowAt.froz {W : World} {g cap : Nat} {rows : List (List Value)} (h : RowAt W g cap rows) (m : Nat) : W.frozen? ⟨g, m, none⟩ = false := by
 obtain ⟨cur, h1, _⟩ := h
 exact blk_frozen h1 _
theorem RowAt.lt {W : World} {g cap : Nat} {rows : List (List Value)} (h : RowAt W g cap rows) : g < W.heap.size := by
 obtain ⟨cur, h1, _⟩ := h
 exact blk_lt h1
theorem RowAt.move {W W1 : World} {g cap : Nat} {rows : List (List Value)} (h : RowAt W g cap rows) (hm : W1.heap[g]? = W.heap[g]?) : RowAt W1 g cap rows := by
 obtain ⟨cur, h1, h2⟩ := h
 exact ⟨cur, hm.trans h1, h2⟩
theorem grown_set (w : World) (g j : Nat) (u : Value) : w.grownBy (w.setCell ⟨g, j, none⟩ u) (some g) :=
 ⟨rfl, rfl, rfl, by simp [World.setCell], fun k _ hk => Below.heap_setCell w ⟨g, j, none⟩ u k (fun e => hk (by rw [e]))⟩
theorem RowAt.put {W : World} {g cap : Nat} {rows : List (List Value)} (h : RowAt W g cap rows) (i : Nat) (hi : i < rows.length) (a0 a1 a2 a3 : Value) :
 RowAt ((((W.setCell ⟨g, i * 4, none⟩ a0).setCell ⟨g, i * 4 + 1, none⟩ a1).setCell ⟨g, i * 4 + 2, none⟩ a2).setCell ⟨g, i * 4 + 3, none⟩ a3) g cap (rows.set i [a0, a1, a2, a3]) ∧
 W.grownBy ((((W.setCell ⟨g, i * 4, none⟩ a0).setCell ⟨g, i * 4 + 1, none⟩ a1).setCell ⟨g, i * 4 + 2, none⟩ a2).setCell ⟨g, i * 4 + 3, none⟩ a3) (some g) := by
 obtain ⟨cur, h1, h2, h3, h4⟩ := h
 refine ⟨⟨(((cur.setIfInBounds (i * 4) a0).setIfInBounds (i * 4 + 1) a1).setIfInBounds (i * 4 + 2) a2).setIfInBounds (i * 4 + 3) a3, blk_put (blk_put (blk_put (blk_put h1 _ _ rfl) _ _ rfl) _ _ rfl) _ _ rfl, by simpa using h2, by simpa using h3, ?_⟩, (((grown_set _ _ _ _).trans (grown_set _ _ _ _)).trans (grown_set _ _ _ _)).trans (grown_set _ _ _ _)⟩
 intro j r hj
 have hlt : i * 4 + 3 < cur.size := by omega
 by_cases e : i = j
 ·subst e
  rw [List.getElem?_set_self hi] at hj
  obtain rfl := Option.some.inj hj
  refine ⟨rfl, fun t u ht => ?_⟩
  match t, ht with
  | 0, ht =>
   obtain rfl := Option.some.inj ht
   simp [Array.getElem?_setIfInBounds]
   omega
  | 1, ht =>
   obtain rfl := Option.some.inj ht
   simp [Array.getElem?_setIfInBounds]
   omega
  | 2, ht =>
   obtain rfl := Option.some.inj ht
   simp [Array.getElem?_setIfInBounds]
   omega
  | 3, ht =>
   obtain rfl := Option.some.inj ht
   simp [Array.getElem?_setIfInBounds]
   omega
 ·rw [List.getElem?_set_ne e] at hj
  refine ⟨(h4 j r hj).1, fun t u ht => ?_⟩
  have ht4 : t < 4 := by have := (List.getElem?_eq_some_iff.1 ht).1; rw [(h4 j r hj).1] at this; exact this
  rw [Array.getElem?_setIfInBounds_ne (by omega), Array.getElem?_setIfInBounds_ne (by omega), Array.getElem?_setIfInBounds_ne (by omega), Array.getElem?_setIfInBounds_ne (by omega)]
  exact (h4 j r hj).2 t u ht
theorem setCells_row (g : Nat) (vs : List Value) : ∀ (o : Nat) (W : World) (cur : Array Value), W.heap[g]? = some (.cells cur 53 (0, 0)) → ∃ cur', (W.setCells g o vs).heap[g]? = some (.cells cur' 53 (0, 0)) ∧ cur'.size = cur.size ∧ (∀ m, m < o → cur'[m]? = cur[m]?) ∧ W.grownBy (W.setCells g o vs) (some g) := by
 induction vs with
 | nil => intro o W cur h; exact ⟨cur, h, rfl, fun _ _ => rfl, ⟨rfl, rfl, rfl, Nat.le_refl _, fun _ _ _ => rfl⟩⟩
 | cons v r ih =>
  intro o W cur h
  obtain ⟨cur', h1, h2, h3, h4⟩ := ih (o + 1) (W.setCell ⟨g, o, none⟩ v) _ (blk_put h o v rfl)
  refine ⟨cur', h1, by simpa using h2, fun m hm => ?_, (grown_set W g o v).trans h4⟩
  rw [h3 m (by omega), Array.getElem?_setIfInBounds_ne (by omega)]
theorem RowAt.clear {W : World} {g cap : Nat} {rows : List (List Value)} (h : RowAt W g cap rows) (i : Nat) (hi : i ≤ rows.length) (vs : List Value) : RowAt (W.setCells g (i * 4) vs) g cap (rows.take i) ∧ W.grownBy (W.setCells g (i * 4) vs) (some g) := by
 obtain ⟨cur, h1, h2, h3, h4⟩ := h
 obtain ⟨cur', e1, e2, e3, e4⟩ := setCells_row g vs (i * 4) W cur h1
 refine ⟨⟨cur', e1, by omega, by rw [List.length_take]; omega, fun j r hj => ?_⟩, e4⟩
 have hlt : j < i := by have := (List.getElem?_eq_some_iff.1 hj).1; rw [List.length_take] at this; omega
 rw [List.getElem?_take, if_pos hlt] at hj
 refine ⟨(h4 j r hj).1, fun t u ht => ?_⟩
 have ht4 : t < 4 := by have := (List.getElem?_eq_some_iff.1 ht).1; rw [(h4 j r hj).1] at this; exact this
 rw [e3 _ (by omega)]
 exact (h4 j r hj).2 t u ht
theorem clear_rules (W : World) (ty : TypeId) (g o n c : Nat) (hn : 0 < n) (hc : ∀ j, j < n * 4 → (W.cell? ⟨g, o + j, none⟩).isSome = true) (hf : ∀ j, W.frozen? ⟨g, o + j, none⟩ = false) :
 ∃ vs, (Builtin.clear_ #[34] ty #[.slice (some ⟨g, o, none⟩) n c]).run Try.prog W = .ok (.tuple #[]) (W.setCells g o vs) := by
 have ht := Try.underlying34
 have hv := Try.zeroValue53
 obtain ⟨vs, hvs⟩ : ∃ vs, (Builtin.zeroCells (Value.agg #[(.slice none 0 0), (.slice none 0 0), (.int .i64 0), (.int .i64 0)]).cells n).toList = vs := ⟨_, rfl⟩
 have hl : vs.length = n * 4 := by rw [← hvs]; simp [Builtin.zeroCells, Value.cells]
 have h1 : ∀ v ∈ vs, v.oneCell' = true := by
  intro v hv
  rw [← hvs] at hv
  simp only [Builtin.zeroCells, Value.cells, Array.toList_map, List.mem_map] at hv
  obtain ⟨m, _, rfl⟩ := hv
  have : m % 4 < 4 := Nat.mod_lt _ (by decide)
  show (#[Value.slice none 0 0, Value.slice none 0 0, Value.int IntKind.i64 0, Value.int IntKind.i64 0][m % 4]!).oneCell' = true
  generalize m % 4 = k at this
  match k, this with
  | 0, _ => rfl
  | 1, _ => rfl
  | 2, _ => rfl
  | 3, _ => rfl
 have hst := Go.run_storeCells_cells (P := Try.prog) g o vs 0 W (by intro j hj; rw [Nat.add_zero]; exact hc j (by omega)) (by intro j hj; rw [Nat.add_zero]; exact hf j) h1
 simp only [Nat.add_zero] at hst
 obtain ⟨m, rfl⟩ : ∃ m, n = m + 1 := ⟨n - 1, by omega⟩
 refine ⟨vs, ?_⟩
 simp [Builtin.clear_, Go.run_underlying ht, hv, hvs, hst]
def keptIx (q : Nat → Bool) (n : Nat) : List Nat := (List.range n).filter (fun m => !q m)
theorem keptIx_succ_keep {q : Nat → Bool} {n : Nat} (h : q n = false) : keptIx q (n + 1) = keptIx q n ++ [n] := by
 unfold keptIx
 rw [List.range_succ, List.filter_append]
 simp [h]
theorem keptIx_succ_drop {q : Nat → Bool} {n : Nat} (h : q n = true) : keptIx q (n + 1) = keptIx q n := by
 unfold keptIx
 rw [List.range_succ, List.filter_append]
 simp [h]
theorem keptIx_all {q : Nat → Bool} {n : Nat} (h : ∀ m, m < n → q m = false) : keptIx q n = List.range n := by
 unfold keptIx
 rw [List.filter_eq_self]
 intro m hm
 rw [h m (List.mem_range.1 hm)]
 rfl
theorem keptIx_len (q : Nat → Bool) (n : Nat) : (keptIx q n).length ≤ n := by
 unfold keptIx
 have := List.length_filter_le (fun m => !q m) (List.range n)
 rwa [List.length_range] at this
theorem firstAt_cases (q : Nat → Bool) (n : Nat) : (firstAt q n = -1 ∧ ∀ i, i < n → q i = false) ∨ ∃ j, j < n ∧ firstAt q n = (j : Int) ∧ q j = true ∧ ∀ i, i < j → q i = false := by
 by_cases h : ∃ j, j < n ∧ q j = true
 ·right
  obtain ⟨j, hj, hq, hno⟩ : ∃ j, j < n ∧ q j = true ∧ ∀ i, i < j → q i = false := by
   obtain ⟨j, hj, hq⟩ := h
   induction j using Nat.strongRecOn with
   | _ j ih =>
    by_cases hx : ∃ i, i < j ∧ q i = true
    ·obtain ⟨i, hi, hqi⟩ := hx
     exact ih i hi (by omega) hqi
    ·refine ⟨j, hj, hq, fun i hi => ?_⟩
     cases hqi : q i
     ·rfl
     ·exact absurd ⟨i, hi, hqi⟩ hx
  exact ⟨j, hj, firstAt_hit hj hq hno, hq, hno⟩
 ·left
  have hno : ∀ i, i < n → q i = false := by
   intro i hi
   cases hqi : q i
   ·rfl
   ·exact absurd ⟨i, hi, hqi⟩ h
  exact ⟨firstAt_miss hno, hno⟩
structure DelInv (R0 : List (List Value)) (q : Nat → Bool) (i j : Nat) (cur : List (List Value)) : Prop where
 len : cur.length = R0.length
 at_ : i = (keptIx q j).length
 lt : i < j
 le : j ≤ R0.length
 high : ∀ m, j ≤ m → cur[m]? = R0[m]?
 low : cur.take i = (keptIx q j).map (fun m => R0.getD m [])
theorem DelInv.start {R0 : List (List Value)} {q : Nat → Bool} {k : Nat} (hk : k < R0.length) (hq : q k = true) (hno : ∀ i, i < k → q i = false) : DelInv R0 q k (k + 1) R0 := by
 have e : keptIx q (k + 1) = List.range k := by rw [keptIx_succ_drop hq, keptIx_all hno]
 refine ⟨rfl, by rw [e, List.length_range], by omega, by omega, fun _ _ => rfl, ?_⟩
 rw [e]
 apply List.ext_getElem?
 intro m
 rw [List.getElem?_take, List.getElem?_map]
 by_cases hm : m < k
 ·rw [if_pos hm, List.getElem?_range hm]
  simp [show m < R0.length by omega]
 ·rw [if_neg hm, List.getElem?_eq_none (by simpa using hm)]
  rfl
theorem DelInv.skip {R0 cur : List (List Value)} {q : Nat → Bool} {i j : Nat} (h : DelInv R0 q i j cur) (hj : j < R0.length) (hq : q j = true) : DelInv R0 q i (j + 1) cur :=
 ⟨h.len, by rw [keptIx_succ_drop hq]; exact h.at_, by have := h.lt; omega, by omega, fun m hm => h.high m (by omega), by rw [keptIx_succ_drop hq]; exact h.low⟩
theorem DelInv.keep {R0 cur : List (List Value)} {q : Nat → Bool} {i j : Nat} {r : List Value} (h : DelInv R0 q i j cur) (hr : R0[j]? = some r) (hq : q j = false) : DelInv R0 q (i + 1) (j + 1) (cur.set i r) := by
 have hj : j < R0.length := (List.getElem?_eq_some_iff.1 hr).1
 have hlt := h.lt
 have hlen := h.len
 refine ⟨by simpa using h.len, by rw [keptIx_succ_keep hq, List.length_append, List.length_singleton, ← h.at_], by omega, by omega, fun m hm => ?_, ?_⟩
 ·rw [List.getElem?_set_ne (by omega)]
  exact h.high m (by omega)
 ·rw [keptIx_succ_keep hq, List.map_append, ← h.low, List.take_succ_eq_append_getElem (by simp; omega)]
  have e : List.take i (cur.set i r) = List.take i cur := by
   apply List.ext_getElem?
   intro m
   rw [List.getElem?_take, List.getElem?_take]
   split
   ·rw [List.getElem?_set_ne (by omega)]
   ·rfl
  simp [List.getD_eq_getElem?_getD, hr, e]
theorem grown_below {a b c : World} {row : Option Nat} (h : a.grownBy b row) (k : Below b.heap.size b c) : a.grownBy c row := h.trans ⟨k.os, k.tape, k.output, k.size, fun i hi _ => k.block i hi⟩
theorem put4_grown {a W : World} {row : Option Nat} (h : a.grownBy W row) (g : Nat) (hg : a.heap.size ≤ g) (z0 z1 z2 z3 : Value) : a.grownBy ((((W.setCell ⟨g, 0, none⟩ z0).setCell ⟨g, 1, none⟩ z1).setCell ⟨g, 2, none⟩ z2).setCell ⟨g, 3, none⟩ z3) row := by
 have one : ∀ (V : World) (j : Nat) (z : Value), a.grownBy V row → a.grownBy (V.setCell ⟨g, j, none⟩ z) row := by
  intro V j z hV
  refine ⟨hV.os, hV.tape, hV.output, Nat.le_trans hV.size (grown_set V g j z).size, fun k hk hne => ?_⟩
  rw [Below.heap_setCell V ⟨g, j, none⟩ z k (by show k ≠ g; omega)]
  exact hV.block k hk hne
 exact one _ _ _ (one _ _ _ (one _ _ _ (one _ _ _ h)))
set_option maxHeartbeats 16000000 in
set_option maxRecDepth 100000 in
theorem delFunc_calls (gf : Nat) (lb : Array Value) (eg : ∀ args w, (callFunc gf args).run Try.prog w = .ok (.enter gf args) w) (g n cap : Nat) (R0 : List (List Value)) (hn : R0.length = n) (hb : n ≤ 9223372036854775807) (q : Nat → Bool) (w : World) (hrow : RowAt w g cap R0)
 (hform : ∀ r ∈ R0, ∃ (A0 : Option Addr) (n0 c0 : Nat) (A1 : Option Addr) (n1 c1 : Nat) (x y : Int), r = [.slice A0 n0 c0, .slice A1 n1 c1, .int .i64 x, .int .i64 y])
 (hp : ∀ (W : World) (j : Nat) (r : List Value), w.grownBy W (some g) → R0[j]? = some r → Calls Try.prog gf (#[.agg r.toArray] ++ lb) W fun e w' => e = .returned (.bool (q j)) ∧ Below W.heap.size W w') :
 Calls Try.prog 68 #[.slice (some ⟨g, 0, none⟩) n cap, .func (.func gf) #[] lb] w fun e w' => e = .returned (.slice (some ⟨g, 0, none⟩) (keptIx q n).length cap) ∧ RowAt w' g cap ((keptIx q n).map (fun m => R0.getD m [])) ∧ w.grownBy w' (some g) := by
 have hu53 := Try.underlying53
 have hlen : ∀ r ∈ R0, r.length = 4 := by
  intro r hr
  obtain ⟨_, _, _, _, _, _, _, _, rfl⟩ := hform r hr
  rfl
 have hidx := idxFunc_calls gf lb eg (some ⟨g, 0, none⟩) n cap R0 hlen hn hb q (some g) w (fun j r hj => ⟨⟨g, 0, none⟩, rfl, hrow.lt, fun t u ht => by rw [add_plain]; exact hrow.cell hj ht⟩) hp
 have hcapn : n ≤ cap := by obtain ⟨_, _, _, h3, _⟩ := hrow; omega
 rcases firstAt_cases q n with ⟨e1, hno⟩ | ⟨k0, hk0, e1, hq0, hno⟩
 ·rw [e1] at hidx
  have e2 : keptIx q n = List.range n := keptIx_all hno
  have e3 : (keptIx q n).map (fun m => R0.getD m []) = R0 := by
   rw [e2]
   apply List.ext_getElem?
   intro m
   rw [List.getElem?_map]
   by_cases hm : m < n
   ·rw [List.getElem?_range hm]
    simp [show m < R0.length by omega]
   ·rw [List.getElem?_eq_none (by simpa using hm), List.getElem?_eq_none (by omega)]
    rfl
  rw [e3, e2, List.length_range]
  have HRow := Aside0.mk hrow
  clear hp hrow hform hlen hno e3
  go_enter Try.func68, Try.ntmps68
  go_wp2_with (go_at_call 108; refine hidx.mono ?_; rintro e w' ⟨rfl, hb'⟩)
  go_ret
  exact ⟨rfl, HRow.out.move (hb'.block g HRow.out.lt), ⟨hb'.os, hb'.tape, hb'.output, hb'.size, fun k hk _ => hb'.block k hk⟩⟩
 ·rw [e1] at hidx
  have hne1 : ((k0 : Int) == -1) = false := beq_eq_false_iff_ne.2 (by omega)
  have HRow := Aside0.mk hrow
  have HP := Aside0.mk hp
  have HF := Aside0.mk hform
  have HS := Aside0.mk (DelInv.start (R0 := R0) (by omega) hq0 hno)
  have HN := Aside0.mk (show n = R0.length from hn.symm)
  have HBN := Aside0.mk hb
  have HK0 := Aside0.mk hk0
  have HCN := Aside0.mk hcapn
  clear hp hrow hform hlen hno e1 hq0 hn hb hk0 hcapn
  go_enter Try.func68, Try.ntmps68
  go_wp2_with (go_at_call 108; refine hidx.mono ?_; rintro e w' ⟨rfl, hb'⟩)
  go_loopg [5, 6] n (fun gg v5 v6 wr => ∃ (i j : Nat) (cur : List (List Value)), v5 = .int .i64 i ∧ v6 = .int .i64 j ∧ j ≤ n ∧ n - j ≤ gg ∧ Aside0 (RowAt wr g cap cur) ∧ Aside0 (w.grownBy wr (some g)) ∧ Aside0 (DelInv R0 q i j cur))
  case atStart => exact ⟨k0, k0 + 1, R0, rfl, (by have := HN.out; have := HBN.out; have := HK0.out; rw [show wrap64 ((k0 : Int) + 1) = ((k0 + 1 : Nat) : Int) by unfold wrap64; omega]), by have := HK0.out; omega, by omega, ⟨HRow.out.move (by have := hb'.block g HRow.out.lt; simpa using this)⟩, ⟨grown_below ⟨rfl, rfl, rfl, Nat.le_refl _, fun _ _ _ => rfl⟩ (by simpa using hb')⟩, HS⟩
  case round =>
   clear HS hb'
   obtain ⟨i, j, cur, rfl, rfl, hj, hgg, ROW, GR, INV⟩ := hrel
   by_cases hlt : j < n
   ·have hltz : decide ((j : Int) < (n : Int)) = true := decide_eq_true (by omega)
    obtain ⟨rj, hrj⟩ : ∃ rj, R0[j]? = some rj := ⟨R0[j]'(by have := HN.out; omega), List.getElem?_eq_getElem _⟩
    obtain ⟨A0, n0, c0, A1, n1, c1, x, y, rfl⟩ := HF.out rj (List.mem_of_getElem? hrj)
    have hcj : cur[j]? = some _ := (INV.out.high j (Nat.le_refl _)).trans hrj
    have hx_0 : wr.cell? ⟨g, j * 4, none⟩ = some (.slice A0 n0 c0) := ROW.out.cell hcj (t := 0) rfl
    have hx_1 : wr.cell? ⟨g, j * 4 + 1, none⟩ = some (.slice A1 n1 c1) := ROW.out.cell hcj (t := 1) rfl
    have hx_2 : wr.cell? ⟨g, j * 4 + 2, none⟩ = some (.int .i64 x) := ROW.out.cell hcj (t := 2) rfl
    have hx_3 : wr.cell? ⟨g, j * 4 + 3, none⟩ = some (.int .i64 y) := ROW.out.cell hcj (t := 3) rfl
    have p0 : (0 ≤ (j : Int)) = True := eq_true (by omega)
    have q0 : ((j : Int) < (n : Int)) = True := eq_true (by omega)
    have hij : i < n := by have := INV.out.lt; omega
    have p1 : (0 ≤ (i : Int)) = True := eq_true (by omega)
    have q1 : ((i : Int) < (n : Int)) = True := eq_true (by omega)
    have HRJ := Aside0.mk hrj
    have HLT := Aside0.mk hlt
    clear hrj hcj
    cases hq : q j with
    | true =>
     have HQ := Aside0.mk hq
     go_wp2_with (first
      | ((with_reducible refine gate_dst (N := 7) rfl ?_); refine bx_ 7 53 #[.slice none 0 0, .slice none 0 0, .int .i64 0, .int .i64 0] ?_; intro g7 hg w6 BK_ hb; have ROW1 := Aside0.mk (ROW.out.move (hb.block g ROW.out.lt)); have GR1 := Aside0.mk (grown_below GR.out hb); have B7 := Aside0.mk BK_; have GE7 := Aside0.mk (show w.heap.size ≤ g7 by rw [hg]; exact GR.out.size); have NE7 := Aside0.mk (show g ≠ g7 by rw [hg]; exact Nat.ne_of_lt ROW.out.lt); clear ROW GR BK_ hb hg; have ROW := ROW1; have GR := GR1; clear ROW1 GR1; have hne := NE7.out; have hne' := Ne.symm NE7.out; have hcz_0 := (blk_cell B7.out 0).trans rfl; have hcz_1 := (blk_cell B7.out 1).trans rfl; have hcz_2 := (blk_cell B7.out 2).trans rfl; have hcz_3 := (blk_cell B7.out 3).trans rfl; have hfz_0 := blk_frozen B7.out 0; have hfz_1 := blk_frozen B7.out 1; have hfz_2 := blk_frozen B7.out 2; have hfz_3 := blk_frozen B7.out 3)
      | (go_at_fn gf; have P := put4 (.slice A0 n0 c0) (.slice A1 n1 c1) (.int .i64 x) (.int .i64 y) B7.out; refine (HP.out _ j _ (put4_grown GR.out g7 GE7.out (.slice A0 n0 c0) (.slice A1 n1 c1) (.int .i64 x) (.int .i64 y)) HRJ.out).mono ?_; rintro e w9 ⟨rfl, hb⟩; rw [HQ.out]; have ROW1 := Aside0.mk ((ROW.out.move (P.2 g NE7.out)).move (hb.block g ((ROW.out.move (P.2 g NE7.out)).lt))); have GR1 := Aside0.mk (grown_below (put4_grown GR.out g7 GE7.out (.slice A0 n0 c0) (.slice A1 n1 c1) (.int .i64 x) (.int .i64 y)) hb); clear ROW GR P hb; have ROW := ROW1; have GR := GR1; clear ROW1 GR1))
     go_roundg (n - (j + 1))
     case measure => have := HLT.out; omega
     case rel => exact ⟨i, j + 1, cur, rfl, (by have hn_ := HBN.out; have hl_ := HLT.out; rw [show wrap64 ((j : Int) + 1) = ((j + 1 : Nat) : Int) by unfold wrap64; omega]), HLT.out, Nat.le_refl _, ROW, GR, ⟨INV.out.skip (by have := HN.out; have := HLT.out; omega) HQ.out⟩⟩
    | false =>
     have HQ := Aside0.mk hq
     go_wp2_with (first
      | ((with_reducible refine gate_dst (N := 7) rfl ?_); refine bx_ 7 53 #[.slice none 0 0, .slice none 0 0, .int .i64 0, .int .i64 0] ?_; intro g7 hg w6 BK_ hb; have ROW1 := Aside0.mk (ROW.out.move (hb.block g ROW.out.lt)); have GR1 := Aside0.mk (grown_below GR.out hb); have B7 := Aside0.mk BK_; have GE7 := Aside0.mk (show w.heap.size ≤ g7 by rw [hg]; exact GR.out.size); have NE7 := Aside0.mk (show g ≠ g7 by rw [hg]; exact Nat.ne_of_lt ROW.out.lt); clear ROW GR BK_ hb hg; have ROW := ROW1; have GR := GR1; clear ROW1 GR1; have hne := NE7.out; have hne' := Ne.symm NE7.out; have hcz_0 := (blk_cell B7.out 0).trans rfl; have hcz_1 := (blk_cell B7.out 1).trans rfl; have hcz_2 := (blk_cell B7.out 2).trans rfl; have hcz_3 := (blk_cell B7.out 3).trans rfl; have hfz_0 := blk_frozen B7.out 0; have hfz_1 := blk_frozen B7.out 1; have hfz_2 := blk_frozen B7.out 2; have hfz_3 := blk_frozen B7.out 3)
      | (go_at_fn gf; have P := put4 (.slice A0 n0 c0) (.slice A1 n1 c1) (.int .i64 x) (.int .i64 y) B7.out; refine (HP.out _ j _ (put4_grown GR.out g7 GE7.out (.slice A0 n0 c0) (.slice A1 n1 c1) (.int .i64 x) (.int .i64 y)) HRJ.out).mono ?_; rintro e w9 ⟨rfl, hb⟩; rw [HQ.out]; have ROW1 := Aside0.mk ((ROW.out.move (P.2 g NE7.out)).move (hb.block g ((ROW.out.move (P.2 g NE7.out)).lt))); have GR1 := Aside0.mk (grown_below (put4_grown GR.out g7 GE7.out (.slice A0 n0 c0) (.slice A1 n1 c1) (.int .i64 x) (.int .i64 y)) hb); have B9 := Aside0.mk (blk_below P.1 hb); clear ROW GR P hb; have ROW := ROW1; have GR := GR1; clear ROW1 GR1; obtain ⟨ri, hri⟩ : ∃ ri, cur[i]? = some ri := ⟨_, List.getElem?_eq_getElem (by have := INV.out.len; have := HN.out; omega)⟩; obtain ⟨u0, u1, u2, u3, rfl⟩ := four_of ((ROW.out).choose_spec.2.2.2 i ri hri).1; have hy_0 : w9.cell? ⟨g, i * 4, none⟩ = some u0 := ROW.out.cell hri (t := 0) rfl; have hy_1 : w9.cell? ⟨g, i * 4 + 1, none⟩ = some u1 := ROW.out.cell hri (t := 1) rfl; have hy_2 : w9.cell? ⟨g, i * 4 + 2, none⟩ = some u2 := ROW.out.cell hri (t := 2) rfl; have hy_3 : w9.cell? ⟨g, i * 4 + 3, none⟩ = some u3 := ROW.out.cell hri (t := 3) rfl; have hg_0 := ROW.out.froz (i * 4); have hg_1 := ROW.out.froz (i * 4 + 1); have hg_2 := ROW.out.froz (i * 4 + 2); have hg_3 := ROW.out.froz (i * 4 + 3); have hv_0 : w9.cell? ⟨g7, 0, none⟩ = some (.slice A0 n0 c0) := (blk_cell B9.out 0).trans rfl; have hv_1 : w9.cell? ⟨g7, 1, none⟩ = some (.slice A1 n1 c1) := (blk_cell B9.out 1).trans rfl; have hv_2 : w9.cell? ⟨g7, 2, none⟩ = some (.int .i64 x) := (blk_cell B9.out 2).trans rfl; have hv_3 : w9.cell? ⟨g7, 3, none⟩ = some (.int .i64 y) := (blk_cell B9.out 3).trans rfl)
      | ((with_reducible refine gate_store (t := 53) (p := 33) rfl ?_); refine store_event (t := 53) (p := 33) (v := ?vo) (w1 := ((((w9.setCell ⟨g, i * 4, none⟩ (.slice A0 n0 c0)).setCell ⟨g, i * 4 + 1, none⟩ (.slice A1 n1 c1)).setCell ⟨g, i * 4 + 2, none⟩ (.int .i64 x)).setCell ⟨g, i * 4 + 3, none⟩ (.int .i64 y))) ?hg ?ho ?hn ?hr ?_; (case ho => rfl); (case hg => rfl); (case hn => rfl); (case hr => first | (go_simp; done) | (go_simp; rfl)); intro w13 hw; have PP := ROW.out.put i (by have := INV.out.len; have := HN.out; have := INV.out.lt; have := HLT.out; omega) (.slice A0 n0 c0) (.slice A1 n1 c1) (.int .i64 x) (.int .i64 y); rw [← hw] at PP; have ROW1 := Aside0.mk PP.1; have GR1 := Aside0.mk (GR.out.trans PP.2); clear ROW GR PP hw hy_0 hy_1 hy_2 hy_3; have ROW := ROW1; have GR := GR1; clear ROW1 GR1))
     go_roundg (n - (j + 1))
     case measure => have := HLT.out; omega
     case rel => exact ⟨i + 1, j + 1, _, (by have hn_ := HBN.out; have hl_ := HLT.out; have hi_ := INV.out.lt; rw [show wrap64 ((i : Int) + 1) = ((i + 1 : Nat) : Int) by unfold wrap64; omega]), (by have hn_ := HBN.out; have hl_ := HLT.out; rw [show wrap64 ((j : Int) + 1) = ((j + 1 : Nat) : Int) by unfold wrap64; omega]), HLT.out, Nat.le_refl _, ROW, GR, ⟨INV.out.keep HRJ.out HQ.out⟩⟩
   ·have hltz : decide ((j : Int) < (n : Int)) = false := decide_eq_false (by omega)
    obtain rfl : j = n := by omega
    have hij : i < j := INV.out.lt
    have q1 : ((i : Int) < (j : Int)) = True := eq_true (by omega)
    have q2 : ((i : Int) ≤ (j : Int)) = True := eq_true (by omega)
    have q3 : (0 ≤ (i : Int)) = True := eq_true (by omega)
    have q4 : ((i : Int) ≤ (cap : Int)) = True := eq_true (by have := HCN.out; omega)
    obtain ⟨vs, hcl⟩ := clear_rules wr 0 g (i * 4) (j - i) (cap - i) (by omega) (fun m hm => by
     have hl := INV.out.len
     have hn_ := HN.out
     obtain ⟨r, hr⟩ : ∃ r, cur[i + m / 4]? = some r := ⟨_, List.getElem?_eq_getElem (by omega)⟩
     have h4 := (ROW.out.choose_spec.2.2.2 _ r hr).1
     have := ROW.out.cell hr (t := m % 4) (List.getElem?_eq_getElem (by rw [h4]; exact Nat.mod_lt _ (by decide)))
     rw [show i * 4 + m = (i + m / 4) * 4 + m % 4 by omega, this]
     rfl) (fun m => ROW.out.froz _)
    go_wp2
    ·exfalso
     have := HCN.out
     have := INV.out.lt
     omega
    ·go_ret
     have hc := ROW.out.clear i (by have := INV.out.len; have := HN.out; omega) vs
     rw [← INV.out.at_]
     rw [INV.out.low] at hc
     exact ⟨rfl, hc.1, GR.out.trans hc.2⟩
theorem filter_keptIx (P : S53 → Bool) (l : List S53) : l.filter (fun r => !P r) = (keptIx (fun j => P (l.getD j z53)) l.length).map (fun m => l.getD m z53) := by
 have e : l = (List.range l.length).map (fun m => l.getD m z53) := by
  apply List.ext_getElem?
  intro m
  rw [List.getElem?_map]
  by_cases hm : m < l.length
  ·rw [List.getElem?_range hm]
   simp [hm]
  ·rw [List.getElem?_eq_none (by omega), List.getElem?_eq_none (by simpa using hm)]
   rfl
 have h2 : ((List.range l.length).map (fun m => l.getD m z53)).filter (fun r => !P r) = (keptIx (fun j => P (l.getD j z53)) l.length).map (fun m => l.getD m z53) := by
  rw [List.filter_map]
  rfl
 rw [← e] at h2
 exact h2
theorem RowAt.rawR {W : World} {g cap base : Nat} {rows : List (List Value)} (h : RowAt W g cap rows) (hbase : base ≤ g) (hcap : cap ≤ maxLen) (hone : ∀ r ∈ rows, ∀ u ∈ r, u.oneCell' = true) : (Kd.raw 4).R 53 W base (fun k => some k = (Value.slice (some ⟨g, 0, none⟩) rows.length cap).ownBlock) (.slice (some ⟨g, 0, none⟩) rows.length cap) rows := by
 obtain ⟨cur, h1, h2, h3, h4⟩ := h
 have hcl : cur.toList.length = cap * 4 := by rw [Array.length_toList]; exact h2
 have hlt : (cur.toList.take (rows.length * 4)).length = rows.length * 4 := by rw [List.length_take, hcl]; omega
 refine ⟨fun k hk => hk.symm, cur.toList.take (rows.length * 4), ⟨hlt, Or.inr ⟨g, cap, cur, rfl, hbase, h1, h3, hcap, h2, rfl⟩⟩, ⟨hlt, fun j p hj => ?_⟩⟩
 have hjl : j < rows.length := (List.getElem?_eq_some_iff.1 hj).1
 have hp4 := (h4 j p hj).1
 refine ⟨?_, ?_, ?_⟩
 ·show ((cur.toList.take (rows.length * 4)).drop (j * 4)).take 4 = p
  apply List.ext_getElem?
  intro t
  rw [List.getElem?_take]
  by_cases ht : t < 4
  ·rw [if_pos ht, List.getElem?_drop, List.getElem?_take, if_pos (by omega), Array.getElem?_toList]
   obtain ⟨u, hu⟩ : ∃ u, p[t]? = some u := ⟨_, List.getElem?_eq_getElem (by omega)⟩
   rw [hu]
   exact (h4 j p hj).2 t u hu
  ·rw [if_neg ht, List.getElem?_eq_none (by omega)]
 ·show (((cur.toList.take (rows.length * 4)).drop (j * 4)).take 4).length = 4
  rw [List.length_take, List.length_drop, hlt]
  omega
 ·intro u hu
  have hu' : u ∈ ((cur.toList.take (rows.length * 4)).drop (j * 4)).take 4 := hu
  clear hu
  obtain ⟨t, ht, rfl⟩ := List.getElem_of_mem hu'
  have hu2 := List.getElem?_eq_getElem ht
  rw [List.getElem?_take] at hu2
  split at hu2
  ·rename_i ht4
   rw [List.getElem?_drop, List.getElem?_take, if_pos (by omega), Array.getElem?_toList] at hu2
   obtain ⟨u', hu'⟩ : ∃ u, p[t]? = some u := ⟨_, List.getElem?_eq_getElem (by omega)⟩
   rw [(h4 j p hj).2 t u' hu'] at hu2
   rw [← Option.some.inj hu2]
   exact hone p (List.mem_of_getElem? hj) u' (List.mem_of_getElem? hu')
  ·cases hu2
theorem RowAt.of_raw {W : World} {base n cap : Nat} {ok : Nat → Prop} {A : Option Addr} {rows : List (List Value)} (h : (Kd.raw 4).R 53 W base ok (.slice A n cap) rows) (hn : 0 < rows.length) : ∃ g, A = some ⟨g, 0, none⟩ ∧ n = rows.length ∧ base ≤ g ∧ cap ≤ maxLen ∧ RowAt W g cap rows := by
 obtain ⟨_, inner, ho, hr⟩ := h
 rcases ho.2 with ⟨hv, h0⟩ | ⟨g, cap', cur, hv, hbase, hheap, hnc, hcm, hsz, htk⟩
 ·omega
 ·injection hv with ha hn2 hc2
  subst hc2
  refine ⟨g, ha, hn2, hbase, hcm, cur, hheap, hsz, hnc, fun j p hj => ?_⟩
  obtain ⟨e1, e2, e3⟩ := hr.2 j p hj
  replace e1 : (inner.drop (j * 4)).take 4 = p := e1
  replace e2 : ((inner.drop (j * 4)).take 4).length = 4 := e2
  replace htk : cur.toList.take (rows.length * 4) = inner := htk
  have hl4 : p.length = 4 := by rw [← e1]; exact e2
  refine ⟨hl4, fun t u hu => ?_⟩
  have ht : t < 4 := by have := (List.getElem?_eq_some_iff.1 hu).1; omega
  have hjl : j < rows.length := (List.getElem?_eq_some_iff.1 hj).1
  rw [← e1, List.getElem?_take, if_pos ht, List.getElem?_drop, ← htk, List.getElem?_take, if_pos (by show _ < rows.length * 4; omega), Array.getElem?_toList] at hu
  exact hu
theorem delNil_calls (gf : Nat) (lb : Array Value) (eg : ∀ args w, (callFunc gf args).run Try.prog w = .ok (.enter gf args) w) (A : Option Addr) (c : Nat) (w : World) :
 Calls Try.prog 68 #[.slice A 0 c, .func (.func gf) #[] lb] w fun e w' => e = .returned (.slice A 0 c) ∧ Below w.heap.size w w' := by
 have hidx := idxFunc_calls gf lb eg A 0 c [] (by simp) rfl (by omega) (fun _ => false) none w (by simp) (by simp)
 rw [show firstAt (fun _ => false) 0 = -1 from firstAt_miss (fun _ _ => rfl)] at hidx
 go_enter Try.func68, Try.ntmps68
 go_wp2_with (go_at_call 108; refine hidx.mono ?_; rintro e w' ⟨rfl, hb'⟩)
 go_ret
 exact ⟨rfl, hb'⟩
theorem delN_calls (b : Nat) (num : Int) (v : Value) (l : List S53) (base : Nat) (ok : Nat → Prop) (W : World) (HO : Kd.N k53 53 W base ok v l) (hb : W.heap[b]? = some (.cells #[.int .i64 num] 3 (0, 0))) :
 Calls Try.prog 68 #[v, .func (.func 69) #[] #[.pointer (some ⟨b, 0, none⟩)]] W fun e w' => ∃ v', e = .returned v' ∧ Kd.N k53 53 w' base ok v' (l.filter fun r => !pB num r) ∧ W.grownBy w' v.ownBlock := by
 have e69 : ∀ args w, (callFunc 69 args).run Try.prog w = .ok (.enter 69 args) w := enters_of Try.func69 (by kernel_rfl) rfl
 by_cases hl0 : l.length = 0
 ·obtain rfl : l = [] := List.eq_nil_of_length_eq_zero hl0
  obtain ⟨A, c, rfl⟩ := Kd.N_slice HO
  refine (delNil_calls 69 _ e69 A c W).mono ?_
  rintro e w' ⟨rfl, hb'⟩
  exact ⟨_, rfl, Kd.N_below HO hb', ⟨hb'.os, hb'.tape, hb'.output, hb'.size, fun k hk _ => hb'.block k hk⟩⟩
 ·obtain ⟨h0, rows, hl, hR, hf⟩ := HO
  obtain ⟨A, c, rfl⟩ := Kd.R_slice hR
  obtain ⟨g, rfl, _, hbase, hcm, hrow⟩ := RowAt.of_raw hR (by omega)
  have hgok : ok g := h0 g rfl
  have hbg : b ≠ g := by
   obtain ⟨cur, hc, _⟩ := hrow
   exact blk_ne hb hc (by decide)
  have at_ : ∀ (j : Nat) (r : List Value), rows[j]? = some r → Kd.FK k53 W (fun k => ok k ∧ some k ≠ some g) (l.getD j z53) r := by
   intro j r hr
   have hj : j < l.length := by have := (List.getElem?_eq_some_iff.1 hr).1; omega
   exact hf j _ r (by simp [hj]) hr
  have hform : ∀ r ∈ rows, ∃ (A0 : Option Addr) (n0 c0 : Nat) (A1 : Option Addr) (n1 c1 : Nat) (x y : Int), r = [.slice A0 n0 c0, .slice A1 n1 c1, .int .i64 x, .int .i64 y] := by
   intro r hr
   obtain ⟨j, hj, rfl⟩ := List.getElem_of_mem hr
   obtain ⟨A0, c0, A1, c1, e, _⟩ := k53_open (Kd.FK_now (at_ j _ (List.getElem?_eq_getElem hj)))
   exact ⟨A0, _, c0, A1, _, c1, _, _, e⟩
  have hbn : rows.length ≤ 9223372036854775807 := (Kd.R_reads' hR).2.2.2.1
  refine (delFunc_calls 69 _ e69 g rows.length c rows rfl hbn (fun j => pB num (l.getD j z53)) W hrow hform ?_).mono ?_
  ·intro W' j r hg hr
   exact onlyPred_calls (l.getD j z53) r b num W' (Kd.FK_now (Kd.FK_grown (at_ j r hr) hg (fun k hk => hk.2))) ((hg.block b (blk_lt hb) (by simpa using hbg)).trans hb)
  ·rintro e w' ⟨rfl, hrow', hg⟩
   have hfil := filter_keptIx (pB num) l
   rw [← hl] at hfil
   generalize hix : keptIx (fun j => pB num (l.getD j z53)) rows.length = ix at hrow' hfil ⊢
   have hixm : ∀ m ∈ ix, m < rows.length := by
    intro m hm
    rw [← hix] at hm
    exact List.mem_range.1 (List.mem_filter.1 hm).1
   have hraw := hrow'.rawR hbase hcm (by
    intro r hr u hu
    obtain ⟨m, hm, rfl⟩ := List.mem_map.1 hr
    have hml := hixm m hm
    obtain ⟨_, _, _, _, _, _, _, _, e⟩ := hform (rows.getD m []) (by simp [hml])
    rw [e] at hu
    simp only [List.mem_cons, List.not_mem_nil, or_false] at hu
    rcases hu with rfl | rfl | rfl | rfl <;> rfl)
   rw [List.length_map] at hraw
   refine ⟨_, rfl, ⟨fun k hk => ?_, ix.map (fun m => rows.getD m []), by rw [hfil, List.length_map, List.length_map], hraw, ?_⟩, hg⟩
   ·have : k = g := by simpa [Value.ownBlock] using hk.symm
    rw [this]; exact hgok
   ·intro j x c hx hc
    rw [hfil, List.getElem?_map] at hx
    rw [List.getElem?_map] at hc
    cases hm : ix[j]? with
    | none => rw [hm] at hx; cases hx
    | some m =>
     rw [hm] at hx hc
     have hml := hixm m (List.mem_of_getElem? hm)
     obtain rfl := Option.some.inj hx
     obtain rfl := Option.some.inj hc
     exact Kd.FK_grown (Kd.FK_mono (at_ m (rows.getD m []) (by simp [hml])) (fun k hk => hk)) hg (fun k hk => hk.2)
theorem putT {t : TypeId} {W : World} {g : Nat} {z0 z1 z2 z3 : Value} (a0 a1 a2 a3 : Value) (h : W.heap[g]? = some (.cells #[z0, z1, z2, z3] t (0, 0))) :
 ((((W.setCell ⟨g, 0, none⟩ a0).setCell ⟨g, 1, none⟩ a1).setCell ⟨g, 2, none⟩ a2).setCell ⟨g, 3, none⟩ a3).heap[g]? = some (.cells #[a0, a1, a2, a3] t (0, 0)) ∧ (∀ k, k ≠ g → ((((W.setCell ⟨g, 0, none⟩ a0).setCell ⟨g, 1, none⟩ a1).setCell ⟨g, 2, none⟩ a2).setCell ⟨g, 3, none⟩ a3).heap[k]? = W.heap[k]?) ∧ W.grownBy ((((W.setCell ⟨g, 0, none⟩ a0).setCell ⟨g, 1, none⟩ a1).setCell ⟨g, 2, none⟩ a2).setCell ⟨g, 3, none⟩ a3) (some g) := by
 refine ⟨?_, ?_, (((grown_set _ _ _ _).trans (grown_set _ _ _ _)).trans (grown_set _ _ _ _)).trans (grown_set _ _ _ _)⟩
 ·exact blk_put (cs := #[a0, a1, a2, z3]) (blk_put (cs := #[a0, a1, z2, z3]) (blk_put (cs := #[a0, z1, z2, z3]) (blk_put (cs := #[z0, z1, z2, z3]) h 0 _ rfl) 1 _ rfl) 2 _ rfl) 3 _ rfl
 ·intro k hk
  rw [Below.heap_setCell _ ⟨g, 3, none⟩ _ k hk, Below.heap_setCell _ ⟨g, 2, none⟩ _ k hk, Below.heap_setCell _ ⟨g, 1, none⟩ _ k hk, Below.heap_setCell _ ⟨g, 0, none⟩ _ k hk]
theorem below_grownB {w W W1 : World} {row : Option Nat} (h : Below w.heap.size w W) (hg : W.grownBy W1 row) (hr : ∀ k, row = some k → w.heap.size ≤ k) : Below w.heap.size w W1 :=
 ⟨hg.os.trans h.os, hg.tape.trans h.tape, hg.output.trans h.output, Nat.le_trans h.size hg.size, fun k hk => (hg.block k (Nat.lt_of_lt_of_le hk h.size) (fun e => by have := hr k e.symm; omega)).trans (h.block k hk)⟩
def impl_OnlyFor.f (k : Nat) (a0_0 : Int) (a0_1 : Int) (a0_2 : Int) (l0_3 : List (S53)) (a1 : Int) : Option (Int × Int × Int × (List (S53))) := (impl_copyPolicy.f k a0_0 a0_1 a0_2 l0_3).bind fun b => (impl_PolicyOk.f k a0_0 a0_1 a0_2 l0_3).bind fun t => if t = true then some (b.1, b.2.1, b.2.2.1, b.2.2.2.filter fun r => !pB a1 r) else some b
theorem impl_OnlyFor.mono : ∀ a0 a1 a2 a3 a4 k, LeO (impl_OnlyFor.f k a0 a1 a2 a3 a4) (impl_OnlyFor.f (k + 1) a0 a1 a2 a3 a4) := by
 intro a0 a1 a2 a3 a4 k
 unfold impl_OnlyFor.f
 refine LeO.bind (impl_copyPolicy.mono _ _ _ _ _) (fun _ => LeO.bind (impl_PolicyOk.mono _ _ _ _ _) (fun _ => LeO.refl _))
set_option maxHeartbeats 16000000 in
set_option maxRecDepth 100000 in
theorem impl_OnlyFor.calls (k : Nat) (a0_0 : Int) (a0_1 : Int) (a0_2 : Int) (A0_3 : Option Addr) (c0_3 : Nat) (l0_3 : List (S53)) (a1 : Int) (r1 : Int) (r2 : Int) (r3 : Int) (r4 : List (S53)) (w : World) (hr0_3 : Kd.C k53 w A0_3 l0_3.length l0_3) (hc0_3 : l0_3.length ≤ c0_3) (h : impl_OnlyFor.f k a0_0 a0_1 a0_2 l0_3 a1 = some (r1, r2, r3, r4)) :
 Calls Try.prog 25 #[.agg #[.int .i64 a0_0, .int .i64 a0_1, .int .i64 a0_2, .slice A0_3 l0_3.length c0_3], .int .i64 a1] w fun e w' => ∃ v3_ : Value, e = .returned (.agg #[.int .i64 r1, .int .i64 r2, .int .i64 r3, v3_]) ∧ Kd.N k53 53 w' w.heap.size (fun k_ => (w.heap.size ≤ k_)) v3_ r4 ∧ Below w.heap.size w w' := by
 have hu36 := Try.underlying36
 have hu53 := Try.underlying53
 have HR := Aside0.mk hr0_3
 have HC := Aside0.mk hc0_3
 clear hr0_3
 have HB := Aside0.mk (Below.refl w.heap.size w)
 unfold impl_OnlyFor.f at h
 obtain ⟨⟨s1, s2, s3, s4⟩, A1_, H⟩ := Option.bind_eq_some_iff.mp h
 have A1 := Aside0.mk A1_
 obtain ⟨t, A2_, H⟩ := Option.bind_eq_some_iff.mp H
 have A2 := Aside0.mk A2_
 clear A1_ A2_ h
 go_enter Try.func25, Try.ntmps25
 cases t with
 | false =>
  obtain ⟨rfl, rfl, rfl, rfl⟩ : s1 = r1 ∧ s2 = r2 ∧ s3 = r3 ∧ s4 = r4 := by simpa using H
  clear H
  go_wp2_with (first
   | ((with_reducible refine gate_dst (N := 2) rfl ?_); refine bx_ 2 36 #[.int .i64 a0_0, .int .i64 a0_1, .int .i64 a0_2, .slice A0_3 l0_3.length c0_3] ?_; intro gp hg w2 BK_ hb; have BP1 := Aside0.mk (BK_); have GP1 := Aside0.mk (show w.heap.size ≤ gp by rw [hg]; exact HB.out.size); have HB1 := Aside0.mk (below_step HB.out hb); clear HB; have BP := BP1; have GP := GP1; have HB := HB1; clear BP1 GP1 HB1; clear BK_ hb hg)
   | ((with_reducible refine gate_dst (N := 3) rfl ?_); refine bx_ 3 3 #[.int .i64 a1] ?_; intro gn hg w3 BK_ hb; have BN1 := Aside0.mk (BK_); have GN1 := Aside0.mk (show w.heap.size ≤ gn by rw [hg]; exact HB.out.size); have NPN1 := Aside0.mk (show gp ≠ gn by rw [hg]; exact Nat.ne_of_lt (blk_lt BP.out)); have BP1 := Aside0.mk (blk_below BP.out hb); have HB1 := Aside0.mk (below_step HB.out hb); clear BP HB; have BN := BN1; have GN := GN1; have NPN := NPN1; have BP := BP1; have HB := HB1; clear BN1 GN1 NPN1 BP1 HB1; clear BK_ hb hg)
   | ((with_reducible refine gate_dst (N := 4) rfl ?_); refine bx_ 4 36 #[.int .i64 0, .int .i64 0, .int .i64 0, .slice none 0 0] ?_; intro gr hg w4 BK_ hb; have BR1 := Aside0.mk (BK_); have GR1 := Aside0.mk (show w.heap.size ≤ gr by rw [hg]; exact HB.out.size); have NPR1 := Aside0.mk (show gp ≠ gr by rw [hg]; exact Nat.ne_of_lt (blk_lt BP.out)); have NNR1 := Aside0.mk (show gn ≠ gr by rw [hg]; exact Nat.ne_of_lt (blk_lt BN.out)); have BP1 := Aside0.mk (blk_below BP.out hb); have BN1 := Aside0.mk (blk_below BN.out hb); have HB1 := Aside0.mk (below_step HB.out hb); clear BP BN HB; have BR := BR1; have GR := GR1; have NPR := NPR1; have NNR := NNR1; have BP := BP1; have BN := BN1; have HB := HB1; clear BR1 GR1 NPR1 NNR1 BP1 BN1 HB1; clear BK_ hb hg; have hcp_0 : w4.cell? ⟨gp, 0, none⟩ = some (.int .i64 a0_0) := (blk_cell BP.out 0).trans rfl; have hcp_1 : w4.cell? ⟨gp, 1, none⟩ = some (.int .i64 a0_1) := (blk_cell BP.out 1).trans rfl; have hcp_2 : w4.cell? ⟨gp, 2, none⟩ = some (.int .i64 a0_2) := (blk_cell BP.out 2).trans rfl; have hcp_3 : w4.cell? ⟨gp, 3, none⟩ = some (.slice A0_3 l0_3.length c0_3) := (blk_cell BP.out 3).trans rfl)
   | (go_at_call 67; refine (impl_copyPolicy.calls k a0_0 a0_1 a0_2 _ _ l0_3 s1 s2 s3 s4 _ (Kd.C_below HR.out HB.out) HC.out A1.out).mono ?_; rintro e w6 ⟨v3, rfl, ho, hb⟩; have HO1 := Aside0.mk (Kd.N_mono (Kd.N_lower (Kd.S_N (Kd.S_bound ho)) HB.out.size) (ok' := fun k_ => w4.heap.size ≤ k_ ∧ k_ < w6.heap.size) (fun _ hk => ⟨hk.2.1, hk.2.2.1⟩)); have LP1 := Aside0.mk (blk_lt BP.out); have LN1 := Aside0.mk (blk_lt BN.out); have LR1 := Aside0.mk (blk_lt BR.out); have W41 := Aside0.mk (HB.out.size); have BP1 := Aside0.mk (blk_below BP.out hb); have BN1 := Aside0.mk (blk_below BN.out hb); have BR1 := Aside0.mk (blk_below BR.out hb); have HB1 := Aside0.mk (below_step HB.out hb); clear BP BN BR HB; have HO := HO1; have LP := LP1; have LN := LN1; have LR := LR1; have W4 := W41; have BP := BP1; have BN := BN1; have BR := BR1; have HB := HB1; clear HO1 LP1 LN1 LR1 W41 BP1 BN1 BR1 HB1; clear ho hb; obtain ⟨Ao, co, eo⟩ := Kd.N_slice HO.out; subst eo)
   | ((with_reducible refine gate_dst (N := 5) rfl ?_); refine bx_ 5 36 #[.int .i64 0, .int .i64 0, .int .i64 0, .slice none 0 0] ?_; intro go hg w7 BK_ hb; have BO1 := Aside0.mk (BK_); have GO1 := Aside0.mk (show w.heap.size ≤ go by rw [hg]; exact HB.out.size); have NPO1 := Aside0.mk (show gp ≠ go by rw [hg]; exact Nat.ne_of_lt (blk_lt BP.out)); have NNO1 := Aside0.mk (show gn ≠ go by rw [hg]; exact Nat.ne_of_lt (blk_lt BN.out)); have NRO1 := Aside0.mk (show gr ≠ go by rw [hg]; exact Nat.ne_of_lt (blk_lt BR.out)); have HO1 := Aside0.mk (Kd.N_below (Kd.N_mono HO.out (ok' := fun k_ => w4.heap.size ≤ k_ ∧ k_ < go) (fun _ hk => ⟨hk.1, by rw [hg]; exact hk.2⟩)) hb); have BP1 := Aside0.mk (blk_below BP.out hb); have BN1 := Aside0.mk (blk_below BN.out hb); have BR1 := Aside0.mk (blk_below BR.out hb); have HB1 := Aside0.mk (below_step HB.out hb); clear HO BP BN BR HB; have BO := BO1; have GO := GO1; have NPO := NPO1; have NNO := NNO1; have NRO := NRO1; have HO := HO1; have BP := BP1; have BN := BN1; have BR := BR1; have HB := HB1; clear BO1 GO1 NPO1 NNO1 NRO1 HO1 BP1 BN1 BR1 HB1; clear BK_ hb hg; have hco_0 : w7.cell? ⟨go, 0, none⟩ = some (.int .i64 0) := (blk_cell BO.out 0).trans rfl; have hco_1 : w7.cell? ⟨go, 1, none⟩ = some (.int .i64 0) := (blk_cell BO.out 1).trans rfl; have hco_2 : w7.cell? ⟨go, 2, none⟩ = some (.int .i64 0) := (blk_cell BO.out 2).trans rfl; have hco_3 : w7.cell? ⟨go, 3, none⟩ = some (.slice none 0 0) := (blk_cell BO.out 3).trans rfl; have hfo_0 := blk_frozen BO.out 0; have hfo_1 := blk_frozen BO.out 1; have hfo_2 := blk_frozen BO.out 2; have hfo_3 := blk_frozen BO.out 3; have hcq_0 : w7.cell? ⟨gp, 0, none⟩ = some (.int .i64 a0_0) := (blk_cell BP.out 0).trans rfl; have hcq_1 : w7.cell? ⟨gp, 1, none⟩ = some (.int .i64 a0_1) := (blk_cell BP.out 1).trans rfl; have hcq_2 : w7.cell? ⟨gp, 2, none⟩ = some (.int .i64 a0_2) := (blk_cell BP.out 2).trans rfl; have hcq_3 : w7.cell? ⟨gp, 3, none⟩ = some (.slice A0_3 l0_3.length c0_3) := (blk_cell BP.out 3).trans rfl; have hne1 := NPO.out; have hne2 := Ne.symm NPO.out; have hne3 := NRO.out; have hne4 := Ne.symm NRO.out; have hne5 := NPR.out; have hne6 := Ne.symm NPR.out)
   | (go_at_call 56; have P := putT (.int .i64 s1) (.int .i64 s2) (.int .i64 s3) (.slice Ao s4.length co) BO.out; refine (impl_PolicyOk.calls k a0_0 a0_1 a0_2 _ _ l0_3 false _ (Kd.C_below HR.out (below_grownB HB.out P.2.2 (fun k_ e_ => by injection e_ with e_; rw [← e_]; exact GO.out))) HC.out A2.out).mono ?_; rintro e w8 ⟨rfl, hb⟩; have HO1 := Aside0.mk (Kd.N_below (Kd.N_step HO.out (fun k_ hk_ _ => P.2.1 k_ (Nat.ne_of_lt hk_.2))) hb); have BP1 := Aside0.mk (blk_below ((P.2.1 gp NPO.out).trans BP.out) hb); have BN1 := Aside0.mk (blk_below ((P.2.1 gn NNO.out).trans BN.out) hb); have BR1 := Aside0.mk (blk_below ((P.2.1 gr NRO.out).trans BR.out) hb); have BO1 := Aside0.mk (blk_below P.1 hb); have HB1 := Aside0.mk (below_step (below_grownB HB.out P.2.2 (fun k_ e_ => by injection e_ with e_; rw [← e_]; exact GO.out)) hb); clear HO BP BN BR BO HB; have HO := HO1; have BP := BP1; have BN := BN1; have BR := BR1; have BO := BO1; have HB := HB1; clear HO1 BP1 BN1 BR1 BO1 HB1; clear P hb; have hcr_0 : w8.cell? ⟨gr, 0, none⟩ = some (.int .i64 0) := (blk_cell BR.out 0).trans rfl; have hcr_1 : w8.cell? ⟨gr, 1, none⟩ = some (.int .i64 0) := (blk_cell BR.out 1).trans rfl; have hcr_2 : w8.cell? ⟨gr, 2, none⟩ = some (.int .i64 0) := (blk_cell BR.out 2).trans rfl; have hcr_3 : w8.cell? ⟨gr, 3, none⟩ = some (.slice none 0 0) := (blk_cell BR.out 3).trans rfl; have hfr_0 := blk_frozen BR.out 0; have hfr_1 := blk_frozen BR.out 1; have hfr_2 := blk_frozen BR.out 2; have hfr_3 := blk_frozen BR.out 3; have hcs_0 : w8.cell? ⟨go, 0, none⟩ = some (.int .i64 s1) := (blk_cell BO.out 0).trans rfl; have hcs_1 : w8.cell? ⟨go, 1, none⟩ = some (.int .i64 s2) := (blk_cell BO.out 1).trans rfl; have hcs_2 : w8.cell? ⟨go, 2, none⟩ = some (.int .i64 s3) := (blk_cell BO.out 2).trans rfl; have hcs_3 : w8.cell? ⟨go, 3, none⟩ = some (.slice Ao s4.length co) := (blk_cell BO.out 3).trans rfl; have hfs_0 := blk_frozen BO.out 0; have hfs_1 := blk_frozen BO.out 1; have hfs_2 := blk_frozen BO.out 2; have hfs_3 := blk_frozen BO.out 3))
  have P := putT (.int .i64 s1) (.int .i64 s2) (.int .i64 s3) (.slice Ao s4.length co) BR.out
  refine bodyPost_ret (results_cell_row rfl _ _ gr 36 #[.int .i64 s1, .int .i64 s2, .int .i64 s3, .slice Ao s4.length co] (0, 0) _ rfl P.1 Try.underlying36 rfl (by kernel_rfl)) rfl ?_
  exact ⟨_, rfl, Kd.N_mono (Kd.N_step HO.out (fun k_ hk_ _ => P.2.1 k_ (by have := LR.out; have := hk_.1; omega))) (fun k_ hk_ => Nat.le_trans W4.out hk_.1), below_grownB HB.out P.2.2 (fun k_ e_ => by injection e_ with e_; rw [← e_]; exact GR.out)⟩
 | true =>
  obtain ⟨l', hl'⟩ : ∃ l', (s4.filter fun r => !pB a1 r) = l' := ⟨_, rfl⟩
  obtain ⟨rfl, rfl, rfl, rfl⟩ : s1 = r1 ∧ s2 = r2 ∧ s3 = r3 ∧ l' = r4 := by rw [← hl']; simpa using H
  have HL' := Aside0.mk hl'
  clear H hl'
  go_wp2_with (first
   | ((with_reducible refine gate_dst (N := 2) rfl ?_); refine bx_ 2 36 #[.int .i64 a0_0, .int .i64 a0_1, .int .i64 a0_2, .slice A0_3 l0_3.length c0_3] ?_; intro gp hg w2 BK_ hb; have BP1 := Aside0.mk (BK_); have GP1 := Aside0.mk (show w.heap.size ≤ gp by rw [hg]; exact HB.out.size); have HB1 := Aside0.mk (below_step HB.out hb); clear HB; have BP := BP1; have GP := GP1; have HB := HB1; clear BP1 GP1 HB1; clear BK_ hb hg)
   | ((with_reducible refine gate_dst (N := 3) rfl ?_); refine bx_ 3 3 #[.int .i64 a1] ?_; intro gn hg w3 BK_ hb; have BN1 := Aside0.mk (BK_); have GN1 := Aside0.mk (show w.heap.size ≤ gn by rw [hg]; exact HB.out.size); have NPN1 := Aside0.mk (show gp ≠ gn by rw [hg]; exact Nat.ne_of_lt (blk_lt BP.out)); have BP1 := Aside0.mk (blk_below BP.out hb); have HB1 := Aside0.mk (below_step HB.out hb); clear BP HB; have BN := BN1; have GN := GN1; have NPN := NPN1; have BP := BP1; have HB := HB1; clear BN1 GN1 NPN1 BP1 HB1; clear BK_ hb hg)
   | ((with_reducible refine gate_dst (N := 4) rfl ?_); refine bx_ 4 36 #[.int .i64 0, .int .i64 0, .int .i64 0, .slice none 0 0] ?_; intro gr hg w4 BK_ hb; have BR1 := Aside0.mk (BK_); have GR1 := Aside0.mk (show w.heap.size ≤ gr by rw [hg]; exact HB.out.size); have NPR1 := Aside0.mk (show gp ≠ gr by rw [hg]; exact Nat.ne_of_lt (blk_lt BP.out)); have NNR1 := Aside0.mk (show gn ≠ gr by rw [hg]; exact Nat.ne_of_lt (blk_lt BN.out)); have BP1 := Aside0.mk (blk_below BP.out hb); have BN1 := Aside0.mk (blk_below BN.out hb); have HB1 := Aside0.mk (below_step HB.out hb); clear BP BN HB; have BR := BR1; have GR := GR1; have NPR := NPR1; have NNR := NNR1; have BP := BP1; have BN := BN1; have HB := HB1; clear BR1 GR1 NPR1 NNR1 BP1 BN1 HB1; clear BK_ hb hg; have hcp_0 : w4.cell? ⟨gp, 0, none⟩ = some (.int .i64 a0_0) := (blk_cell BP.out 0).trans rfl; have hcp_1 : w4.cell? ⟨gp, 1, none⟩ = some (.int .i64 a0_1) := (blk_cell BP.out 1).trans rfl; have hcp_2 : w4.cell? ⟨gp, 2, none⟩ = some (.int .i64 a0_2) := (blk_cell BP.out 2).trans rfl; have hcp_3 : w4.cell? ⟨gp, 3, none⟩ = some (.slice A0_3 l0_3.length c0_3) := (blk_cell BP.out 3).trans rfl)
   | (go_at_call 67; refine (impl_copyPolicy.calls k a0_0 a0_1 a0_2 _ _ l0_3 s1 s2 s3 s4 _ (Kd.C_below HR.out HB.out) HC.out A1.out).mono ?_; rintro e w6 ⟨v3, rfl, ho, hb⟩; have HO1 := Aside0.mk (Kd.N_mono (Kd.N_lower (Kd.S_N (Kd.S_bound ho)) HB.out.size) (ok' := fun k_ => w4.heap.size ≤ k_ ∧ k_ < w6.heap.size) (fun _ hk => ⟨hk.2.1, hk.2.2.1⟩)); have LP1 := Aside0.mk (blk_lt BP.out); have LN1 := Aside0.mk (blk_lt BN.out); have LR1 := Aside0.mk (blk_lt BR.out); have W41 := Aside0.mk (HB.out.size); have BP1 := Aside0.mk (blk_below BP.out hb); have BN1 := Aside0.mk (blk_below BN.out hb); have BR1 := Aside0.mk (blk_below BR.out hb); have HB1 := Aside0.mk (below_step HB.out hb); clear BP BN BR HB; have HO := HO1; have LP := LP1; have LN := LN1; have LR := LR1; have W4 := W41; have BP := BP1; have BN := BN1; have BR := BR1; have HB := HB1; clear HO1 LP1 LN1 LR1 W41 BP1 BN1 BR1 HB1; clear ho hb; obtain ⟨Ao, co, eo⟩ := Kd.N_slice HO.out; subst eo)
   | ((with_reducible refine gate_dst (N := 5) rfl ?_); refine bx_ 5 36 #[.int .i64 0, .int .i64 0, .int .i64 0, .slice none 0 0] ?_; intro go hg w7 BK_ hb; have BO1 := Aside0.mk (BK_); have GO1 := Aside0.mk (show w.heap.size ≤ go by rw [hg]; exact HB.out.size); have NPO1 := Aside0.mk (show gp ≠ go by rw [hg]; exact Nat.ne_of_lt (blk_lt BP.out)); have NNO1 := Aside0.mk (show gn ≠ go by rw [hg]; exact Nat.ne_of_lt (blk_lt BN.out)); have NRO1 := Aside0.mk (show gr ≠ go by rw [hg]; exact Nat.ne_of_lt (blk_lt BR.out)); have HO1 := Aside0.mk (Kd.N_below (Kd.N_mono HO.out (ok' := fun k_ => w4.heap.size ≤ k_ ∧ k_ < go) (fun _ hk => ⟨hk.1, by rw [hg]; exact hk.2⟩)) hb); have BP1 := Aside0.mk (blk_below BP.out hb); have BN1 := Aside0.mk (blk_below BN.out hb); have BR1 := Aside0.mk (blk_below BR.out hb); have HB1 := Aside0.mk (below_step HB.out hb); clear HO BP BN BR HB; have BO := BO1; have GO := GO1; have NPO := NPO1; have NNO := NNO1; have NRO := NRO1; have HO := HO1; have BP := BP1; have BN := BN1; have BR := BR1; have HB := HB1; clear BO1 GO1 NPO1 NNO1 NRO1 HO1 BP1 BN1 BR1 HB1; clear BK_ hb hg; have hco_0 : w7.cell? ⟨go, 0, none⟩ = some (.int .i64 0) := (blk_cell BO.out 0).trans rfl; have hco_1 : w7.cell? ⟨go, 1, none⟩ = some (.int .i64 0) := (blk_cell BO.out 1).trans rfl; have hco_2 : w7.cell? ⟨go, 2, none⟩ = some (.int .i64 0) := (blk_cell BO.out 2).trans rfl; have hco_3 : w7.cell? ⟨go, 3, none⟩ = some (.slice none 0 0) := (blk_cell BO.out 3).trans rfl; have hfo_0 := blk_frozen BO.out 0; have hfo_1 := blk_frozen BO.out 1; have hfo_2 := blk_frozen BO.out 2; have hfo_3 := blk_frozen BO.out 3; have hcq_0 : w7.cell? ⟨gp, 0, none⟩ = some (.int .i64 a0_0) := (blk_cell BP.out 0).trans rfl; have hcq_1 : w7.cell? ⟨gp, 1, none⟩ = some (.int .i64 a0_1) := (blk_cell BP.out 1).trans rfl; have hcq_2 : w7.cell? ⟨gp, 2, none⟩ = some (.int .i64 a0_2) := (blk_cell BP.out 2).trans rfl; have hcq_3 : w7.cell? ⟨gp, 3, none⟩ = some (.slice A0_3 l0_3.length c0_3) := (blk_cell BP.out 3).trans rfl; have hne1 := NPO.out; have hne2 := Ne.symm NPO.out; have hne3 := NRO.out; have hne4 := Ne.symm NRO.out; have hne5 := NPR.out; have hne6 := Ne.symm NPR.out)
   | (go_at_call 56; have P := putT (.int .i64 s1) (.int .i64 s2) (.int .i64 s3) (.slice Ao s4.length co) BO.out; refine (impl_PolicyOk.calls k a0_0 a0_1 a0_2 _ _ l0_3 true _ (Kd.C_below HR.out (below_grownB HB.out P.2.2 (fun k_ e_ => by injection e_ with e_; rw [← e_]; exact GO.out))) HC.out A2.out).mono ?_; rintro e w8 ⟨rfl, hb⟩; have HO1 := Aside0.mk (Kd.N_below (Kd.N_step HO.out (fun k_ hk_ _ => P.2.1 k_ (Nat.ne_of_lt hk_.2))) hb); have BP1 := Aside0.mk (blk_below ((P.2.1 gp NPO.out).trans BP.out) hb); have BN1 := Aside0.mk (blk_below ((P.2.1 gn NNO.out).trans BN.out) hb); have BR1 := Aside0.mk (blk_below ((P.2.1 gr NRO.out).trans BR.out) hb); have BO1 := Aside0.mk (blk_below P.1 hb); have HB1 := Aside0.mk (below_step (below_grownB HB.out P.2.2 (fun k_ e_ => by injection e_ with e_; rw [← e_]; exact GO.out)) hb); clear HO BP BN BR BO HB; have HO := HO1; have BP := BP1; have BN := BN1; have BR := BR1; have BO := BO1; have HB := HB1; clear HO1 BP1 BN1 BR1 BO1 HB1; clear P hb; have hcr_0 : w8.cell? ⟨gr, 0, none⟩ = some (.int .i64 0) := (blk_cell BR.out 0).trans rfl; have hcr_1 : w8.cell? ⟨gr, 1, none⟩ = some (.int .i64 0) := (blk_cell BR.out 1).trans rfl; have hcr_2 : w8.cell? ⟨gr, 2, none⟩ = some (.int .i64 0) := (blk_cell BR.out 2).trans rfl; have hcr_3 : w8.cell? ⟨gr, 3, none⟩ = some (.slice none 0 0) := (blk_cell BR.out 3).trans rfl; have hfr_0 := blk_frozen BR.out 0; have hfr_1 := blk_frozen BR.out 1; have hfr_2 := blk_frozen BR.out 2; have hfr_3 := blk_frozen BR.out 3; have hcs_0 : w8.cell? ⟨go, 0, none⟩ = some (.int .i64 s1) := (blk_cell BO.out 0).trans rfl; have hcs_1 : w8.cell? ⟨go, 1, none⟩ = some (.int .i64 s2) := (blk_cell BO.out 1).trans rfl; have hcs_2 : w8.cell? ⟨go, 2, none⟩ = some (.int .i64 s3) := (blk_cell BO.out 2).trans rfl; have hcs_3 : w8.cell? ⟨go, 3, none⟩ = some (.slice Ao s4.length co) := (blk_cell BO.out 3).trans rfl; have hfs_0 := blk_frozen BO.out 0; have hfs_1 := blk_frozen BO.out 1; have hfs_2 := blk_frozen BO.out 2; have hfs_3 := blk_frozen BO.out 3)
   | (go_at_call 68; refine (delN_calls gn a1 (.slice Ao s4.length co) s4 _ _ _ HO.out BN.out).mono ?_; rintro e w9 ⟨v2, rfl, hN, hg⟩; rw [HL'.out] at hN; have HO1 := Aside0.mk (hN); have BP1 := Aside0.mk (blk_grown BP.out hg (Kd.N_ne HO.out BP.out (by decide))); have BN1 := Aside0.mk (blk_grown BN.out hg (Kd.N_ne HO.out BN.out (by decide))); have BR1 := Aside0.mk (blk_grown BR.out hg (Kd.N_ne HO.out BR.out (by decide))); have BO1 := Aside0.mk (blk_grown BO.out hg (Kd.N_ne HO.out BO.out (by decide))); have HB1 := Aside0.mk (below_grownB HB.out hg (Kd.N_base HO.out)); clear HO BP BN BR BO HB; have HO := HO1; have BP := BP1; have BN := BN1; have BR := BR1; have BO := BO1; have HB := HB1; clear HO1 BP1 BN1 BR1 BO1 HB1; clear hN hg; obtain ⟨A2, c2, e2⟩ := Kd.N_slice HO.out; subst e2; have hct_0 : w9.cell? ⟨gr, 0, none⟩ = some (.int .i64 0) := (blk_cell BR.out 0).trans rfl; have hct_1 : w9.cell? ⟨gr, 1, none⟩ = some (.int .i64 0) := (blk_cell BR.out 1).trans rfl; have hct_2 : w9.cell? ⟨gr, 2, none⟩ = some (.int .i64 0) := (blk_cell BR.out 2).trans rfl; have hct_3 : w9.cell? ⟨gr, 3, none⟩ = some (.slice none 0 0) := (blk_cell BR.out 3).trans rfl; have hft_0 := blk_frozen BR.out 0; have hft_1 := blk_frozen BR.out 1; have hft_2 := blk_frozen BR.out 2; have hft_3 := blk_frozen BR.out 3; have hcu_0 : w9.cell? ⟨go, 0, none⟩ = some (.int .i64 s1) := (blk_cell BO.out 0).trans rfl; have hcu_1 : w9.cell? ⟨go, 1, none⟩ = some (.int .i64 s2) := (blk_cell BO.out 1).trans rfl; have hcu_2 : w9.cell? ⟨go, 2, none⟩ = some (.int .i64 s3) := (blk_cell BO.out 2).trans rfl; have hcu_3 : w9.cell? ⟨go, 3, none⟩ = some (.slice Ao s4.length co) := (blk_cell BO.out 3).trans rfl; have hfu_0 := blk_frozen BO.out 0; have hfu_1 := blk_frozen BO.out 1; have hfu_2 := blk_frozen BO.out 2; have hfu_3 := blk_frozen BO.out 3))
  have P := putT (.int .i64 s1) (.int .i64 s2) (.int .i64 s3) (.slice A2 l'.length c2) (blk_far BR.out (p := ⟨go, 3, none⟩) NRO.out (.slice A2 l'.length c2))
  refine bodyPost_ret (results_cell_row rfl _ _ gr 36 #[.int .i64 s1, .int .i64 s2, .int .i64 s3, .slice A2 l'.length c2] (0, 0) _ rfl P.1 Try.underlying36 rfl (by kernel_rfl)) rfl ?_
  exact ⟨_, rfl, Kd.N_mono (Kd.N_step (Kd.N_far HO.out (p := ⟨go, 3, none⟩) (fun k_ hk_ => Nat.ne_of_lt hk_.2) (.slice A2 l'.length c2)) (fun k_ hk_ _ => P.2.1 k_ (by have := LR.out; have := hk_.1; omega))) (fun k_ hk_ => Nat.le_trans W4.out hk_.1), below_grownB (below_set HB.out GO.out) P.2.2 (fun k_ e_ => by injection e_ with e_; rw [← e_]; exact GR.out)⟩
end Go.Proofs.Ytjfmpodeenidnaa.PC

namespace Go.Proofs.Ytjfmpodeenidnaa.PC
open Go.RowKit Go.Proofs.Ytjfmpodeenidnaa.Short Go.Proofs.YtjfmpodeenidnaaW.PrintWords Go.Proofs.YtjfmpodeenidnaaW.PrintLast Go.Proofs.YtjfmpodeenidnaaW.PrintMore
attribute [local go_sem] max2_int min2_int max_two min_two max_three min_three max_four min_four   -- for this text's walks alone
set_option linter.unusedVariables false
set_option linter.unusedSimpArgs false

def laws_sameInts.l0 : Nat → List Int → List Int → Int → Option (Bool)
 | 0, _, _, _ => none
 | k + 1, x0, x1, x5 => if x5 < (x0.length : Int) then (if 0 ≤ x5 then (if x5 < (x1.length : Int) then (if (rd x0 x5) = (rd x1 x5) then (laws_sameInts.l0 k x0 x1 (wrap64 (x5 + 1))) else (some false)) else (none)) else (none)) else (some true)
def laws_sameInts.f (k : Nat) (l0 : List Int) (l1 : List Int) : Option (Bool) := if (l0.length : Int) = (l1.length : Int) then (laws_sameInts.l0 k l0 l1 0) else (some false)
theorem laws_sameInts.mono_l : ∀ k, (∀ y0 y1 y2, LeO (laws_sameInts.l0 k y0 y1 y2) (laws_sameInts.l0 (k + 1) y0 y1 y2))
 | 0 => fun _ _ _ r h => by simp [laws_sameInts.l0] at h
 | k + 1 => by
  have ih0 := laws_sameInts.mono_l k
  ·intro y0 y1 y2
   unfold laws_sameInts.l0
   exact mo_
theorem laws_sameInts.mono : ∀ a0 a1 k, LeO (laws_sameInts.f k a0 a1) (laws_sameInts.f (k + 1) a0 a1) := by
 intro a0 a1 k
 have ih0 := laws_sameInts.mono_l k
 unfold laws_sameInts.f
 exact mo_
theorem laws_sameInts.calls (k : Nat) (A0 : Option Addr) (c0 : Nat) (l0 : List Int) (A1 : Option Addr) (c1 : Nat) (l1 : List Int) (r : Bool) (w : World) (hr0 : Kd.C (Kd.int .i64) w A0 l0.length l0) (hc0 : l0.length ≤ c0) (hr1 : Kd.C (Kd.int .i64) w A1 l1.length l1) (hc1 : l1.length ≤ c1) (h : laws_sameInts.f k l0 l1 = some r) :
 Calls Try.prog 28 #[.slice A0 l0.length c0, .slice A1 l1.length c1] w fun e w' => e = .returned (.bool r) ∧ Drawn0 w w' := by
 have HR0 := Aside0.mk hr0
 have HC0 := Aside0.mk hc0
 clear hr0 hc0
 have HR1 := Aside0.mk hr1
 have HC1 := Aside0.mk hc1
 clear hr1 hc1
 have H := h
 unfold laws_sameInts.f at H
 clear h
 by_cases c3 : (l0.length : Int) = (l1.length : Int)
 rotate_left
 ·rw [if_neg c3] at H
  have c3b0 : ((l0.length : Int) == (l1.length : Int)) = false := beq_eq_false_iff_ne.mpr c3
  have c3b1 : ((l0.length : Int) != (l1.length : Int)) = true := bne_iff_ne.mpr c3
  have c3b2 : (l0.length == l1.length) = false := by first | simpa using c3 | (simp at c3 ⊢; omega)
  obtain rfl := Option.some.inj H
  go_enter Try.func28, Try.ntmps28
  go_wp2
  repeat (go_quiet (fail); try go_wp2)
  go_ret
  exact ⟨sr_, by repeat (first | exact Drawn0.refl _ | apply Drawn0.step)⟩
 rw [if_pos c3] at H
 have c3b0 : ((l0.length : Int) == (l1.length : Int)) = true := beq_iff_eq.mpr c3
 have c3b1 : ((l0.length : Int) != (l1.length : Int)) = false := bne_eq_false_iff_eq.mpr c3
 have c3b2 : (l0.length == l1.length) = true := by first | simpa using c3 | (simp at c3 ⊢; omega)
 clear c3
 have H' := Aside0.mk H
 clear H
 go_enter Try.func28, Try.ntmps28
 go_wp2
 repeat (go_quiet (fail); try go_wp2)
 go_loopg [5] k (fun kq v5 w' => ∃ (x5_1 : Int), v5 = .int .i64 x5_1 ∧ Aside0 (laws_sameInts.l0 kq l0 l1 x5_1 = some r) ∧ Aside0 (kq ≤ k) ∧ Drawn0 w w')
 case atStart => exact ⟨(0), (sr_), H', ⟨Nat.le_refl _⟩, by repeat (first | exact Drawn0.refl _ | apply Drawn0.step)⟩
 clear H'
 try clear c1
 try clear c3
 try clear c3b0
 try clear c3b1
 try clear c3b2
 obtain ⟨x5_1, rfl, HA, HK1, ⟨m1, rfl⟩⟩ := hrel
 cases gk with
 | zero => exact absurd HA.out (by simp [laws_sameInts.l0])
 | succ k1 => ?_
 have H := HA.out
 clear HA
 simp only [laws_sameInts.l0] at H
 by_cases c4 : x5_1 < (l0.length : Int)
 rotate_left
 ·rw [if_neg c4] at H
  have c4b0 := decide_eq_false c4
  clear c4
  obtain rfl := Option.some.inj H
  go_wp2
  repeat (go_quiet (fail); try go_wp2)
  go_ret
  exact ⟨sr_, by repeat (first | exact Drawn0.refl _ | apply Drawn0.step)⟩
 rw [if_pos c4] at H
 have c4b0 := decide_eq_true c4
 clear c4
 by_cases c5 : 0 ≤ x5_1
 rotate_left
 ·exact nn_ c5 H
 rw [if_pos c5] at H
 have c5b0 := decide_eq_true c5
 clear c5
 by_cases c6 : x5_1 < (l1.length : Int)
 rotate_left
 ·exact nn_ c6 H
 rw [if_pos c6] at H
 have c6b0 := decide_eq_true c6
 clear c6
 by_cases c7 : (rd l0 x5_1) = (rd l1 x5_1)
 rotate_left
 ·rw [if_neg c7] at H
  have c7b0 : ((rd l0 x5_1) == (rd l1 x5_1)) = false := beq_eq_false_iff_ne.mpr c7
  have c7b1 : ((rd l0 x5_1) != (rd l1 x5_1)) = true := bne_iff_ne.mpr c7
  obtain rfl := Option.some.inj H
  have p591 : 0 ≤ (x5_1 : Int) := of_decide_eq_true as_
  have q591 : x5_1 < (l0.length : Int) := of_decide_eq_true as_
  obtain ⟨ad591, e591, hx591_0⟩ := Kd.at_int HR0.out x5_1 p591 q591
  cases e591
  replace p591 := eq_true p591
  replace q591 := eq_true q591
  have p592 : 0 ≤ (x5_1 : Int) := of_decide_eq_true as_
  have q592 : x5_1 < (l1.length : Int) := of_decide_eq_true as_
  obtain ⟨ad592, e592, hx592_0⟩ := Kd.at_int HR1.out x5_1 p592 q592
  cases e592
  replace p592 := eq_true p592
  replace q592 := eq_true q592
  go_wp2
  repeat (go_quiet (fail); try go_wp2)
  go_ret
  exact ⟨sr_, by repeat (first | exact Drawn0.refl _ | apply Drawn0.step)⟩
 rw [if_pos c7] at H
 have c7b0 : ((rd l0 x5_1) == (rd l1 x5_1)) = true := beq_iff_eq.mpr c7
 have c7b1 : ((rd l0 x5_1) != (rd l1 x5_1)) = false := bne_eq_false_iff_eq.mpr c7
 clear c7
 have H' := Aside0.mk H
 clear H
 have p591 : 0 ≤ (x5_1 : Int) := of_decide_eq_true as_
 have q591 : x5_1 < (l0.length : Int) := of_decide_eq_true as_
 obtain ⟨ad591, e591, hx591_0⟩ := Kd.at_int HR0.out x5_1 p591 q591
 cases e591
 replace p591 := eq_true p591
 replace q591 := eq_true q591
 have p592 : 0 ≤ (x5_1 : Int) := of_decide_eq_true as_
 have q592 : x5_1 < (l1.length : Int) := of_decide_eq_true as_
 obtain ⟨ad592, e592, hx592_0⟩ := Kd.at_int HR1.out x5_1 p592 q592
 cases e592
 replace p592 := eq_true p592
 replace q592 := eq_true q592
 go_wp2
 repeat (go_quiet (fail); try go_wp2)
 go_roundg k1
 case measure => have := HK1.out; omega
 case rel => exact ⟨(wrap64 (x5_1 + 1)), (sr_), H', ⟨by have := HK1.out; omega⟩, by repeat (first | exact Drawn0.refl _ | apply Drawn0.step)⟩

end Go.Proofs.Ytjfmpodeenidnaa.PC
