/- Contracts of functions of the program and of the reference, and plain lemmas on what they compute: a part of the proof of the law FnExactPidsIn. No condition. -/
import Derived.Test.YtmjlhikflhbdaaaGabbbex0
import Derived.Test.YtmjlhikflhbdaaaG26642x0
import Derived.Test.YtmjlhikflhbdaaaG679a5x0
import Derived.Test.YtmjlhikflhbdaaaG330b6x0
import Derived.Test.YtmjlhikflhbdaaaGa31e0x0
import Derived.Test.YtmjlhikflhbdaaaV0
import Derived.ChangeArms
import Derived.ChangeOld
import Derived.WideShapes
import Derived.OpenShut
import Derived.DataElems
import Derived.Test.YtmjlhikflhbdaaaRows
import Derived.WalkKit
import Derived.ProofKit
import Derived.ShutString
import Derived.Below
import Derived.SizedLaws
import Derived.Carry
import Derived.Test.YtmjlhikflhbdaaaShortV
namespace Go.Proofs.Ytmjlhikflhbdaaa.PA
open Go.RowKit Go.Proofs.Ytmjlhikflhbdaaa.Short Go.Proofs.YtmjlhikflhbdaaaW.PrintWords Go.Proofs.YtmjlhikflhbdaaaW.PrintLast Go.Proofs.YtmjlhikflhbdaaaW.PrintMore
attribute [local go_sem] max2_int min2_int max_two min_two max_three min_three max_four min_four   -- for this text's walks alone
set_option linter.unusedVariables false
set_option linter.unusedSimpArgs false

/-! ### laws_eqIntS: function 45 -/
def laws_eqIntS.l0 : Nat → List Int → List Int → Int → Option (Bool)
 | 0, _, _, _ => none
 | k + 1, x0, x1, x5 => if x5 < (x0.length : Int) then (if 0 ≤ x5 then (if x5 < (x1.length : Int) then (if (rd x0 x5) = (rd x1 x5) then (laws_eqIntS.l0 k x0 x1 (wrap64 (x5 + 1))) else (some false)) else (none)) else (none)) else (some true)
def laws_eqIntS.f (k : Nat) (l0 : List Int) (l1 : List Int) : Option (Bool) := if (l0.length : Int) = (l1.length : Int) then (laws_eqIntS.l0 k l0 l1 0) else (some false)
theorem laws_eqIntS.mono_l : ∀ k, (∀ y0 y1 y2, LeO (laws_eqIntS.l0 k y0 y1 y2) (laws_eqIntS.l0 (k + 1) y0 y1 y2))
 | 0 => fun _ _ _ r h => by simp [laws_eqIntS.l0] at h
 | k + 1 => by
  have ih0 := laws_eqIntS.mono_l k
  ·intro y0 y1 y2
   unfold laws_eqIntS.l0
   repeat' first
   | (with_reducible exact ih0 _ _ _)
   | (with_reducible exact LeO.refl _)
   | (with_reducible exact LeO.none _)
   | (with_reducible refine LeO.ite ?_ ?_)
   | (with_reducible refine LeO.bind ?_ (fun _ => ?_))
   | exact ih0 _ _ _
   | exact LeO.none _
   | refine LeO.ite ?_ ?_
   | refine LeO.bind ?_ (fun _ => ?_)
theorem laws_eqIntS.mono : ∀ a0 a1 k, LeO (laws_eqIntS.f k a0 a1) (laws_eqIntS.f (k + 1) a0 a1) := by
 intro a0 a1 k
 have ih0 := laws_eqIntS.mono_l k
 unfold laws_eqIntS.f
 repeat' first
  | (with_reducible exact ih0 _ _ _)
  | (with_reducible exact LeO.refl _)
  | (with_reducible exact LeO.none _)
  | (with_reducible refine LeO.ite ?_ ?_)
  | (with_reducible refine LeO.bind ?_ (fun _ => ?_))
  | exact ih0 _ _ _
  | exact LeO.none _
  | refine LeO.ite ?_ ?_
  | refine LeO.bind ?_ (fun _ => ?_)
set_option maxHeartbeats 8000000 in
set_option maxRecDepth 100000 in
theorem laws_eqIntS.calls (k : Nat) (A0 : Option Addr) (c0 : Nat) (l0 : List Int) (A1 : Option Addr) (c1 : Nat) (l1 : List Int) (r : Bool) (w : World) (hr0 : Kd.C (Kd.int .i64) w A0 l0.length l0) (hc0 : l0.length ≤ c0) (hr1 : Kd.C (Kd.int .i64) w A1 l1.length l1) (hc1 : l1.length ≤ c1) (h : laws_eqIntS.f k l0 l1 = some r) :
 Calls Try.prog 45 #[.slice A0 l0.length c0, .slice A1 l1.length c1] w fun e w' => e = .returned (.bool r) ∧ Drawn0 w w' := by
 have HR0 := Aside0.mk hr0
 have HC0 := Aside0.mk hc0
 clear hr0 hc0
 have HR1 := Aside0.mk hr1
 have HC1 := Aside0.mk hc1
 clear hr1 hc1
 have H : (if (l0.length : Int) = (l1.length : Int) then (laws_eqIntS.l0 k l0 l1 0) else (some false)) = some r := h
 clear h
 by_cases c3 : (l0.length : Int) = (l1.length : Int)
 ·rw [if_pos c3] at H
  have c3b0 : ((l0.length : Int) == (l1.length : Int)) = true := beq_iff_eq.mpr c3
  have c3b1 : ((l0.length : Int) != (l1.length : Int)) = false := bne_eq_false_iff_eq.mpr c3
  have c3b2 : (l0.length == l1.length) = true := by first | simpa using c3 | (simp at c3 ⊢; omega)
  clear c3
  have H' := Aside0.mk H
  clear H
  go_enter Try.func45, Try.ntmps45
  go_wp2
  repeat (go_quiet (fail); try go_wp2)
  go_loopg [5] k (fun kq v5 w' => ∃ (x5_1 : Int), v5 = .int .i64 x5_1 ∧ Aside0 (laws_eqIntS.l0 kq l0 l1 x5_1 = some r) ∧ Aside0 (kq ≤ k) ∧ Drawn0 w w')
  case atStart => exact ⟨(0), (by first | rfl | (simp; done) | (simp [*]; done)), H', ⟨Nat.le_refl _⟩, by repeat (first | exact Drawn0.refl _ | apply Drawn0.step)⟩
  case round =>
   clear H'
   try clear c1
   try clear p2
   try clear c3
   try clear c3b0
   try clear c3b1
   try clear c3b2
   obtain ⟨x5_1, rfl, HA, HK1, ⟨m1, rfl⟩⟩ := hrel
   cases gk with
   | zero => exact absurd HA.out (by simp [laws_eqIntS.l0])
   | succ k1 =>
    have H := HA.out
    clear HA
    simp only [laws_eqIntS.l0] at H
    by_cases c4 : x5_1 < (l0.length : Int)
    ·rw [if_pos c4] at H
     have c4b0 : decide (x5_1 < (l0.length : Int)) = true := decide_eq_true c4
     clear c4
     by_cases c5 : 0 ≤ x5_1
     ·rw [if_pos c5] at H
      have c5b0 : decide (0 ≤ x5_1) = true := decide_eq_true c5
      clear c5
      by_cases c6 : x5_1 < (l1.length : Int)
      ·rw [if_pos c6] at H
       have c6b0 : decide (x5_1 < (l1.length : Int)) = true := decide_eq_true c6
       clear c6
       by_cases c7 : (rd l0 x5_1) = (rd l1 x5_1)
       ·rw [if_pos c7] at H
        have c7b0 : ((rd l0 x5_1) == (rd l1 x5_1)) = true := beq_iff_eq.mpr c7
        have c7b1 : ((rd l0 x5_1) != (rd l1 x5_1)) = false := bne_eq_false_iff_eq.mpr c7
        clear c7
        have H' := Aside0.mk H
        clear H
        have p1036 : 0 ≤ (x5_1 : Int) := of_decide_eq_true as_
        have q1036 : x5_1 < (l0.length : Int) := of_decide_eq_true as_
        obtain ⟨ad1036, e1036, hx1036_0⟩ := Kd.at_int HR0.out x5_1 p1036 q1036
        cases e1036
        replace p1036 := eq_true p1036
        replace q1036 := eq_true q1036
        have p1037 : 0 ≤ (x5_1 : Int) := of_decide_eq_true as_
        have q1037 : x5_1 < (l1.length : Int) := of_decide_eq_true as_
        obtain ⟨ad1037, e1037, hx1037_0⟩ := Kd.at_int HR1.out x5_1 p1037 q1037
        cases e1037
        replace p1037 := eq_true p1037
        replace q1037 := eq_true q1037
        go_wp2
        repeat (go_quiet (fail); try go_wp2)
        go_roundg k1
        case measure => have := HK1.out; omega
        case rel => exact ⟨(wrap64 (x5_1 + 1)), (by first | rfl | (simp; done) | (simp [*]; done)), H', ⟨by have := HK1.out; omega⟩, by repeat (first | exact Drawn0.refl _ | apply Drawn0.step)⟩
       ·rw [if_neg c7] at H
        have c7b0 : ((rd l0 x5_1) == (rd l1 x5_1)) = false := beq_eq_false_iff_ne.mpr c7
        have c7b1 : ((rd l0 x5_1) != (rd l1 x5_1)) = true := bne_iff_ne.mpr c7
        obtain rfl := Option.some.inj H
        have p1036 : 0 ≤ (x5_1 : Int) := of_decide_eq_true as_
        have q1036 : x5_1 < (l0.length : Int) := of_decide_eq_true as_
        obtain ⟨ad1036, e1036, hx1036_0⟩ := Kd.at_int HR0.out x5_1 p1036 q1036
        cases e1036
        replace p1036 := eq_true p1036
        replace q1036 := eq_true q1036
        have p1037 : 0 ≤ (x5_1 : Int) := of_decide_eq_true as_
        have q1037 : x5_1 < (l1.length : Int) := of_decide_eq_true as_
        obtain ⟨ad1037, e1037, hx1037_0⟩ := Kd.at_int HR1.out x5_1 p1037 q1037
        cases e1037
        replace p1037 := eq_true p1037
        replace q1037 := eq_true q1037
        go_wp2
        repeat (go_quiet (fail); try go_wp2)
        go_ret
        exact ⟨by first | rfl | (simp; done) | (simp [*]; done), by repeat (first | exact Drawn0.refl _ | apply Drawn0.step)⟩
      ·rw [if_neg c6] at H
       exact absurd H (by simp)
     ·rw [if_neg c5] at H
      exact absurd H (by simp)
    ·rw [if_neg c4] at H
     have c4b0 : decide (x5_1 < (l0.length : Int)) = false := decide_eq_false c4
     clear c4
     obtain rfl := Option.some.inj H
     go_wp2
     repeat (go_quiet (fail); try go_wp2)
     go_ret
     exact ⟨by first | rfl | (simp; done) | (simp [*]; done), by repeat (first | exact Drawn0.refl _ | apply Drawn0.step)⟩
 ·rw [if_neg c3] at H
  have c3b0 : ((l0.length : Int) == (l1.length : Int)) = false := beq_eq_false_iff_ne.mpr c3
  have c3b1 : ((l0.length : Int) != (l1.length : Int)) = true := bne_iff_ne.mpr c3
  have c3b2 : (l0.length == l1.length) = false := by first | simpa using c3 | (simp at c3 ⊢; omega)
  obtain rfl := Option.some.inj H
  go_enter Try.func45, Try.ntmps45
  go_wp2
  repeat (go_quiet (fail); try go_wp2)
  go_ret
  exact ⟨by first | rfl | (simp; done) | (simp [*]; done), by repeat (first | exact Drawn0.refl _ | apply Drawn0.step)⟩


/-! ### laws_markIntS: function 47 -/
def laws_markIntS.l0 : Nat → List Int → Int → Int → Option (Int × List Int)
 | 0, _, _, _ => none
 | k + 1, x0, x1, x5 => if x5 < (x0.length : Int) then (if 0 ≤ x5 then (laws_markIntS.l0 k (x0.set (x5 : Int).toNat x1) (wrap64 (x1 + 1)) (wrap64 (x5 + 1))) else (none)) else (some (x1, x0))
def laws_markIntS.f (k : Nat) (l0 : List Int) (a1 : Int) : Option (Int × List Int) := laws_markIntS.l0 k l0 a1 0
theorem laws_markIntS.mono_l : ∀ k, (∀ y0 y1 y2, LeO (laws_markIntS.l0 k y0 y1 y2) (laws_markIntS.l0 (k + 1) y0 y1 y2))
 | 0 => fun _ _ _ r h => by simp [laws_markIntS.l0] at h
 | k + 1 => by
  have ih0 := laws_markIntS.mono_l k
  ·intro y0 y1 y2
   unfold laws_markIntS.l0
   repeat' first
   | (with_reducible exact ih0 _ _ _)
   | (with_reducible exact LeO.refl _)
   | (with_reducible exact LeO.none _)
   | (with_reducible refine LeO.ite ?_ ?_)
   | (with_reducible refine LeO.bind ?_ (fun _ => ?_))
   | exact ih0 _ _ _
   | exact LeO.none _
   | refine LeO.ite ?_ ?_
   | refine LeO.bind ?_ (fun _ => ?_)
theorem laws_markIntS.mono : ∀ a0 a1 k, LeO (laws_markIntS.f k a0 a1) (laws_markIntS.f (k + 1) a0 a1) := by
 intro a0 a1 k
 have ih0 := laws_markIntS.mono_l k
 unfold laws_markIntS.f
 repeat' first
  | (with_reducible exact ih0 _ _ _)
  | (with_reducible exact LeO.refl _)
  | (with_reducible exact LeO.none _)
  | (with_reducible refine LeO.ite ?_ ?_)
  | (with_reducible refine LeO.bind ?_ (fun _ => ?_))
  | exact ih0 _ _ _
  | exact LeO.none _
  | refine LeO.ite ?_ ?_
  | refine LeO.bind ?_ (fun _ => ?_)
set_option maxHeartbeats 8000000 in
set_option maxRecDepth 100000 in
theorem laws_markIntS.calls (k : Nat) (P0_ : Nat → Prop) (u9000_ : Value) (l0 : List Int) (a1 : Int) (r1 : Int) (r2 : List Int) (w0 w : World) (hB : Below w0.heap.size w0 w) (ho0 : Kd.R (Kd.int .i64) 3 w w0.heap.size P0_ u9000_ l0) (h : laws_markIntS.f k l0 a1 = some (r1, r2)) :
 Calls Try.prog 47 #[u9000_, .int .i64 a1] w fun e w' => e = .returned (.int .i64 r1) ∧ Kd.R (Kd.int .i64) 3 w' w0.heap.size (fun k_ => (P0_ k_ ∨ w.heap.size ≤ k_)) u9000_ r2 ∧ Below w0.heap.size w0 w' ∧ Kept w w' (fun k_ => P0_ k_) := by
 have HO0 := Aside0.mk (show Kd.R (Kd.int .i64) 3 w w0.heap.size (fun k_ => (P0_ k_ ∨ w.heap.size ≤ k_)) u9000_ l0 from Kd.R_mono ho0 (fun k_ hk => (.inl hk)))
 have HK := Aside0.mk (Kept.refl w (fun k_ => P0_ k_))
 have HW0 := Aside0.mk hB.size
 have HB := Aside0.mk hB
 clear hB
 have H : (laws_markIntS.l0 k l0 a1 0) = some (r1, r2) := h
 clear h
 have H' := Aside0.mk H
 clear H
 go_enter Try.func47, Try.ntmps47
 go_wp2
 go_loopg [1, 5] k (fun kq v1 v5 w' => ∃ (x0_1 : List Int) (x1_1 : Int) (x5_1 : Int), v1 = .int .i64 x1_1 ∧ v5 = .int .i64 x5_1 ∧ Aside0 (laws_markIntS.l0 kq x0_1 x1_1 x5_1 = some (r1, r2)) ∧ Aside0 (kq ≤ k) ∧ Aside0 (Kd.R (Kd.int .i64) 3 w' w0.heap.size (fun k_ => (P0_ k_ ∨ w.heap.size ≤ k_)) u9000_ x0_1) ∧ Aside0 (Kept w w' (fun k_ => P0_ k_)) ∧ Aside0 (Below w0.heap.size w0 w'))
 case atStart => exact ⟨(l0), (a1), (0), (by first | rfl | (simp; done) | (simp [*]; done)), (by first | rfl | (simp; done) | (simp [*]; done)), H', ⟨Nat.le_refl _⟩, ⟨ra_ HO0.out⟩, ⟨by repeat (first | (with_reducible first | exact HK.out | apply Kept.alloc | apply Kept.drewN | apply Kept.drew) | exact HK.out)⟩, ⟨bl_⟩⟩
 case round =>
  clear H'
  try clear p2
  obtain ⟨x0_1, x1_1, x5_1, rfl, rfl, HA, HK1, HO_0, HK, HB⟩ := hrel
  cases gk with
  | zero => exact absurd HA.out (by simp [laws_markIntS.l0])
  | succ k1 =>
   have H := HA.out
   clear HA
   simp only [laws_markIntS.l0] at H
   by_cases c3 : x5_1 < (x0_1.length : Int)
   ·rw [if_pos c3] at H
    have c3b0 : decide (x5_1 < (x0_1.length : Int)) = true := decide_eq_true c3
    clear c3
    by_cases c4 : 0 ≤ x5_1
    ·rw [if_pos c4] at H
     have c4b0 : decide (0 ≤ x5_1) = true := decide_eq_true c4
     clear c4
     obtain ⟨y1044, hy1044⟩ : ∃ y_ : List Int, y_ = (x0_1.set (x5_1 : Int).toNat x1_1) := ⟨_, rfl⟩
     replace H : (laws_markIntS.l0 k1 y1044 (wrap64 (x1_1 + 1)) (wrap64 (x5_1 + 1))) = some (r1, r2) := by first | (rw [hy1044]; with_reducible exact H) | (have H2_ := (Option.bind_some _ _).symm.trans H; rw [hy1044]; with_reducible exact H2_) | (have H2_ := (Option.bind_some _ _).symm.trans H; with_reducible exact H2_) | with_reducible exact H | (rw [hy1044]; exact H) | exact H
     have Ny1044 := Aside0.mk hy1044
     clear hy1044
     have H' := Aside0.mk H
     clear H
     obtain ⟨Ao6, co6, eo6⟩ := Kd.R_slice HO_0.out
     subst eo6
     have p5 : 0 ≤ (x5_1 : Int) := of_decide_eq_true as_
     have q5 : (x5_1 : Int) < ((x0_1.length : Int) : Int) := of_decide_eq_true as_
     obtain ⟨go5, co5, eo5, gb5, gl5, cl5, HG5⟩ := Kd.R_form HO_0.out (by omega)
     (first | cases eo5 | (injection eo5 with ea_ en_ ec_; (first | subst ea_ | (injection ea_ with ea_; subst ea_)); subst ec_; clear en_))
     have GB5 := Aside0.mk gb5
     have GG5 := Aside0.mk HG5
     clear gb5 gl5 HG5
     have HMgo5 := Aside0.mk (show (P0_ go5 ∨ w.heap.size ≤ go5) from (HO_0.out.1 _ rfl))
     obtain ⟨hx5_0, hf5_0⟩ := Kd.R_celln 0 HO_0.out (x5_1 : Int) p5 q5
     replace p5 := eq_true p5
     replace q5 := eq_true q5
     have HP7 := Kd.R_putg HO_0.out (x5_1 : Int) x1_1
     go_wp2_with (first | ((with_reducible refine gate_store (t := 3) (p := 15) rfl ?_); refine store_event (t := 3) (p := 15) (v := ?vo_w8) (w1 := (wr.setCell ⟨go5, (x5_1 : Int).toNat, none⟩ (.int .i64 x1_1))) ?hg ?ho ?hn ?hr ?_; (case ho => rfl); (case hg => rfl); (case hn => rfl); (case hr => first | (go_simp; done) | (go_simp; rfl)); intro w8 hw; have hg : wr.grownBy w8 (some go5) := (by rw [hw]; exact HP7.2); have hp_ : Kd.R (Kd.int .i64) 3 w8 w0.heap.size (fun k_ => (P0_ k_ ∨ w.heap.size ≤ k_)) (.slice (some ⟨go5, 0, none⟩) x0_1.length co6) y1044 := (by rw [hw, Ny1044.out]; exact HP7.1); clear HP7; have n0_ := Aside0.mk (hp_); have n1_ := Aside0.mk ((by rw [hw]; exact below_set (HB.out) GB5.out : Below w0.heap.size w0 w8)); have n2_ := Aside0.mk (Kept.of_grown (S := (fun k_ => P0_ k_)) hg (by repeat (first | (with_reducible first | exact HK.out | apply Kept.alloc | apply Kept.drewN | apply Kept.drew) | exact HK.out)) (fun k_ e_ => (HO_0.out.1 k_ e_))); clear HO_0; clear HB; clear HK; have HO_0 := n0_; have HB := n1_; have HK := n2_; clear n0_ n1_ n2_; clear hg hw hp_))
     go_roundg k1
     case measure => have := HK1.out; omega
     case rel => exact ⟨(y1044), (wrap64 (x1_1 + 1)), (wrap64 (x5_1 + 1)), (by first | rfl | (simp; done) | (simp [*]; done)), (by first | rfl | (simp; done) | (simp [*]; done)), H', ⟨by have := HK1.out; omega⟩, ⟨ra_ HO_0.out⟩, ⟨by repeat (first | (with_reducible first | exact HK.out | apply Kept.alloc | apply Kept.drewN | apply Kept.drew) | exact HK.out)⟩, ⟨bl_⟩⟩
    ·rw [if_neg c4] at H
     exact absurd H (by simp)
   ·rw [if_neg c3] at H
    have c3b0 : decide (x5_1 < (x0_1.length : Int)) = false := decide_eq_false c3
    clear c3
    simp only [Option.some.injEq, Prod.mk.injEq] at H
    obtain ⟨rfl, rfl⟩ := H
    obtain ⟨Ao9, co9, eo9⟩ := Kd.R_slice HO_0.out
    subst eo9
    go_wp2
    go_ret
    exact ⟨by first | rfl | (simp [errW_none, errW_some] <;> rfl) | (simp [*, errW_none, errW_some] <;> rfl) | exact False.elim (Bool.noConfusion ((decide_eq_true (of_eq_true (by assumption))).symm.trans (by assumption))), ra_ HO_0.out, bl_, by repeat (first | (with_reducible first | exact HK.out | apply Kept.alloc | apply Kept.drewN | apply Kept.drew) | exact HK.out)⟩


/-! ### laws_heldIntS: function 48 -/
def laws_heldIntS.l0 : Nat → List Int → Int → Int → Option (Int)
 | 0, _, _, _ => none
 | k + 1, x0, x1, x5 => if x5 < (x0.length : Int) then (if 0 ≤ x5 then (if (rd x0 x5) = x1 then (laws_heldIntS.l0 k x0 (wrap64 (x1 + 1)) (wrap64 (x5 + 1))) else (some (-1))) else (none)) else (some x1)
def laws_heldIntS.f (k : Nat) (l0 : List Int) (a1 : Int) : Option (Int) := laws_heldIntS.l0 k l0 a1 0
theorem laws_heldIntS.mono_l : ∀ k, (∀ y0 y1 y2, LeO (laws_heldIntS.l0 k y0 y1 y2) (laws_heldIntS.l0 (k + 1) y0 y1 y2))
 | 0 => fun _ _ _ r h => by simp [laws_heldIntS.l0] at h
 | k + 1 => by
  have ih0 := laws_heldIntS.mono_l k
  ·intro y0 y1 y2
   unfold laws_heldIntS.l0
   repeat' first
   | (with_reducible exact ih0 _ _ _)
   | (with_reducible exact LeO.refl _)
   | (with_reducible exact LeO.none _)
   | (with_reducible refine LeO.ite ?_ ?_)
   | (with_reducible refine LeO.bind ?_ (fun _ => ?_))
   | exact ih0 _ _ _
   | exact LeO.none _
   | refine LeO.ite ?_ ?_
   | refine LeO.bind ?_ (fun _ => ?_)
theorem laws_heldIntS.mono : ∀ a0 a1 k, LeO (laws_heldIntS.f k a0 a1) (laws_heldIntS.f (k + 1) a0 a1) := by
 intro a0 a1 k
 have ih0 := laws_heldIntS.mono_l k
 unfold laws_heldIntS.f
 repeat' first
  | (with_reducible exact ih0 _ _ _)
  | (with_reducible exact LeO.refl _)
  | (with_reducible exact LeO.none _)
  | (with_reducible refine LeO.ite ?_ ?_)
  | (with_reducible refine LeO.bind ?_ (fun _ => ?_))
  | exact ih0 _ _ _
  | exact LeO.none _
  | refine LeO.ite ?_ ?_
  | refine LeO.bind ?_ (fun _ => ?_)
set_option maxHeartbeats 8000000 in
set_option maxRecDepth 100000 in
theorem laws_heldIntS.calls (k : Nat) (A0 : Option Addr) (c0 : Nat) (l0 : List Int) (a1 : Int) (r : Int) (w : World) (hr0 : Kd.C (Kd.int .i64) w A0 l0.length l0) (hc0 : l0.length ≤ c0) (h : laws_heldIntS.f k l0 a1 = some r) :
 Calls Try.prog 48 #[.slice A0 l0.length c0, .int .i64 a1] w fun e w' => e = .returned (.int .i64 r) ∧ Drawn0 w w' := by
 have HR0 := Aside0.mk hr0
 have HC0 := Aside0.mk hc0
 clear hr0 hc0
 have H : (laws_heldIntS.l0 k l0 a1 0) = some r := h
 clear h
 have H' := Aside0.mk H
 clear H
 go_enter Try.func48, Try.ntmps48
 go_wp2
 go_loopg [1, 5] k (fun kq v1 v5 w' => ∃ (x1_1 : Int) (x5_1 : Int), v1 = .int .i64 x1_1 ∧ v5 = .int .i64 x5_1 ∧ Aside0 (laws_heldIntS.l0 kq l0 x1_1 x5_1 = some r) ∧ Aside0 (kq ≤ k) ∧ Drawn0 w w')
 case atStart => exact ⟨(a1), (0), (by first | rfl | (simp; done) | (simp [*]; done)), (by first | rfl | (simp; done) | (simp [*]; done)), H', ⟨Nat.le_refl _⟩, by repeat (first | exact Drawn0.refl _ | apply Drawn0.step)⟩
 case round =>
  clear H'
  try clear p2
  obtain ⟨x1_1, x5_1, rfl, rfl, HA, HK1, ⟨m1, rfl⟩⟩ := hrel
  cases gk with
  | zero => exact absurd HA.out (by simp [laws_heldIntS.l0])
  | succ k1 =>
   have H := HA.out
   clear HA
   simp only [laws_heldIntS.l0] at H
   by_cases c3 : x5_1 < (l0.length : Int)
   ·rw [if_pos c3] at H
    have c3b0 : decide (x5_1 < (l0.length : Int)) = true := decide_eq_true c3
    clear c3
    by_cases c4 : 0 ≤ x5_1
    ·rw [if_pos c4] at H
     have c4b0 : decide (0 ≤ x5_1) = true := decide_eq_true c4
     clear c4
     by_cases c5 : (rd l0 x5_1) = x1_1
     ·rw [if_pos c5] at H
      have c5b0 : ((rd l0 x5_1) == x1_1) = true := beq_iff_eq.mpr c5
      have c5b1 : ((rd l0 x5_1) != x1_1) = false := bne_eq_false_iff_eq.mpr c5
      clear c5
      have H' := Aside0.mk H
      clear H
      have p1045 : 0 ≤ (x5_1 : Int) := of_decide_eq_true as_
      have q1045 : x5_1 < (l0.length : Int) := of_decide_eq_true as_
      obtain ⟨ad1045, e1045, hx1045_0⟩ := Kd.at_int HR0.out x5_1 p1045 q1045
      cases e1045
      replace p1045 := eq_true p1045
      replace q1045 := eq_true q1045
      go_wp2
      go_roundg k1
      case measure => have := HK1.out; omega
      case rel => exact ⟨(wrap64 (x1_1 + 1)), (wrap64 (x5_1 + 1)), (by first | rfl | (simp; done) | (simp [*]; done)), (by first | rfl | (simp; done) | (simp [*]; done)), H', ⟨by have := HK1.out; omega⟩, by repeat (first | exact Drawn0.refl _ | apply Drawn0.step)⟩
     ·rw [if_neg c5] at H
      have c5b0 : ((rd l0 x5_1) == x1_1) = false := beq_eq_false_iff_ne.mpr c5
      have c5b1 : ((rd l0 x5_1) != x1_1) = true := bne_iff_ne.mpr c5
      obtain rfl := Option.some.inj H
      have p1045 : 0 ≤ (x5_1 : Int) := of_decide_eq_true as_
      have q1045 : x5_1 < (l0.length : Int) := of_decide_eq_true as_
      obtain ⟨ad1045, e1045, hx1045_0⟩ := Kd.at_int HR0.out x5_1 p1045 q1045
      cases e1045
      replace p1045 := eq_true p1045
      replace q1045 := eq_true q1045
      go_wp2
      go_ret
      exact ⟨by first | rfl | (simp; done) | (simp [*]; done), by repeat (first | exact Drawn0.refl _ | apply Drawn0.step)⟩
    ·rw [if_neg c4] at H
     exact absurd H (by simp)
   ·rw [if_neg c3] at H
    have c3b0 : decide (x5_1 < (l0.length : Int)) = false := decide_eq_false c3
    clear c3
    obtain rfl := Option.some.inj H
    go_wp2
    go_ret
    exact ⟨by first | rfl | (simp; done) | (simp [*]; done), by repeat (first | exact Drawn0.refl _ | apply Drawn0.step)⟩


/-! ### laws_FnExactPidsIn: function 8 -/
def laws_FnExactPidsIn.j0 : Nat → List (S135) → List Int → List Int → Bool → Option (Bool)
 | 0, _, _, _, _ => none
 | k + 1, x0, x4, x6, x42 => if x42 = true then (some false) else ((laws_markIntS.f k x6 1).bind fun bt1067 => ((laws_heldIntS.f k bt1067.2 1).bind fun t1069 => (if t1069 < 0 then (some false) else (if t1069 = bt1067.1 then ((laws_toEntryS.f k x0).bind fun t1070 => ((impl_PidsIn.f k t1070).bind fun t1073 => ((laws_eqIntS.f k t1073 x4).bind fun t1076 => (if t1076 = true then ((laws_heldIntS.f k bt1067.2 1).bind fun t1077 => (if t1077 < 0 then (some false) else (if t1077 = bt1067.1 then (some true) else (some false)))) else (some false))))) else (some false)))))
def laws_FnExactPidsIn.f (k : Nat) (l0 : List (S135)) : Option (Bool) := (laws_szEntryS.f l0 1048576).bind fun t1046 => (if t1046 < 0 then (some true) else ((laws_toEntryS.f k l0).bind fun t1047 => ((spec_PidsIn.f k t1047).bind fun t1050 => ((laws_toEntryS.f k l0).bind fun t1053 => ((impl_PidsIn.f k t1053).bind fun t1056 => ((laws_eqIntS.f k t1056 t1050).bind fun t1059 => (if t1059 = true then ((laws_toEntryS.f k l0).bind fun t1060 => ((laws_eqEntryS.f k t1053 t1060).bind fun t1063 => (if t1063 = true then ((laws_markEntryS.f k t1053 1).bind fun bt1064 => (if bt1064.1 < 0 then (laws_FnExactPidsIn.j0 k l0 t1050 t1056 true) else ((laws_eqIntS.f k t1056 t1050).bind fun t1066 => (laws_FnExactPidsIn.j0 k l0 t1050 t1056 (!t1066))))) else (some false)))) else (some false))))))))
theorem laws_FnExactPidsIn.mono_l : ∀ k, (∀ y0 y1 y2 y3, LeO (laws_FnExactPidsIn.j0 k y0 y1 y2 y3) (laws_FnExactPidsIn.j0 (k + 1) y0 y1 y2 y3))
 | 0 => fun _ _ _ _ r h => by simp [laws_FnExactPidsIn.j0] at h
 | k + 1 => by
  have ih0 := laws_FnExactPidsIn.mono_l k
  ·intro y0 y1 y2 y3
   unfold laws_FnExactPidsIn.j0
   repeat' first
   | (with_reducible exact ih0 _ _ _ _)
   | (with_reducible exact impl_PidsIn.mono _ _)
   | (with_reducible exact laws_eqEntryS.mono _ _ _)
   | (with_reducible exact laws_eqIntS.mono _ _ _)
   | (with_reducible exact laws_heldIntS.mono _ _ _)
   | (with_reducible exact laws_markEntryS.mono _ _ _)
   | (with_reducible exact laws_markIntS.mono _ _ _)
   | (with_reducible exact laws_toEntryS.mono _ _)
   | (with_reducible exact spec_PidsIn.mono _ _)
   | (with_reducible exact LeO.refl _)
   | (with_reducible exact LeO.none _)
   | (with_reducible refine LeO.ite ?_ ?_)
   | (with_reducible refine LeO.bind ?_ (fun _ => ?_))
   | exact ih0 _ _ _ _
   | exact impl_PidsIn.mono _ _
   | exact laws_eqEntryS.mono _ _ _
   | exact laws_eqIntS.mono _ _ _
   | exact laws_heldIntS.mono _ _ _
   | exact laws_markEntryS.mono _ _ _
   | exact laws_markIntS.mono _ _ _
   | exact laws_toEntryS.mono _ _
   | exact spec_PidsIn.mono _ _
   | exact LeO.none _
   | refine LeO.ite ?_ ?_
   | refine LeO.bind ?_ (fun _ => ?_)
theorem laws_FnExactPidsIn.mono : ∀ a0 k, LeO (laws_FnExactPidsIn.f k a0) (laws_FnExactPidsIn.f (k + 1) a0) := by
 intro a0 k
 have ih0 := laws_FnExactPidsIn.mono_l k
 unfold laws_FnExactPidsIn.f
 repeat' first
  | (with_reducible exact ih0 _ _ _ _)
  | (with_reducible exact impl_PidsIn.mono _ _)
  | (with_reducible exact laws_eqEntryS.mono _ _ _)
  | (with_reducible exact laws_eqIntS.mono _ _ _)
  | (with_reducible exact laws_heldIntS.mono _ _ _)
  | (with_reducible exact laws_markEntryS.mono _ _ _)
  | (with_reducible exact laws_markIntS.mono _ _ _)
  | (with_reducible exact laws_toEntryS.mono _ _)
  | (with_reducible exact spec_PidsIn.mono _ _)
  | (with_reducible exact LeO.refl _)
  | (with_reducible exact LeO.none _)
  | (with_reducible refine LeO.ite ?_ ?_)
  | (with_reducible refine LeO.bind ?_ (fun _ => ?_))
  | exact ih0 _ _ _ _
  | exact impl_PidsIn.mono _ _
  | exact laws_eqEntryS.mono _ _ _
  | exact laws_eqIntS.mono _ _ _
  | exact laws_heldIntS.mono _ _ _
  | exact laws_markEntryS.mono _ _ _
  | exact laws_markIntS.mono _ _ _
  | exact laws_toEntryS.mono _ _
  | exact spec_PidsIn.mono _ _
  | exact LeO.none _
  | refine LeO.ite ?_ ?_
  | refine LeO.bind ?_ (fun _ => ?_)
set_option maxHeartbeats 8000000 in
set_option maxRecDepth 100000 in
theorem laws_FnExactPidsIn.calls (k : Nat) (A0 : Option Addr) (c0 : Nat) (l0 : List (S135)) (r : Bool) (w : World) (hr0 : Kd.C k135 w A0 l0.length l0) (hc0 : l0.length ≤ c0) (hr1 : r = true) (h : laws_FnExactPidsIn.f k l0 = some r) :
 Calls Try.prog 8 #[.slice A0 l0.length c0] w fun e w' => e = .returned (.bool r) ∧ Below w.heap.size w w' := by
 have HR0 := Aside0.mk hr0
 have HC0 := Aside0.mk hc0
 clear hr0 hc0
 have HR1 := Aside0.mk hr1
 clear hr1
 have HB := Aside0.mk (Below.refl w.heap.size w)
 have H : ((laws_szEntryS.f l0 1048576).bind fun t1046 => (if t1046 < 0 then (some true) else ((laws_toEntryS.f k l0).bind fun t1047 => ((spec_PidsIn.f k t1047).bind fun t1050 => ((laws_toEntryS.f k l0).bind fun t1053 => ((impl_PidsIn.f k t1053).bind fun t1056 => ((laws_eqIntS.f k t1056 t1050).bind fun t1059 => (if t1059 = true then ((laws_toEntryS.f k l0).bind fun t1060 => ((laws_eqEntryS.f k t1053 t1060).bind fun t1063 => (if t1063 = true then ((laws_markEntryS.f k t1053 1).bind fun bt1064 => (if bt1064.1 < 0 then (laws_FnExactPidsIn.j0 k l0 t1050 t1056 true) else ((laws_eqIntS.f k t1056 t1050).bind fun t1066 => (laws_FnExactPidsIn.j0 k l0 t1050 t1056 (!t1066))))) else (some false)))) else (some false))))))))) = some r := h
 clear h
 replace H := Option.bind_eq_some_iff.mp H
 obtain ⟨t1046, A20, H⟩ := H
 try dsimp only at H
 have A2 := Aside0.mk A20
 clear A20
 by_cases c3 : t1046 < 0
 ·rw [if_pos c3] at H
  have c3b0 : decide (t1046 < 0) = true := decide_eq_true c3
  clear c3
  obtain rfl := Option.some.inj H
  go_enter Try.func8, Try.ntmps8
  go_wp2_with (first | ((with_reducible refine gate_callee (f := 38) rfl ?_); refine goesL_ (some 13) rfl rfl Try.func38 (by kernel_rfl) rfl #[.slice A0 l0.length c0, .int .i64 1048576] rfl lm_ ?_; (with_reducible refine (laws_szEntryS.calls _ _ l0 1048576 t1046 _ ?side1 ?side2 A2.out).mono ?_); (case side1 => repeat (first | exact HR0.out | (with_reducible refine Kd.C_alloc ?_ _) | (with_reducible refine Kd.C_drewN ?_ _) | (with_reducible refine Kd.C_drew ?_))); (case side2 => exact HC0.out); rintro e w' ⟨rfl, ⟨nd, rfl⟩⟩; refine ⟨_, rfl, ?_⟩))
  go_ret
  exact ⟨by first | rfl | (simp [errW_none, errW_some] <;> rfl) | (simp [*, errW_none, errW_some] <;> rfl) | exact False.elim (Bool.noConfusion ((decide_eq_true (of_eq_true (by assumption))).symm.trans (by assumption))), bl_⟩
 ·rw [if_neg c3] at H
  have c3b0 : decide (t1046 < 0) = false := decide_eq_false c3
  clear c3
  replace H := Option.bind_eq_some_iff.mp H
  obtain ⟨t1047, A40, H⟩ := H
  try dsimp only at H
  have A4 := Aside0.mk A40
  clear A40
  replace H := Option.bind_eq_some_iff.mp H
  obtain ⟨t1050, A50, H⟩ := H
  try dsimp only at H
  have A5 := Aside0.mk A50
  clear A50
  replace H := Option.bind_eq_some_iff.mp H
  obtain ⟨t1053, A60, H⟩ := H
  try dsimp only at H
  have A6 := Aside0.mk A60
  clear A60
  replace H := Option.bind_eq_some_iff.mp H
  obtain ⟨t1056, A70, H⟩ := H
  try dsimp only at H
  have A7 := Aside0.mk A70
  clear A70
  replace H := Option.bind_eq_some_iff.mp H
  obtain ⟨t1059, A80, H⟩ := H
  try dsimp only at H
  have A8 := Aside0.mk A80
  clear A80
  by_cases c9 : t1059 = true
  ·subst c9
   rw [if_pos rfl] at H
   replace H := Option.bind_eq_some_iff.mp H
   obtain ⟨t1060, A100, H⟩ := H
   try dsimp only at H
   have A10 := Aside0.mk A100
   clear A100
   replace H := Option.bind_eq_some_iff.mp H
   obtain ⟨t1063, A110, H⟩ := H
   try dsimp only at H
   have A11 := Aside0.mk A110
   clear A110
   by_cases c12 : t1063 = true
   ·subst c12
    rw [if_pos rfl] at H
    replace H := Option.bind_eq_some_iff.mp H
    obtain ⟨⟨t1064, t1065⟩, A130, H⟩ := H
    try dsimp only at H
    have A13 := Aside0.mk A130
    clear A130
    have HC14 := Aside0.mk H
    clear H
    go_enter Try.func8, Try.ntmps8
    go_upto_region 14 with (first | ((with_reducible refine gate_callee (f := 38) rfl ?_); refine goesL_ (some 13) rfl rfl Try.func38 (by kernel_rfl) rfl #[.slice A0 l0.length c0, .int .i64 1048576] rfl lm_ ?_; (with_reducible refine (laws_szEntryS.calls _ _ l0 1048576 t1046 _ ?side1 ?side2 A2.out).mono ?_); (case side1 => repeat (first | exact HR0.out | (with_reducible refine Kd.C_alloc ?_ _) | (with_reducible refine Kd.C_drewN ?_ _) | (with_reducible refine Kd.C_drew ?_))); (case side2 => exact HC0.out); rintro e w' ⟨rfl, ⟨nd, rfl⟩⟩; refine ⟨_, rfl, ?_⟩) | ((with_reducible refine gate_callee (f := 40) rfl ?_); refine goesL_ (some 17) rfl rfl Try.func40 (by kernel_rfl) rfl #[.slice A0 l0.length c0] rfl lm_ ?_; (with_reducible refine (laws_toEntryS.calls k _ _ l0 t1047 _ ?side1 ?side2 A4.out).mono ?_); (case side1 => repeat (first | exact HR0.out | (with_reducible refine Kd.C_alloc ?_ _) | (with_reducible refine Kd.C_drewN ?_ _) | (with_reducible refine Kd.C_drew ?_))); (case side2 => exact HC0.out); rintro e w15 ⟨v1048, rfl, ho0, hb⟩; refine ⟨_, rfl, ?_⟩; have n0_ := Aside0.mk (Kd.R_lower ho0 (below_size bl_)); have n1_ := Aside0.mk (below_step bl_ hb); clear HB; have HO1049 := n0_; have HB := n1_; clear n0_ n1_; (try clear hb); (try clear hb2); (try clear hk); (try clear hi); (try clear ho0); obtain ⟨Ao16, co16, eo16⟩ := Kd.R_slice HO1049.out; subst eo16) | ((with_reducible refine gate_callee (f := 43) rfl ?_); refine goesL_ (some 18) rfl rfl Try.func43 (by kernel_rfl) rfl #[.slice Ao16 t1047.length co16] rfl lm_ ?_; (with_reducible refine (spec_PidsIn.calls k _ _ t1047 t1050 _ ?side1 ?side2 A5.out).mono ?_); (case side1 => repeat (first | exact (Kd.R_reads' HO1049.out).2.2 | (with_reducible refine Kd.C_alloc ?_ _) | (with_reducible refine Kd.C_drewN ?_ _) | (with_reducible refine Kd.C_drew ?_))); (case side2 => exact (Kd.R_reads' HO1049.out).2.1); rintro e w17 ⟨v1051, rfl, ho0, hb⟩; refine ⟨_, rfl, ?_⟩; have n0_ := Aside0.mk (Kd.R_below (ra_ HO1049.out) hb); have n1_ := Aside0.mk (Kd.R_lower ho0 (below_size bl_)); have n2_ := Aside0.mk (below_step bl_ hb); clear HO1049; clear HB; have HO1049 := n0_; have HO1052 := n1_; have HB := n2_; clear n0_ n1_ n2_; (try clear hb); (try clear hb2); (try clear hk); (try clear hi); (try clear ho0)) | ((with_reducible refine gate_callee (f := 40) rfl ?_); refine goesL_ (some 20) rfl rfl Try.func40 (by kernel_rfl) rfl #[.slice A0 l0.length c0] rfl lm_ ?_; (with_reducible refine (laws_toEntryS.calls k _ _ l0 t1053 _ ?side1 ?side2 A6.out).mono ?_); (case side1 => repeat (first | exact (Kd.C_below HR0.out HB.out) | exact HR0.out | (with_reducible refine Kd.C_alloc ?_ _) | (with_reducible refine Kd.C_drewN ?_ _) | (with_reducible refine Kd.C_drew ?_))); (case side2 => exact HC0.out); rintro e w18 ⟨v1054, rfl, ho0, hb⟩; refine ⟨_, rfl, ?_⟩; have n0_ := Aside0.mk (Kd.R_elder' (ra_ HO1049.out) (Kd.R_base ho0) hb); have n1_ := Aside0.mk (Kd.R_below (ra_ HO1052.out) hb); have n2_ := Aside0.mk (Kd.R_lower (Kd.R_new' ho0 (Kd.R_lt (ra_ HO1049.out))) (below_size bl_)); have n3_ := Aside0.mk (below_step bl_ hb); clear HO1049; clear HO1052; clear HB; have HO1049 := n0_; have HO1052 := n1_; have HO1055 := n2_; have HB := n3_; clear n0_ n1_ n2_ n3_; (try clear hb); (try clear hb2); (try clear hk); (try clear hi); (try clear ho0); obtain ⟨Ao19, co19, eo19⟩ := Kd.R_slice HO1055.out; subst eo19) | ((with_reducible refine gate_callee (f := 44) rfl ?_); refine goesL_ (some 22) rfl rfl Try.func44 (by kernel_rfl) rfl #[.slice Ao19 t1053.length co19] rfl lm_ ?_; (with_reducible refine (impl_PidsIn.calls k _ _ t1053 t1056 _ ?side1 ?side2 A7.out).mono ?_); (case side1 => repeat (first | exact (Kd.R_reads' HO1055.out).2.2 | (with_reducible refine Kd.C_alloc ?_ _) | (with_reducible refine Kd.C_drewN ?_ _) | (with_reducible refine Kd.C_drew ?_))); (case side2 => exact (Kd.R_reads' HO1055.out).2.1); rintro e w20 ⟨v1057, rfl, ho0, hb⟩; refine ⟨_, rfl, ?_⟩; have n0_ := Aside0.mk (Kd.R_below (ra_ HO1049.out) hb); have n1_ := Aside0.mk (Kd.R_elder' (ra_ HO1052.out) (Kd.R_base ho0) hb); have n2_ := Aside0.mk (Kd.R_below (ra_ HO1055.out) hb); have n3_ := Aside0.mk (Kd.R_lower (Kd.R_new' ho0 (Kd.R_lt (ra_ HO1052.out))) (below_size bl_)); have n4_ := Aside0.mk (below_step bl_ hb); clear HO1049; clear HO1052; clear HO1055; clear HB; have HO1049 := n0_; have HO1052 := n1_; have HO1055 := n2_; have HO1058 := n3_; have HB := n4_; clear n0_ n1_ n2_ n3_ n4_; (try clear hb); (try clear hb2); (try clear hk); (try clear hi); (try clear ho0); obtain ⟨Ao21, co21, eo21⟩ := Kd.R_slice HO1058.out; subst eo21; obtain ⟨Ao22, co22, eo22⟩ := Kd.R_slice HO1052.out; subst eo22) | ((with_reducible refine gate_callee (f := 45) rfl ?_); refine goesL_ (some 25) rfl rfl Try.func45 (by kernel_rfl) rfl #[.slice Ao21 t1056.length co21, .slice Ao22 t1050.length co22] rfl lm_ ?_; (with_reducible refine (laws_eqIntS.calls k _ _ t1056 _ _ t1050 true _ ?side1 ?side2 ?side3 ?side4 A8.out).mono ?_); (case side1 => repeat (first | exact (Kd.R_reads' HO1058.out).2.2 | (with_reducible refine Kd.C_alloc ?_ _) | (with_reducible refine Kd.C_drewN ?_ _) | (with_reducible refine Kd.C_drew ?_))); (case side2 => exact (Kd.R_reads' HO1058.out).2.1); (case side3 => repeat (first | exact (Kd.R_reads' HO1052.out).2.2 | (with_reducible refine Kd.C_alloc ?_ _) | (with_reducible refine Kd.C_drewN ?_ _) | (with_reducible refine Kd.C_drew ?_))); (case side4 => exact (Kd.R_reads' HO1052.out).2.1); rintro e w' ⟨rfl, ⟨nd, rfl⟩⟩; refine ⟨_, rfl, ?_⟩) | ((with_reducible refine gate_callee (f := 40) rfl ?_); refine goesL_ (some 29) rfl rfl Try.func40 (by kernel_rfl) rfl #[.slice A0 l0.length c0] rfl lm_ ?_; (with_reducible refine (laws_toEntryS.calls k _ _ l0 t1060 _ ?side1 ?side2 A10.out).mono ?_); (case side1 => repeat (first | exact (Kd.C_below HR0.out bl_) | exact HR0.out | (with_reducible refine Kd.C_alloc ?_ _) | (with_reducible refine Kd.C_drewN ?_ _) | (with_reducible refine Kd.C_drew ?_))); (case side2 => exact HC0.out); rintro e w23 ⟨v1061, rfl, ho0, hb⟩; refine ⟨_, rfl, ?_⟩; have n0_ := Aside0.mk (Kd.R_elder' (ra_ HO1049.out) (Kd.R_base ho0) hb); have n1_ := Aside0.mk (Kd.R_below (ra_ HO1052.out) hb); have n2_ := Aside0.mk (Kd.R_elder' (ra_ HO1055.out) (Kd.R_base ho0) hb); have n3_ := Aside0.mk (Kd.R_below (ra_ HO1058.out) hb); have n4_ := Aside0.mk (Kd.R_lower (Kd.R_new' (Kd.R_new' ho0 (Kd.R_lt (ra_ HO1049.out))) (Kd.R_lt (ra_ HO1055.out))) (below_size bl_)); have n5_ := Aside0.mk (below_step bl_ hb); clear HO1049; clear HO1052; clear HO1055; clear HO1058; clear HB; have HO1049 := n0_; have HO1052 := n1_; have HO1055 := n2_; have HO1058 := n3_; have HO1062 := n4_; have HB := n5_; clear n0_ n1_ n2_ n3_ n4_ n5_; (try clear hb); (try clear hb2); (try clear hk); (try clear hi); (try clear ho0); obtain ⟨Ao24, co24, eo24⟩ := Kd.R_slice HO1062.out; subst eo24) | ((with_reducible refine gate_callee (f := 42) rfl ?_); refine goesL_ (some 30) rfl rfl Try.func42 (by kernel_rfl) rfl #[.slice Ao19 t1053.length co19, .slice Ao24 t1060.length co24] rfl lm_ ?_; (with_reducible refine (laws_eqEntryS.calls k _ _ t1053 _ _ t1060 true _ ?side1 ?side2 ?side3 ?side4 A11.out).mono ?_); (case side1 => repeat (first | exact (Kd.R_reads' HO1055.out).2.2 | (with_reducible refine Kd.C_alloc ?_ _) | (with_reducible refine Kd.C_drewN ?_ _) | (with_reducible refine Kd.C_drew ?_))); (case side2 => exact (Kd.R_reads' HO1055.out).2.1); (case side3 => repeat (first | exact (Kd.R_reads' HO1062.out).2.2 | (with_reducible refine Kd.C_alloc ?_ _) | (with_reducible refine Kd.C_drewN ?_ _) | (with_reducible refine Kd.C_drew ?_))); (case side4 => exact (Kd.R_reads' HO1062.out).2.1); rintro e w25 ⟨rfl, hb⟩; refine ⟨_, rfl, ?_⟩; have n0_ := Aside0.mk (Kd.R_below (ra_ HO1049.out) hb); have n1_ := Aside0.mk (Kd.R_below (ra_ HO1052.out) hb); have n2_ := Aside0.mk (Kd.R_below (ra_ HO1055.out) hb); have n3_ := Aside0.mk (Kd.R_below (ra_ HO1058.out) hb); have n4_ := Aside0.mk (Kd.R_below (ra_ HO1062.out) hb); have n5_ := Aside0.mk (below_step bl_ hb); clear HO1049; clear HO1052; clear HO1055; clear HO1058; clear HO1062; clear HB; have HO1049 := n0_; have HO1052 := n1_; have HO1055 := n2_; have HO1058 := n3_; have HO1062 := n4_; have HB := n5_; clear n0_ n1_ n2_ n3_ n4_ n5_; (try clear hb); (try clear hb2); (try clear hk); (try clear hi)) | ((with_reducible refine gate_callee (f := 46) rfl ?_); refine goesL_ (some 34) rfl rfl Try.func46 (by kernel_rfl) rfl #[.slice Ao19 t1053.length co19, .int .i64 1] rfl lm_ ?_; (with_reducible refine (laws_markEntryS.calls k (fun k_ => some k_ = (.slice Ao19 t1053.length co19 : Value).ownBlock) (.slice Ao19 t1053.length co19) t1053 1 t1064 t1065 w _ ?side1 ?side2 A13.out).mono ?_); (case side1 => repeat (first | (with_reducible first | exact HB.out | apply below_alloc | apply pw_below_drewN | apply below_drew1) | exact HB.out)); (case side2 => exact Kd.R_tight rfl HO1055.out); rintro e w26 ⟨rfl, hy0, hb, hkp⟩; refine ⟨_, rfl, ?_⟩; have n0_ := Aside0.mk (Kd.R_mono (ok' := fun k_ => some k_ ≠ (.slice Ao19 t1053.length co19 : Value).ownBlock ∧ some k_ ≠ (.slice Ao24 t1060.length co24 : Value).ownBlock) (Kd.R_keptB (HO1049.out) hkp (fun k_ hk_ hs_ => (hk_.1.2) hs_)) (fun k_ hk_ => ⟨hk_.1.1.2, hk_.1.2⟩)); have n1_ := Aside0.mk (Kd.R_mono (ok' := fun k_ => some k_ ≠ (.slice Ao21 t1056.length co21 : Value).ownBlock) (Kd.R_keptB ((Kd.R_apart' HO1052.out (Kd.R_typed HO1055.out) (by decide))) hkp (fun k_ hk_ hs_ => (hk_.2) hs_)) (fun k_ hk_ => hk_.1.1.2)); have n2_ := Aside0.mk (Kd.R_reok rfl hy0 (fun k_ e_ => HO1055.out.1 k_ e_)); have n3_ := Aside0.mk (Kd.R_mono (ok' := fun k_ => some k_ ≠ (.slice Ao22 t1050.length co22 : Value).ownBlock) (Kd.R_keptB ((Kd.R_apart' HO1058.out (Kd.R_typed HO1055.out) (by decide))) hkp (fun k_ hk_ hs_ => (hk_.2) hs_)) (fun k_ hk_ => hk_.1.1.2)); have n4_ := Aside0.mk (Kd.R_mono (ok' := fun k_ => some k_ ≠ (.slice Ao16 t1047.length co16 : Value).ownBlock ∧ some k_ ≠ (.slice Ao19 t1053.length co19 : Value).ownBlock) (Kd.R_keptB (HO1062.out) hkp (fun k_ hk_ hs_ => (hk_.2) hs_)) (fun k_ hk_ => ⟨hk_.1.1.2, hk_.1.2⟩)); have n5_ := Aside0.mk (hb); clear HO1049; clear HO1052; clear HO1055; clear HO1058; clear HO1062; clear HB; have HO1049 := n0_; have HO1052 := n1_; have HO1055 := n2_; have HO1058 := n3_; have HO1062 := n4_; have HB := n5_; clear n0_ n1_ n2_ n3_ n4_ n5_; (try clear hb); (try clear hkp); (try clear hy0)))
    (try simp only [Act.put, List.setIfInBounds_toArray, List.set_cons_zero, List.set_cons_succ])
    go_cut [42] (fun v42 wc => ∃ (kq : Nat) (x42_13 : Bool), v42 = .bool x42_13 ∧ Aside0 (laws_FnExactPidsIn.j0 kq l0 t1050 t1056 x42_13 = some r) ∧ Aside0 (kq ≤ k) ∧ Aside0 (Kd.R (Kd.int .i64) 3 wc w.heap.size (fun k_ => some k_ ≠ ((.slice Ao21 t1056.length co21) : Value).ownBlock) (.slice Ao22 t1050.length co22) t1050) ∧ Aside0 (Kd.R (Kd.int .i64) 3 wc w.heap.size (fun k_ => some k_ ≠ ((.slice Ao22 t1050.length co22) : Value).ownBlock) (.slice Ao21 t1056.length co21) t1056) ∧ Aside0 (Below w.heap.size w wc))
    case first =>
     have H := HC14.out
     clear HC14
     by_cases c27 : t1064 < 0
     ·rw [if_pos c27] at H
      have c27b0 : decide (t1064 < 0) = true := decide_eq_true c27
      clear c27
      (first | rw [c27b0] | (simp only [i64_w, i32_w]; rw [c27b0]) | skip)
      have H' := Aside0.mk H
      clear H
      go_wp2
      go_meet
      case rel => exact ⟨_, (true), (by first | rfl | (simp; done) | (simp [*]; done)), H', ⟨by first | omega | exact Nat.le_refl _⟩, ⟨ra_ HO1052.out⟩, ⟨ra_ HO1058.out⟩, ⟨bl_⟩⟩
     ·rw [if_neg c27] at H
      have c27b0 : decide (t1064 < 0) = false := decide_eq_false c27
      clear c27
      (first | rw [c27b0] | (simp only [i64_w, i32_w]; rw [c27b0]) | skip)
      replace H := Option.bind_eq_some_iff.mp H
      obtain ⟨t1066, A280, H⟩ := H
      try dsimp only at H
      have A28 := Aside0.mk A280
      clear A280
      have H' := Aside0.mk H
      clear H
      go_wp2_with (first | (go_at_call 45; (with_reducible refine (laws_eqIntS.calls k _ _ t1056 _ _ t1050 t1066 _ ?side1 ?side2 ?side3 ?side4 A28.out).mono ?_); (case side1 => repeat (first | exact (Kd.R_reads' HO1058.out).2.2 | (with_reducible refine Kd.C_alloc ?_ _) | (with_reducible refine Kd.C_drewN ?_ _) | (with_reducible refine Kd.C_drew ?_))); (case side2 => exact (Kd.R_reads' HO1058.out).2.1); (case side3 => repeat (first | exact (Kd.R_reads' HO1052.out).2.2 | (with_reducible refine Kd.C_alloc ?_ _) | (with_reducible refine Kd.C_drewN ?_ _) | (with_reducible refine Kd.C_drew ?_))); (case side4 => exact (Kd.R_reads' HO1052.out).2.1); rintro e w' ⟨rfl, ⟨nd, rfl⟩⟩))
      go_meet
      case rel => exact ⟨_, (!t1066), (by first | rfl | (simp; done) | (simp [*]; done)), H', ⟨by first | omega | exact Nat.le_refl _⟩, ⟨ra_ HO1052.out⟩, ⟨ra_ HO1058.out⟩, ⟨bl_⟩⟩
    case rest =>
     clear HC14
     try clear c1
     try clear c2
     try clear p2
     try clear c3
     try clear c3b0
     try clear c4
     try clear c8
     try clear c9
     try clear c12
     try clear c27
     try clear c27b0
     obtain ⟨kq, x42_13, rfl, HA, HJ13, HO_4, HO_6, HB⟩ := hcut
     cases kq with
     | zero => exact absurd HA.out (by simp [laws_FnExactPidsIn.j0])
     | succ kj13 =>
      have H := HA.out
      clear HA
      simp only [laws_FnExactPidsIn.j0] at H
      by_cases c29 : x42_13 = true
      ·subst c29
       rw [if_pos rfl] at H
       exact absurd ((Option.some.inj H).trans HR1.out) (by decide)
      ·replace c29 := Bool.eq_false_iff.mpr c29
       subst c29
       rw [if_neg (show ¬ (false = true) by decide)] at H
       replace H := Option.bind_eq_some_iff.mp H
       obtain ⟨⟨t1067, t1068⟩, A300, H⟩ := H
       try dsimp only at H
       have A30 := Aside0.mk A300
       clear A300
       replace H := Option.bind_eq_some_iff.mp H
       obtain ⟨t1069, A310, H⟩ := H
       try dsimp only at H
       have A31 := Aside0.mk A310
       clear A310
       by_cases c32 : t1069 < 0
       ·rw [if_pos c32] at H
        have c32b0 : decide (t1069 < 0) = true := decide_eq_true c32
        clear c32
        exact absurd ((Option.some.inj H).trans HR1.out) (by decide)
       ·rw [if_neg c32] at H
        have c32b0 : decide (t1069 < 0) = false := decide_eq_false c32
        clear c32
        by_cases c33 : t1069 = t1067
        ·rw [if_pos c33] at H
         have c33b0 : (t1069 == t1067) = true := beq_iff_eq.mpr c33
         have c33b1 : (t1069 != t1067) = false := bne_eq_false_iff_eq.mpr c33
         clear c33
         replace H := Option.bind_eq_some_iff.mp H
         obtain ⟨t1070, A340, H⟩ := H
         try dsimp only at H
         have A34 := Aside0.mk A340
         clear A340
         replace H := Option.bind_eq_some_iff.mp H
         obtain ⟨t1073, A350, H⟩ := H
         try dsimp only at H
         have A35 := Aside0.mk A350
         clear A350
         replace H := Option.bind_eq_some_iff.mp H
         obtain ⟨t1076, A360, H⟩ := H
         try dsimp only at H
         have A36 := Aside0.mk A360
         clear A360
         by_cases c37 : t1076 = true
         ·subst c37
          rw [if_pos rfl] at H
          replace H := Option.bind_eq_some_iff.mp H
          obtain ⟨t1077, A380, H⟩ := H
          try dsimp only at H
          have A38 := Aside0.mk A380
          clear A380
          by_cases c39 : t1077 < 0
          ·rw [if_pos c39] at H
           have c39b0 : decide (t1077 < 0) = true := decide_eq_true c39
           clear c39
           exact absurd ((Option.some.inj H).trans HR1.out) (by decide)
          ·rw [if_neg c39] at H
           have c39b0 : decide (t1077 < 0) = false := decide_eq_false c39
           clear c39
           by_cases c40 : t1077 = t1067
           ·rw [if_pos c40] at H
            have c40b0 : (t1077 == t1067) = true := beq_iff_eq.mpr c40
            have c40b1 : (t1077 != t1067) = false := bne_eq_false_iff_eq.mpr c40
            clear c40
            obtain rfl := Option.some.inj H
            go_wp2_with (first | ((with_reducible refine gate_callee (f := 47) rfl ?_); refine goesL_ (some 45) rfl rfl Try.func47 (by kernel_rfl) rfl #[.slice Ao21 t1056.length co21, .int .i64 1] rfl lm_ ?_; (with_reducible refine (laws_markIntS.calls kj13 (fun k_ => some k_ = (.slice Ao21 t1056.length co21 : Value).ownBlock) (.slice Ao21 t1056.length co21) t1056 1 t1067 t1068 w _ ?side1 ?side2 A30.out).mono ?_); (case side1 => repeat (first | (with_reducible first | exact HB.out | apply below_alloc | apply pw_below_drewN | apply below_drew1) | exact HB.out)); (case side2 => exact Kd.R_tight rfl HO_6.out); rintro e w41 ⟨rfl, hy0, hb, hkp⟩; refine ⟨_, rfl, ?_⟩; have n0_ := Aside0.mk (Kd.R_mono (ok' := fun k_ => some k_ ≠ (.slice Ao21 t1056.length co21 : Value).ownBlock) (Kd.R_keptB (HO_4.out) hkp (fun k_ hk_ hs_ => (hk_) hs_)) (fun k_ hk_ => hk_.1)); have n1_ := Aside0.mk (Kd.R_reok rfl hy0 (fun k_ e_ => HO_6.out.1 k_ e_)); have n2_ := Aside0.mk (hb); clear HO_4; clear HO_6; clear HB; have HO_4 := n0_; have HO_6 := n1_; have HB := n2_; clear n0_ n1_ n2_; (try clear hb); (try clear hkp); (try clear hy0)) | ((with_reducible refine gate_callee (f := 48) rfl ?_); refine goesL_ (some 48) rfl rfl Try.func48 (by kernel_rfl) rfl #[.slice Ao21 t1068.length co21, .int .i64 1] rfl (by (try simp only [List.map_toArray, List.map_cons, List.map_nil]); first | done | (rw [show t1068.length = t1056.length from (Kd.R_reads' HO_6.out).1.symm] <;> rfl) | rfl | (simp only [List.length_drop, List.length_take]; rfl)) ?_; (with_reducible refine (laws_heldIntS.calls kj13 _ _ t1068 1 t1069 _ ?side1 ?side2 A31.out).mono ?_); (case side1 => repeat (first | exact (Kd.R_reads' HO_6.out).2.2 | (with_reducible refine Kd.C_alloc ?_ _) | (with_reducible refine Kd.C_drewN ?_ _) | (with_reducible refine Kd.C_drew ?_))); (case side2 => rw [show t1068.length = t1056.length from (Kd.R_reads' HO_6.out).1.symm]; exact (Kd.R_reads' HO_6.out).2.1); rintro e w' ⟨rfl, ⟨nd, rfl⟩⟩; refine ⟨_, rfl, ?_⟩) | ((with_reducible refine gate_callee (f := 40) rfl ?_); refine goesL_ (some 55) rfl rfl Try.func40 (by kernel_rfl) rfl #[.slice A0 l0.length c0] rfl lm_ ?_; (with_reducible refine (laws_toEntryS.calls kj13 _ _ l0 t1070 _ ?side1 ?side2 A34.out).mono ?_); (case side1 => repeat (first | exact (Kd.C_below HR0.out bl_) | exact HR0.out | (with_reducible refine Kd.C_alloc ?_ _) | (with_reducible refine Kd.C_drewN ?_ _) | (with_reducible refine Kd.C_drew ?_))); (case side2 => exact HC0.out); rintro e w42 ⟨v1071, rfl, ho0, hb⟩; refine ⟨_, rfl, ?_⟩; have n0_ := Aside0.mk (Kd.R_below (ra_ HO_4.out) hb); have n1_ := Aside0.mk (Kd.R_below (ra_ HO_6.out) hb); have n2_ := Aside0.mk (Kd.R_lower ho0 (below_size bl_)); have n3_ := Aside0.mk (below_step bl_ hb); clear HO_4; clear HO_6; clear HB; have HO_4 := n0_; have HO_6 := n1_; have HO1072 := n2_; have HB := n3_; clear n0_ n1_ n2_ n3_; (try clear hb); (try clear hb2); (try clear hk); (try clear hi); (try clear ho0); obtain ⟨Ao43, co43, eo43⟩ := Kd.R_slice HO1072.out; subst eo43) | ((with_reducible refine gate_callee (f := 44) rfl ?_); refine goesL_ (some 56) rfl rfl Try.func44 (by kernel_rfl) rfl #[.slice Ao43 t1070.length co43] rfl lm_ ?_; (with_reducible refine (impl_PidsIn.calls kj13 _ _ t1070 t1073 _ ?side1 ?side2 A35.out).mono ?_); (case side1 => repeat (first | exact (Kd.R_reads' HO1072.out).2.2 | (with_reducible refine Kd.C_alloc ?_ _) | (with_reducible refine Kd.C_drewN ?_ _) | (with_reducible refine Kd.C_drew ?_))); (case side2 => exact (Kd.R_reads' HO1072.out).2.1); rintro e w44 ⟨v1074, rfl, ho0, hb⟩; refine ⟨_, rfl, ?_⟩; have n0_ := Aside0.mk (Kd.R_elder' (ra_ HO_4.out) (Kd.R_base ho0) hb); have n1_ := Aside0.mk (Kd.R_elder' (ra_ HO_6.out) (Kd.R_base ho0) hb); have n2_ := Aside0.mk (Kd.R_below (ra_ HO1072.out) hb); have n3_ := Aside0.mk (Kd.R_lower (Kd.R_new' (Kd.R_new' ho0 (Kd.R_lt (ra_ HO_4.out))) (Kd.R_lt (ra_ HO_6.out))) (below_size bl_)); have n4_ := Aside0.mk (below_step bl_ hb); clear HO_4; clear HO_6; clear HO1072; clear HB; have HO_4 := n0_; have HO_6 := n1_; have HO1072 := n2_; have HO1075 := n3_; have HB := n4_; clear n0_ n1_ n2_ n3_ n4_; (try clear hb); (try clear hb2); (try clear hk); (try clear hi); (try clear ho0); obtain ⟨Ao45, co45, eo45⟩ := Kd.R_slice HO1075.out; subst eo45) | ((with_reducible refine gate_callee (f := 45) rfl ?_); refine goesL_ (some 59) rfl rfl Try.func45 (by kernel_rfl) rfl #[.slice Ao45 t1073.length co45, .slice Ao22 t1050.length co22] rfl lm_ ?_; (with_reducible refine (laws_eqIntS.calls kj13 _ _ t1073 _ _ t1050 true _ ?side1 ?side2 ?side3 ?side4 A36.out).mono ?_); (case side1 => repeat (first | exact (Kd.R_reads' HO1075.out).2.2 | (with_reducible refine Kd.C_alloc ?_ _) | (with_reducible refine Kd.C_drewN ?_ _) | (with_reducible refine Kd.C_drew ?_))); (case side2 => exact (Kd.R_reads' HO1075.out).2.1); (case side3 => repeat (first | exact (Kd.R_reads' HO_4.out).2.2 | (with_reducible refine Kd.C_alloc ?_ _) | (with_reducible refine Kd.C_drewN ?_ _) | (with_reducible refine Kd.C_drew ?_))); (case side4 => exact (Kd.R_reads' HO_4.out).2.1); rintro e w' ⟨rfl, ⟨nd, rfl⟩⟩; refine ⟨_, rfl, ?_⟩) | ((with_reducible refine gate_callee (f := 48) rfl ?_); refine goesL_ (some 63) rfl rfl Try.func48 (by kernel_rfl) rfl #[.slice Ao21 t1068.length co21, .int .i64 1] rfl (by (try simp only [List.map_toArray, List.map_cons, List.map_nil]); first | done | (rw [show t1068.length = t1056.length from (Kd.R_reads' HO_6.out).1.symm] <;> rfl) | rfl | (simp only [List.length_drop, List.length_take]; rfl)) ?_; (with_reducible refine (laws_heldIntS.calls kj13 _ _ t1068 1 t1077 _ ?side1 ?side2 A38.out).mono ?_); (case side1 => repeat (first | exact (Kd.R_reads' HO_6.out).2.2 | (with_reducible refine Kd.C_alloc ?_ _) | (with_reducible refine Kd.C_drewN ?_ _) | (with_reducible refine Kd.C_drew ?_))); (case side2 => rw [show t1068.length = t1056.length from (Kd.R_reads' HO_6.out).1.symm]; exact (Kd.R_reads' HO_6.out).2.1); rintro e w' ⟨rfl, ⟨nd, rfl⟩⟩; refine ⟨_, rfl, ?_⟩))
            go_ret
            exact ⟨by first | rfl | (simp [errW_none, errW_some] <;> rfl) | (simp [*, errW_none, errW_some] <;> rfl) | exact False.elim (Bool.noConfusion ((decide_eq_true (of_eq_true (by assumption))).symm.trans (by assumption))), bl_⟩
           ·rw [if_neg c40] at H
            have c40b0 : (t1077 == t1067) = false := beq_eq_false_iff_ne.mpr c40
            have c40b1 : (t1077 != t1067) = true := bne_iff_ne.mpr c40
            exact absurd ((Option.some.inj H).trans HR1.out) (by decide)
         ·replace c37 := Bool.eq_false_iff.mpr c37
          subst c37
          rw [if_neg (show ¬ (false = true) by decide)] at H
          exact absurd ((Option.some.inj H).trans HR1.out) (by decide)
        ·rw [if_neg c33] at H
         have c33b0 : (t1069 == t1067) = false := beq_eq_false_iff_ne.mpr c33
         have c33b1 : (t1069 != t1067) = true := bne_iff_ne.mpr c33
         exact absurd ((Option.some.inj H).trans HR1.out) (by decide)
   ·replace c12 := Bool.eq_false_iff.mpr c12
    subst c12
    rw [if_neg (show ¬ (false = true) by decide)] at H
    exact absurd ((Option.some.inj H).trans HR1.out) (by decide)
  ·replace c9 := Bool.eq_false_iff.mpr c9
   subst c9
   rw [if_neg (show ¬ (false = true) by decide)] at H
   exact absurd ((Option.some.inj H).trans HR1.out) (by decide)

end Go.Proofs.Ytmjlhikflhbdaaa.PA

namespace Go.Proofs.Ytmjlhikflhbdaaa.Op
open Go.RowKit Go.Proofs.YtmjlhikflhbdaaaW.PrintWords
set_option linter.unusedVariables false
set_option linter.unusedSimpArgs false

/-- A whole number is one of its kind. -/
abbrev OkInt (k : IntKind) (n : Int) : Prop := (Lit.int k n).wf = true

/-- A value of type t, read as data, is one of the kind d, with G. -/
structure Opens (P : Program) {α : Type} (d : Kd α) (t : TypeId) (G : α → Prop) : Prop where
 sz : d.sz = P.cellsOf t
 op : ∀ {H : Type} {enc : TypeId × Value → H} {w : World} {n : Nat} {cs : List Value} {x : DataW H × List MemPlace},
  DataW.trod enc P w 0 (fun _ => true) true n t cs = some x → ∃ a, d.K w a cs ∧ G a

theorem opInt {P : Program} {t : TypeId} {k : IntKind} (hu : P.underlying t = some (.int k)) (hc : P.cellsOf t = 1) : Opens P (Kd.int k) t (fun n => (Lit.int k n).wf = true) where
 sz := by rw [hc]; rfl
 op := fun h => by
  obtain ⟨n, rfl, _, hw⟩ := DataW.trod_int hu h
  exact ⟨n, rfl, hw⟩

theorem opBool {P : Program} {t : TypeId} (hu : P.underlying t = some .bool) (hc : P.cellsOf t = 1) : Opens P Kd.bool t (fun _ => True) where
 sz := by rw [hc]; rfl
 op := fun h => by
  obtain ⟨n, rfl, _⟩ := DataW.trod_bool hu h
  exact ⟨n, rfl, trivial⟩

theorem opStr {P : Program} {t : TypeId} (hu : P.underlying t = some .string) (hc : P.cellsOf t = 1) : Opens P Kd.string t (fun s => s.size ≤ 9223372036854775807) where
 sz := by rw [hc]; rfl
 op := fun h => by
  obtain ⟨s, rfl, _, hs⟩ := DataW.trod_string hu h
  exact ⟨s, rfl, hs⟩

theorem chooseList {α : Type} {Q : Nat → α → Prop} : ∀ (n : Nat), (∀ i, i < n → ∃ a, Q i a) → ∃ xs : List α, xs.length = n ∧ ∀ i a, xs[i]? = some a → Q i a
 | 0, _ => ⟨[], rfl, fun i a h => by simp at h⟩
 | n + 1, h => by
  obtain ⟨xs, hl, hx⟩ := chooseList n (fun i hi => h i (by omega))
  obtain ⟨a, ha⟩ := h n (by omega)
  refine ⟨xs ++ [a], by simp [hl], fun i b hb => ?_⟩
  by_cases hi : i < n
  ·rw [List.getElem?_append_left (by omega)] at hb
   exact hx i b hb
  ·rw [List.getElem?_append_right (by omega), hl] at hb
   have : i - n = 0 := by
    rcases Nat.eq_zero_or_pos (i - n) with h0 | h0
    ·exact h0
    ·rw [List.getElem?_eq_none (by simp; omega)] at hb
     simp at hb
   rw [this] at hb
   have hin : i = n := by omega
   simp at hb
   rw [hin, ← hb]
   exact ha

theorem cellsAt {w : World} {a : Addr} {n : Nat} {cs : List Value} (h : w.cells? 0 a n = some cs) : cs.length = n ∧ ∀ i u, cs[i]? = some u → w.cell? (a.add i) = some u := by
 unfold World.cells? at h
 rw [if_pos (Nat.zero_le _)] at h
 have hl : cs.length = n := by simpa using mapM_some_length h
 refine ⟨hl, fun i u hu => ?_⟩
 have hi : i < n := by
  rcases Nat.lt_or_ge i n with h1 | h1
  ·exact h1
  ·rw [List.getElem?_eq_none (by omega)] at hu
   simp at hu
 have := mapM_some_get h i i (by simp [hi])
 rw [this, hu]

theorem opSlice {P : Program} {α : Type} {d : Kd α} {t e : TypeId} {G : α → Prop} (hu : P.underlying t = some (.slice e)) (hc : P.cellsOf t = 1) (E : Nat) (o : Opens P d e G) :
 Opens P (Kd.slice E d) t (fun l => (∀ a ∈ l, G a) ∧ l.length ≤ 9223372036854775807) where
 sz := by rw [hc]; rfl
 op := fun {H enc w n cs x} h => by
  rcases DataW.trod_slice hu h with ⟨rfl, _⟩ | ⟨a, len, cap, elems, rest, m, _, rfl, _, _, hl, hcap, hlen, hel, _⟩
  ·exact ⟨[], ⟨none, 0, rfl, Nat.le_refl _, rfl, by simp, fun h0 => by simp at h0⟩, fun a ha => by simp at ha, by simp⟩
  ·have hcap' : cap ≤ 9223372036854775807 := hcap
   have key : ∀ i, i < len → ∃ b, ∃ c, d.K w b c ∧ G b ∧ c.length = d.sz ∧ ∀ j u, c[j]? = some u → w.cell? ((a.add (i * d.sz)).add j) = some u := by
    intro i hi
    have h1 := hel i hi
    rw [List.getElem?_eq_getElem (by omega)] at h1
    obtain ⟨cs', h2, h3⟩ := Option.bind_eq_some_iff.1 h1
    obtain ⟨b, hK, hG⟩ := o.op h3
    obtain ⟨h4, h5⟩ := cellsAt h2
    rw [← o.sz] at h5
    exact ⟨b, cs', hK, hG, d.K_len hK, h5⟩
   obtain ⟨xs, hx, hall⟩ := chooseList len key
   refine ⟨xs, ⟨some a, cap, by rw [hx], by omega, rfl, by omega, fun _ => ⟨a, rfl, fun j p hp => ?_⟩⟩, fun b hb => ?_, by omega⟩
   ·obtain ⟨c, hK, _, hs, hcell⟩ := hall j p hp
    exact ⟨c, hs, hK, fun i u hiu => by rw [← Addr.add_add]; exact hcell i u hiu⟩
   ·obtain ⟨i, hi, rfl⟩ := List.getElem_of_mem hb
    obtain ⟨_, _, hG, _⟩ := hall i _ (List.getElem?_eq_getElem hi)
    exact hG

/-- A struct's fields from one on, one behind the other. -/
structure Fields (P : Program) (off : Nat) (fs : List Field) {α : Type} (d : Kd α) (G : α → Prop) : Prop where
 op : ∀ {H : Type} {enc : TypeId × Value → H} {w : World} {n : Nat} {cs : List Value}, cs.length = off + d.sz →
  (∀ f ∈ fs, ∃ y, DataW.trod enc P w 0 (fun _ => true) true n f.type ((cs.drop f.offset).take (P.cellsOf f.type)) = some y) → ∃ a, d.K w a (cs.drop off) ∧ G a

theorem fieldsOne {P : Program} {off : Nat} {f : Field} {α : Type} {d : Kd α} {G : α → Prop} (o : Opens P d f.type G) (hf : f.offset = off) : Fields P off [f] d G where
 op := fun {H enc w n cs} hl h => by
  obtain ⟨y, hy⟩ := h f (by simp)
  rw [hf, List.take_of_length_le (by rw [← o.sz]; simp; omega)] at hy
  exact o.op hy

theorem fieldsCons {P : Program} {off : Nat} {f : Field} {fs : List Field} {α β : Type} {d : Kd α} {d' : Kd β} {G : α → Prop} {G' : β → Prop} (o : Opens P d f.type G) (hf : f.offset = off) (r : Fields P (off + d.sz) fs d' G') :
 Fields P off (f :: fs) (Kd.pair d d') (fun x => G x.1 ∧ G' x.2) where
 op := fun {H enc w n cs} hl h => by
  have hl' : cs.length = off + (d.sz + d'.sz) := hl
  obtain ⟨y, hy⟩ := h f (by simp)
  rw [hf] at hy
  obtain ⟨a, ha, hg⟩ := o.op hy
  obtain ⟨b, hb, hg'⟩ := r.op (by omega) (fun g hg => h g (by simp [hg]))
  refine ⟨(a, b), ⟨_, _, ?_, ha, hb⟩, hg, hg'⟩
  rw [← o.sz, show cs.drop (off + d.sz) = (cs.drop off).drop d.sz from (List.drop_drop ..).symm]
  exact (List.take_append_drop _ _).symm

theorem opStruct {P : Program} {t : TypeId} {fs : Array Field} {α β : Type} {d : Kd α} {f : β → α} {G : α → Prop} {G' : β → Prop} (hu : P.underlying t = some (.struct fs)) (hc : P.cellsOf t = d.sz)
 (r : Fields P 0 fs.toList d G) (g : α → β) (hfg : ∀ a, f (g a) = a) (hG : ∀ a, G a → G' (g a)) : Opens P (Kd.iso d f) t G' where
 sz := by rw [hc]; rfl
 op := fun {H enc w n cs x} h => by
  obtain ⟨xs, m, rfl, _, hl, hxs, hall⟩ := DataW.trod_struct hu h
  obtain ⟨a, ha, hGa⟩ := r.op (w := w) (n := m) (cs := cs) (by omega) (fun f' hf' => by
   obtain ⟨i, hi, rfl⟩ := List.getElem_of_mem hf'
   have hi' : i < fs.size := by simpa using hi
   have h1 := hall i fs.toList[i] (by simp [hi'])
   rw [List.getElem?_eq_getElem (by omega)] at h1
   exact ⟨_, h1⟩)
  rw [List.drop_zero] at ha
  refine ⟨g a, ?_, hG a hGa⟩
  show d.K w (f (g a)) cs
  rw [hfg]
  exact ha
end Go.Proofs.Ytmjlhikflhbdaaa.Op

namespace Go.Proofs.Ytmjlhikflhbdaaa.PureFnExactPidsIn
open Go.RowKit Go.Proofs.Ytmjlhikflhbdaaa.PA
def ok133 (x : S133) : Prop := (Op.OkInt .i64 x.f0) ∧ (Op.OkInt .i64 x.f1) ∧ (Op.OkInt .i64 x.f2) ∧ (Op.OkInt .i64 x.f3)
def ok135 (x : S135) : Prop := (Op.OkInt .i64 x.f0) ∧ (Op.OkInt .i64 x.f1) ∧ (ok133 x.f2)
def Stated : Prop := ∀ (x0 : List S135), ((∀ e_ ∈ x0, ok135 e_) ∧ x0.length ≤ 9223372036854775807) → ∃ k, laws_FnExactPidsIn.f k x0 = some true
end Go.Proofs.Ytmjlhikflhbdaaa.PureFnExactPidsIn

namespace Go.Proofs.Ytmjlhikflhbdaaa.Kit
open Go.RowKit Go.Proofs.YtmjlhikflhbdaaaW.PrintWords Go.Proofs.YtmjlhikflhbdaaaW.PrintLast Go.Proofs.YtmjlhikflhbdaaaW.PrintMore
set_option linter.unusedVariables false
set_option linter.unusedSimpArgs false

theorem w64 {x : Int} (h0 : -9223372036854775808 ≤ x) (h1 : x ≤ 9223372036854775807) : wrap64 x = x := by unfold wrap64; omega

section
variable {α β : Type}
theorem evSucc {g : Nat → Option α} {r : α} (h : Ev (fun k => g (k + 1)) r) : Ev g r := Ev.step (fun _ => rfl) h
theorem evPos {c : Prop} [Decidable c] {g f : Nat → Option α} {r : α} (hc : c) (h : Ev g r) : Ev (fun k => if c then g k else f k) r := Ev.congr (fun k => if_pos hc) h
theorem evNeg {c : Prop} [Decidable c] {g f : Nat → Option α} {r : α} (hc : ¬ c) (h : Ev f r) : Ev (fun k => if c then g k else f k) r := Ev.congr (fun k => if_neg hc) h
theorem evIte {c : Prop} [Decidable c] {g f : Nat → Option α} {r s : α} (h : c → Ev g r) (h' : ¬ c → Ev f s) : Ev (fun k => if c then g k else f k) (if c then r else s) := by
 by_cases hc : c
 ·rw [if_pos hc]; exact evPos hc (h hc)
 ·rw [if_neg hc]; exact evNeg hc (h' hc)
theorem evSome (r : α) : Ev (fun _ => some r) r := Ev.now r
theorem evEq {g : Nat → Option α} {r s : α} (h : Ev g r) (e : r = s) : Ev g s := e ▸ h
/-- A value that needs no rounds. -/
theorem evBindS {x : Option α} {f : Nat → α → Option β} {a : α} {r : β} (h : x = some a) (k : Ev (fun n => f n a) r) : Ev (fun n => x.bind (f n)) r := by subst h; exact k
theorem evConst {x : Option α} {r : α} (h : x = some r) : Ev (fun _ => x) r := by subst h; exact Ev.now r
end

section
variable {α β : Type}
/-- A loop that counts up: from the last place back to the first. -/
theorem evUp {r : α} (n : Nat) (g : Nat → Nat → Option α) (step : ∀ i, i < n → Ev (g (i + 1)) r → Ev (g i) r) (last : Ev (g n) r) : Ev (g 0) r := by
 have key : ∀ d i, i + d = n → Ev (g i) r := by
  intro d
  induction d with
  | zero => intro i hi; rw [show i = n by omega]; exact last
  | succ d ih => intro i hi; exact step i (by omega) (ih (i + 1) (by omega))
 exact key n 0 (by omega)
theorem fillStep (f : α → β) (z : β) (l : List α) (i : Nat) (hi : i < l.length) :
 ((l.take i).map f ++ List.replicate (l.length - i) z).set i (f l[i]) = (l.take (i + 1)).map f ++ List.replicate (l.length - (i + 1)) z := by
 have h1 : ((l.take i).map f).length = i := by simp; omega
 rw [show l.length - i = (l.length - (i + 1)) + 1 by omega, List.replicate_succ, List.set_append_right _ _ (by omega), h1, Nat.sub_self, List.set_cons_zero,
  List.take_succ_eq_append_getElem hi, List.map_append, List.append_assoc]
 rfl
theorem takeSnoc (l : List α) (i : Nat) (hi : i < l.length) : l.take (i + 1) = l.take i ++ [l[i]] := List.take_succ_eq_append_getElem hi
theorem ci (i : Nat) : (i : Int) + 1 = ((i + 1 : Nat) : Int) := by omega
theorem sizeApp (a b : ByteArray) : (a ++ b).size = a.size + b.size := ByteArray.size_append
end

theorem okI64 {n : Int} (h : (Lit.int .i64 n).wf = true) : -9223372036854775808 ≤ n ∧ n ≤ 9223372036854775807 := by
 simp [Lit.wf, IntKind.min, IntKind.max, IntKind.signed, IntKind.bits] at h
 omega
end Go.Proofs.Ytmjlhikflhbdaaa.Kit

namespace Go.Proofs.Ytmjlhikflhbdaaa.Pure
open Go.RowKit Go.Proofs.Ytmjlhikflhbdaaa.PA Go.Proofs.YtmjlhikflhbdaaaW.PrintWords Go.Proofs.YtmjlhikflhbdaaaW.PrintLast Go.Proofs.YtmjlhikflhbdaaaW.PrintMore Go.Proofs.Ytmjlhikflhbdaaa.Kit Go.Proofs.Ytmjlhikflhbdaaa.PureFnExactPidsIn
set_option linter.unusedVariables false
set_option linter.unusedSimpArgs false
def cvEntry (x : S135) : S131 := ⟨x.f0, x.f1, ⟨x.f2.f0, x.f2.f1, x.f2.f2, x.f2.f3⟩⟩
theorem rdLE (l : List S135) (i : Nat) (hi : i < l.length) : rd_T135 l (i : Int) = l[i] := by simp [rd_T135, hi]
theorem rdE (l : List S131) (i : Nat) (hi : i < l.length) : rd_T131 l (i : Int) = l[i] := by simp [rd_T131, hi]
theorem ev_toEntryS (l : List S135) (hl : l.length ≤ 1048576) : Ev (fun k => laws_toEntryS.f k l) (l.map cvEntry) := by
 have key := evUp (r := l.map cvEntry) l.length (fun i k => laws_toEntryS.l0 k l ((l.take i).map cvEntry ++ List.replicate (l.length - i) z131) (i : Int)) ?_ ?_
 ·refine Ev.congr (fun k => ?_) key
  unfold laws_toEntryS.f
  rw [if_pos (by omega), if_pos (by omega)]
  simp
 ·intro i hi ih
  refine evSucc ?_
  simp only [laws_toEntryS.l0]
  refine evPos (by omega) (evPos (by omega) ?_)
  simp only [laws_toEntry.f, laws_toItem.f, Option.bind_some, rdLE l i hi]
  refine evPos (by simp; omega) ?_
  rw [w64 (by omega) (by omega), ci, Int.toNat_natCast]
  rw [show (⟨l[i].f0, l[i].f1, ⟨l[i].f2.f0, l[i].f2.f1, l[i].f2.f2, l[i].f2.f3⟩⟩ : S131) = cvEntry l[i] from rfl, fillStep cvEntry _ l i hi]
  exact ih
 ·refine evSucc ?_
  simp only [laws_toEntryS.l0]
  refine evNeg (by omega) ?_
  simp
  exact Ev.now _
theorem eqEntryRefl (a b c d e f : Int) : laws_eqEntry.f a b c d e f a b c d e f = some true := by simp [laws_eqEntry.f, laws_eqItem.f]
theorem ev_eqEntryS (l : List S131) (hl : l.length ≤ 1048576) : Ev (fun k => laws_eqEntryS.f k l l) true := by
 have key := evUp (r := true) l.length (fun i k => laws_eqEntryS.l0 k l l (i : Int)) ?_ ?_
 ·refine Ev.congr (fun k => ?_) key
  unfold laws_eqEntryS.f
  rw [if_pos rfl]
  rfl
 ·intro i hi ih
  refine evSucc ?_
  simp only [laws_eqEntryS.l0]
  refine evPos (by omega) (evPos (by omega) (evPos (by omega) ?_))
  simp only [eqEntryRefl, Option.bind_some, if_true]
  rw [w64 (by omega) (by omega), ci]
  exact ih
 ·refine evSucc ?_
  simp only [laws_eqEntryS.l0]
  exact evNeg (by omega) (Ev.now _)
theorem szEntryS_small (l : List S135) (h : l.length ≤ 1048576) : laws_szEntryS.f l 1048576 = some (1048576 - (l.length : Int)) := by
 unfold laws_szEntryS.f
 rw [w64 (by omega) (by omega), if_neg (by omega)]
theorem szEntryS_big (l : List S135) (h : 1048576 < l.length) (hb : l.length ≤ 9223372036854775807) : laws_szEntryS.f l 1048576 = some (-1) := by
 unfold laws_szEntryS.f
 rw [w64 (by omega) (by omega), if_pos (by omega)]
def StrictS (l : List Int) : Prop := l.Pairwise (· < ·)
theorem strict_eq : ∀ (a b : List Int), StrictS a → StrictS b → (∀ x, x ∈ a ↔ x ∈ b) → a = b := by
 intro a
 induction a with
 | nil =>
  intro b _ _ h
  cases b with
  | nil => rfl
  | cons y b => exact absurd ((h y).2 (List.mem_cons_self ..)) (List.not_mem_nil)
 | cons x a ih =>
  intro b ha hb h
  cases b with
  | nil => exact absurd ((h x).1 (List.mem_cons_self ..)) (List.not_mem_nil)
  | cons y b =>
   have ha' := List.pairwise_cons.1 ha
   have hb' := List.pairwise_cons.1 hb
   have hxy : x = y := by
    rcases List.mem_cons.1 ((h x).1 (List.mem_cons_self ..)) with e | e
    ·exact e
    ·rcases List.mem_cons.1 ((h y).2 (List.mem_cons_self ..)) with e2 | e2
     ·exact e2.symm
     ·have h1 := hb'.1 x e
      have h2 := ha'.1 y e2
      omega
   subst hxy
   rw [ih b ha'.2 hb'.2 (fun z => ?_)]
   constructor
   ·intro hz
    rcases List.mem_cons.1 ((h z).1 (List.mem_cons_of_mem _ hz)) with e | e
    ·have := ha'.1 z hz; omega
    ·exact e
   ·intro hz
    rcases List.mem_cons.1 ((h z).2 (List.mem_cons_of_mem _ hz)) with e | e
    ·have := hb'.1 z hz; omega
    ·exact e
def insS (x : Int) : List Int → List Int
 | [] => [x]
 | y :: l => if x < y then x :: y :: l else y :: insS x l
theorem insS_mem (x : Int) : ∀ l z, z ∈ insS x l ↔ z = x ∨ z ∈ l := by
 intro l
 induction l with
 | nil => intro z; simp [insS]
 | cons y l ih =>
  intro z
  unfold insS
  split
  ·rw [List.mem_cons]
  ·rw [List.mem_cons, ih z, List.mem_cons]
   constructor
   ·rintro (e | e | e)
    ·exact Or.inr (Or.inl e)
    ·exact Or.inl e
    ·exact Or.inr (Or.inr e)
   ·rintro (e | e | e)
    ·exact Or.inr (Or.inl e)
    ·exact Or.inl e
    ·exact Or.inr (Or.inr e)
theorem insS_strict (x : Int) : ∀ l, StrictS l → x ∉ l → StrictS (insS x l) := by
 intro l
 induction l with
 | nil => intro _ _; exact List.pairwise_singleton _ _
 | cons y l ih =>
  intro h hx
  have h' := List.pairwise_cons.1 h
  unfold insS
  split
  ·rename_i hlt
   refine List.pairwise_cons.2 ⟨fun z hz => ?_, h⟩
   rcases List.mem_cons.1 hz with e | e
   ·omega
   ·have := h'.1 z e; omega
  ·rename_i hlt
   refine List.pairwise_cons.2 ⟨fun z hz => ?_, ih h'.2 (fun e => hx (List.mem_cons_of_mem _ e))⟩
   rcases (insS_mem x l z).1 hz with e | e
   ·have : x ≠ y := fun e2 => hx (by rw [e2]; exact List.mem_cons_self ..)
    omega
   ·exact h'.1 z e
theorem insS_len (x : Int) : ∀ l, (insS x l).length = l.length + 1 := by
 intro l
 induction l with
 | nil => rfl
 | cons y l ih =>
  unfold insS
  split
  ·rfl
  ·rw [List.length_cons, ih, List.length_cons]
def putAll : List Int → List Int → List Int
 | [], acc => acc
 | x :: l, acc => putAll l (if x ∈ acc then acc else insS x acc)
theorem putAll_law : ∀ l acc, StrictS acc → StrictS (putAll l acc) ∧ ∀ z, z ∈ putAll l acc ↔ z ∈ acc ∨ z ∈ l := by
 intro l
 induction l with
 | nil => intro acc h; exact ⟨h, fun z => by simp [putAll]⟩
 | cons x l ih =>
  intro acc h
  unfold putAll
  by_cases hx : x ∈ acc
  ·rw [if_pos hx]
   obtain ⟨h1, h2⟩ := ih acc h
   refine ⟨h1, fun z => ?_⟩
   rw [h2 z, List.mem_cons]
   constructor
   ·rintro (e | e)
    ·exact Or.inl e
    ·exact Or.inr (Or.inr e)
   ·rintro (e | e | e)
    ·exact Or.inl e
    ·rw [e]; exact Or.inl hx
    ·exact Or.inr e
  ·rw [if_neg hx]
   obtain ⟨h1, h2⟩ := ih (insS x acc) (insS_strict x acc h hx)
   refine ⟨h1, fun z => ?_⟩
   rw [h2 z, insS_mem, List.mem_cons]
   constructor
   ·rintro ((e | e) | e)
    ·exact Or.inr (Or.inl e)
    ·exact Or.inl e
    ·exact Or.inr (Or.inr e)
   ·rintro (e | e | e)
    ·exact Or.inl (Or.inr e)
    ·exact Or.inl (Or.inl e)
    ·exact Or.inr e
theorem putAll_len : ∀ l acc, (putAll l acc).length ≤ acc.length + l.length := by
 intro l
 induction l with
 | nil => intro acc; exact Nat.le_refl _
 | cons x l ih =>
  intro acc
  unfold putAll
  split
  ·have := ih acc; rw [List.length_cons]; omega
  ·have := ih (insS x acc); rw [insS_len] at this; rw [List.length_cons]; omega
def srtS (l : List Int) : List Int := l.mergeSort fun x y => decide (x ≤ y)
theorem srtS_mem (l : List Int) (z : Int) : z ∈ srtS l ↔ z ∈ l := (List.mergeSort_perm l _).mem_iff
theorem srtS_sorted (l : List Int) : (srtS l).Pairwise (· ≤ ·) := by
 have := List.pairwise_mergeSort (le := fun x y : Int => decide (x ≤ y)) (fun a b c h1 h2 => by simp at *; omega) (fun a b => by simp; omega) l
 exact this.imp (fun h => by simpa using h)
theorem sorted_at (d : List Int) (h : d.Pairwise (· ≤ ·)) (i j : Nat) (hij : i ≤ j) (hj : j < d.length) : d.toArray[i]! ≤ d.toArray[j]! := by
 rcases Nat.lt_or_eq_of_le hij with hlt | rfl
 ·have := (List.pairwise_iff_getElem.1 h) i j (by omega) hj hlt
  simp [hj, show i < d.length by omega]
  exact this
 ·exact Int.le_refl _
theorem upTo_law (d : List Int) (h : d.Pairwise (· ≤ ·)) : ∀ m, m ≤ d.length → StrictS (Go.Lib.compactUpTo d.toArray m) ∧ (∀ z, z ∈ Go.Lib.compactUpTo d.toArray m ↔ ∃ j, j < m ∧ d.toArray[j]! = z) := by
 intro m
 induction m with
 | zero =>
  intro _
  refine ⟨List.Pairwise.nil, fun z => ?_⟩
  constructor
  ·intro hz; exact absurd hz (by simp [Go.Lib.compactUpTo])
  ·rintro ⟨j, hj, _⟩; omega
 | succ m ih =>
  intro hm
  obtain ⟨h1, h2⟩ := ih (by omega)
  rw [Go.Lib.compactUpTo_succ]
  by_cases hk : Go.Lib.keeps d.toArray m = true
  ·rw [if_pos hk]
   refine ⟨?_, fun z => ?_⟩
   ·refine List.pairwise_append.2 ⟨h1, List.pairwise_singleton _ _, fun x hx y hy => ?_⟩
    rw [List.mem_singleton] at hy
    subst hy
    obtain ⟨j, hj, rfl⟩ := (h2 x).1 hx
    have hne : d.toArray[m]! ≠ d.toArray[m - 1]! := by
     unfold Go.Lib.keeps at hk
     rw [decide_eq_true_eq] at hk
     rcases hk with e | e
     ·omega
     ·exact e
    have a1 := sorted_at d h j (m - 1) (by omega) (by omega)
    have a2 := sorted_at d h (m - 1) m (by omega) (by omega)
    omega
   ·rw [List.mem_append, h2 z, List.mem_singleton]
    constructor
    ·rintro (⟨j, hj, e⟩ | e)
     ·exact ⟨j, by omega, e⟩
     ·exact ⟨m, by omega, e.symm⟩
    ·rintro ⟨j, hj, e⟩
     by_cases hjm : j = m
     ·subst hjm; exact Or.inr e.symm
     ·exact Or.inl ⟨j, by omega, e⟩
  ·rw [if_neg hk, List.append_nil]
   refine ⟨h1, fun z => ?_⟩
   rw [h2 z]
   have hk' : ¬ (m = 0 ∨ d.toArray[m]! ≠ d.toArray[m - 1]!) := by
    intro c; apply hk; unfold Go.Lib.keeps; exact decide_eq_true c
   constructor
   ·rintro ⟨j, hj, e⟩; exact ⟨j, by omega, e⟩
   ·rintro ⟨j, hj, e⟩
    by_cases hjm : j = m
    ·subst hjm
     refine ⟨j - 1, by omega, ?_⟩
     rw [← e]
     apply Classical.byContradiction
     intro hn
     exact hk' (Or.inr (fun z => hn z.symm))
    ·exact ⟨j, by omega, e⟩
theorem compact_putAll (l : List Int) : Go.Lib.compact (srtS l) = putAll l [] := by
 obtain ⟨h1, h2⟩ := upTo_law (srtS l) (srtS_sorted l) (srtS l).length (Nat.le_refl _)
 obtain ⟨h3, h4⟩ := putAll_law l [] List.Pairwise.nil
 refine strict_eq _ _ h1 h3 (fun z => ?_)
 rw [h4 z]
 show z ∈ Go.Lib.compactUpTo (srtS l).toArray (srtS l).length ↔ _
 rw [h2 z]
 constructor
 ·rintro ⟨j, hj, e⟩
  refine Or.inr ((srtS_mem l z).1 ?_)
  rw [← e]
  simp [hj]
 ·rintro (e | e)
  ·cases e
  ·obtain ⟨j, hj, e2⟩ := List.getElem_of_mem ((srtS_mem l z).2 e)
   exact ⟨j, hj, by simp [hj]; exact e2⟩
theorem rdI (l : List Int) (i : Nat) (hi : i < l.length) : rd l (i : Int) = l[i] := by simp [rd, hi]
theorem ev_l09In (l : List Int) (x : Int) (hl : l.length ≤ 4194304) : Ev (fun k => spec_l09In.f k l x) (decide (x ∈ l)) := by
 have key : ∀ d i, i + d = l.length → Ev (fun k => spec_l09In.l0 k l x (i : Int)) (decide (x ∈ l.drop i)) := by
  intro d
  induction d with
  | zero =>
   intro i hi
   refine evSucc ?_
   simp only [spec_l09In.l0]
   rw [List.drop_of_length_le (by omega)]
   exact evNeg (by omega) (evEq (Ev.now _) (by simp))
  | succ d ih =>
   intro i hi
   have hlt : i < l.length := by omega
   refine evSucc ?_
   simp only [spec_l09In.l0]
   refine evPos (by omega) (evPos (by omega) ?_)
   rw [rdI l i hlt, w64 (by omega) (by omega), ci, List.drop_eq_getElem_cons hlt]
   by_cases hc : l[i] = x
   ·exact evPos hc (evEq (Ev.now _) (by rw [hc]; simp))
   ·refine evNeg hc (evEq (ih (i + 1) (by omega)) ?_)
    rw [Bool.eq_iff_iff, decide_eq_true_eq, decide_eq_true_eq, List.mem_cons]
    exact ⟨fun h => Or.inr h, fun h => h.elim (fun e => absurd e.symm hc) id⟩
 exact key l.length 0 (by omega)
theorem ev_l23Put (l : List Int) (x : Int) (hl : l.length ≤ 4194304) : Ev (fun k => spec_l23Put.f k l x) (insS x l) := by
 have put : ∀ d i out, i + d = l.length → out.length ≤ i + 1 → Ev (fun k => spec_l23Put.l0 k l x out true (i : Int)) (out ++ l.drop i) := by
  intro d
  induction d with
  | zero =>
   intro i out hi ho
   refine evSucc ?_
   simp only [spec_l23Put.l0]
   rw [List.drop_of_length_le (by omega), List.append_nil]
   exact evNeg (by omega) (evPos trivial (Ev.now _))
  | succ d ih =>
   intro i out hi ho
   have hlt : i < l.length := by omega
   refine evSucc ?_
   simp only [spec_l23Put.l0]
   refine evPos (by omega) (evPos trivial (evPos (by omega) (evPos (by omega) ?_)))
   rw [rdI l i hlt, w64 (by omega) (by omega), ci]
   refine evEq (ih (i + 1) (out ++ [l[i]]) (by omega) (by rw [List.length_append, List.length_singleton]; omega)) ?_
   rw [List.drop_eq_getElem_cons hlt, List.append_assoc]
   rfl
 have key : ∀ d i out, i + d = l.length → out.length ≤ i → Ev (fun k => spec_l23Put.l0 k l x out false (i : Int)) (out ++ insS x (l.drop i)) := by
  intro d
  induction d with
  | zero =>
   intro i out hi ho
   refine evSucc ?_
   simp only [spec_l23Put.l0]
   rw [List.drop_of_length_le (by omega)]
   exact evNeg (by omega) (evNeg (by simp) (evPos (by omega) (Ev.now _)))
  | succ d ih =>
   intro i out hi ho
   have hlt : i < l.length := by omega
   refine evSucc ?_
   simp only [spec_l23Put.l0]
   refine evPos (by omega) (evNeg (by simp) (evPos (by omega) ?_))
   rw [rdI l i hlt, w64 (by omega) (by omega), ci, List.drop_eq_getElem_cons hlt]
   unfold insS
   by_cases hc : x < l[i]
   ·rw [if_pos hc]
    refine evPos hc (evPos (by omega) ?_)
    simp only [Option.bind_some]
    refine evPos (by rw [List.length_append, List.length_singleton]; omega) ?_
    refine evEq (put d (i + 1) ((out ++ [x]) ++ [l[i]]) (by omega) (by rw [List.length_append, List.length_append, List.length_singleton, List.length_singleton]; omega)) ?_
    rw [List.append_assoc, List.append_assoc]
    rfl
   ·rw [if_neg hc]
    refine evNeg hc (evPos (by omega) ?_)
    refine evEq (ih (i + 1) (out ++ [l[i]]) (by omega) (by rw [List.length_append, List.length_singleton]; omega)) ?_
    rw [List.append_assoc]
    rfl
 exact key l.length 0 [] (by omega) (Nat.le_refl _)
def pidE (e : S131) : Int := e.f0
theorem sort_f (l : List Int) (h : l.length ≤ 4194304) : slices_Sort_int_int.f l = some (srtS l) := if_pos (by omega)
theorem ev_spec_PidsIn (L : List S131) (hL : L.length ≤ 1048576) : Ev (fun k => spec_PidsIn.f k L) (putAll (L.map pidE) []) := by
 have key : ∀ d i acc, i + d = L.length → acc.length ≤ i → Ev (fun k => spec_PidsIn.l0 k L acc (i : Int)) (putAll ((L.drop i).map pidE) acc) := by
  intro d
  induction d with
  | zero =>
   intro i acc hi ha
   refine evSucc ?_
   simp only [spec_PidsIn.l0]
   rw [List.drop_of_length_le (by omega)]
   exact evNeg (by omega) (Ev.now _)
  | succ d ih =>
   intro i acc hi ha
   have hlt : i < L.length := by omega
   refine evSucc ?_
   simp only [spec_PidsIn.l0]
   refine evPos (by omega) (evPos (by omega) ?_)
   rw [rdE L i hlt, w64 (by omega) (by omega), ci, List.drop_eq_getElem_cons hlt, List.map_cons]
   refine Ev.bind (ev_l09In acc L[i].f0 (by omega)) ?_
   unfold putAll
   by_cases hc : L[i].f0 ∈ acc
   ·refine evPos (decide_eq_true hc) ?_
    rw [show pidE L[i] = L[i].f0 from rfl, if_pos hc]
    exact ih (i + 1) acc (by omega) (by omega)
   ·refine evNeg (by rw [decide_eq_true_eq]; exact hc) ?_
    rw [show pidE L[i] = L[i].f0 from rfl, if_neg hc]
    exact Ev.bind (ev_l23Put acc L[i].f0 (by omega)) (ih (i + 1) _ (by omega) (by rw [insS_len]; omega))
 exact key L.length 0 [] (by omega) (Nat.le_refl _)
theorem ev_impl_PidsIn (L : List S131) (hL : L.length ≤ 1048576) : Ev (fun k => impl_PidsIn.f k L) (putAll (L.map pidE) []) := by
 have key := evUp (r := putAll (L.map pidE) []) L.length (fun i k => impl_PidsIn.l0 k ((L.take i).map pidE) L (L.length : Int) (i : Int)) ?_ ?_
 ·exact key
 ·intro i hi ih
  refine evSucc ?_
  simp only [impl_PidsIn.l0]
  refine evPos (by omega) (evPos (by omega) (evPos (by omega) (evPos (by rw [List.length_map, List.length_take]; omega) ?_)))
  rw [rdE L i hi, w64 (by omega) (by omega), ci]
  rw [takeSnoc L i hi, List.map_append] at ih
  exact ih
 ·refine evSucc ?_
  simp only [impl_PidsIn.l0]
  refine evNeg (by omega) ?_
  rw [List.take_length]
  refine evBindS (sort_f _ (by rw [List.length_map]; omega)) ?_
  refine evBindS (show slices_Compact_int_int.f (srtS (L.map pidE)) = some (Go.Lib.compact (srtS (L.map pidE))) from rfl) ?_
  rw [compact_putAll]
  exact Ev.now _
def mkdE (k : Int) : S131 := ⟨k, k + 1, ⟨k + 2, k + 3, k + 4, k + 5⟩⟩
def markE (l : List S131) (k : Int) : List S131 := (List.range l.length).map (fun (j : Nat) => mkdE (k + 6 * (j : Int)))
theorem rd_setE (l : List S131) (i : Nat) (x : S131) (hi : i < l.length) : rd_T131 (l.set i x) (i : Int) = x := by
 simp [rd_T131, hi]
theorem setsetE (l : List S131) (i : Nat) (x y : S131) : (l.set i x).set i y = l.set i y := by simp
theorem ev_markEntryS (l : List S131) (k0 : Int) (h0 : 0 ≤ k0) (h1 : k0 ≤ 1000000000) (hl : l.length ≤ 1048576) : Ev (fun k => laws_markEntryS.f k l k0) (k0 + 6 * (l.length : Int), markE l k0) := by
 have key : ∀ d i (cur : List S131), i + d = l.length → cur = (List.range i).map (fun (j : Nat) => mkdE (k0 + 6 * (j : Int))) ++ l.drop i → Ev (fun k => laws_markEntryS.l0 k cur (k0 + 6 * (i : Int)) (i : Int)) (k0 + 6 * (l.length : Int), markE l k0) := by
  intro d
  induction d with
  | zero =>
   intro i cur hi hc
   have hcl : cur.length = l.length := by rw [hc]; simp; omega
   refine evSucc ?_
   simp only [laws_markEntryS.l0]
   refine evNeg (by omega) (evEq (Ev.now _) ?_)
   rw [hc, List.drop_of_length_le (by omega), List.append_nil, show i = l.length by omega]
   rfl
  | succ d ih =>
   intro i cur hi hc
   have hcl : cur.length = l.length := by rw [hc]; simp; omega
   refine evSucc ?_
   simp only [laws_markEntryS.l0]
   refine evPos (by omega) (evPos (by omega) ?_)
   simp only [Option.bind_some, Int.toNat_natCast]
   rw [w64 (x := k0 + 6 * (i : Int) + 1) (by omega) (by omega), w64 (x := k0 + 6 * (i : Int) + 1 + 1) (by omega) (by omega), w64 (x := k0 + 6 * (i : Int) + 1 + 1 + 1) (by omega) (by omega), w64 (x := k0 + 6 * (i : Int) + 1 + 1 + 1 + 1) (by omega) (by omega), w64 (x := k0 + 6 * (i : Int) + 1 + 1 + 1 + 1 + 1) (by omega) (by omega), w64 (x := k0 + 6 * (i : Int) + 1 + 1 + 1 + 1 + 1 + 1) (by omega) (by omega), w64 (x := (i : Int) + 1) (by omega) (by omega)]
   have hi' : i < cur.length := by omega
   simp only [rd_setE _ _ _ hi', setsetE, rd_setE _ _ _ (show i < (cur.set i _).length by simpa using hi')]
   rw [ci, show k0 + 6 * (i : Int) + 1 + 1 + 1 + 1 + 1 + 1 = k0 + 6 * ((i + 1 : Nat) : Int) by omega]
   refine ih (i + 1) _ (by omega) ?_
   have hlt : i < l.length := by omega
   have hrl : ((List.range i).map (fun (j : Nat) => mkdE (k0 + 6 * (j : Int)))).length = i := by simp
   rw [hc, List.set_append_right _ _ (by rw [hrl]; omega), hrl, Nat.sub_self, List.drop_eq_getElem_cons hlt, List.set_cons_zero, List.range_succ, List.map_append, List.append_assoc]
   congr 1
   simp [mkdE]
   omega
 have := key l.length 0 l (by omega) (by simp)
 rw [show k0 + 6 * ((0 : Nat) : Int) = k0 by omega] at this
 exact this
theorem ev_eqIntS (l : List Int) (hl : l.length ≤ 4194304) : Ev (fun k => laws_eqIntS.f k l l) true := by
 have key := evUp (r := true) l.length (fun i k => laws_eqIntS.l0 k l l (i : Int)) ?_ ?_
 ·refine Ev.congr (fun k => ?_) key
  unfold laws_eqIntS.f
  rw [if_pos rfl]
  rfl
 ·intro i hi ih
  refine evSucc ?_
  simp only [laws_eqIntS.l0]
  refine evPos (by omega) (evPos (by omega) (evPos (by omega) (evPos trivial ?_)))
  rw [w64 (by omega) (by omega), ci]
  exact ih
 ·refine evSucc ?_
  simp only [laws_eqIntS.l0]
  exact evNeg (by omega) (Ev.now _)
def mkI (n : Nat) : List Int := (List.range n).map (fun (j : Nat) => 1 + (j : Int))
theorem mkI_len (n : Nat) : (mkI n).length = n := by simp [mkI]
theorem mkI_get (n i : Nat) (h : i < (mkI n).length) : (mkI n)[i] = 1 + (i : Int) := by simp [mkI]
theorem ev_markIntS (l : List Int) (hl : l.length ≤ 1048576) : Ev (fun k => laws_markIntS.f k l 1) (1 + (l.length : Int), mkI l.length) := by
 have key := evUp (r := (1 + (l.length : Int), mkI l.length)) l.length (fun i k => laws_markIntS.l0 k (mkI i ++ l.drop i) (1 + (i : Int)) (i : Int)) ?_ ?_
 ·exact key
 ·intro i hi ih
  refine evSucc ?_
  simp only [laws_markIntS.l0]
  refine evPos (by rw [List.length_append, mkI_len, List.length_drop]; omega) (evPos (by omega) ?_)
  rw [Int.toNat_natCast, w64 (x := 1 + (i : Int) + 1) (by omega) (by omega), w64 (x := (i : Int) + 1) (by omega) (by omega), ci]
  have e : (mkI i ++ l.drop i).set i (1 + (i : Int)) = mkI (i + 1) ++ l.drop (i + 1) := by
   rw [List.set_append_right _ _ (by rw [mkI_len]; omega), mkI_len, Nat.sub_self, List.drop_eq_getElem_cons hi, List.set_cons_zero]
   unfold mkI
   rw [List.range_succ, List.map_append, List.append_assoc]
   rfl
  rw [e, show 1 + (i : Int) + 1 = 1 + ((i + 1 : Nat) : Int) by omega]
  exact ih
 ·refine evSucc ?_
  simp only [laws_markIntS.l0]
  refine evNeg (by rw [List.length_append, mkI_len, List.length_drop]; omega) ?_
  rw [List.drop_of_length_le (Nat.le_refl _), List.append_nil]
  exact Ev.now _
theorem ev_heldIntS (n : Nat) (hn : n ≤ 1048576) : Ev (fun k => laws_heldIntS.f k (mkI n) 1) (1 + (n : Int)) := by
 have key := evUp (r := 1 + (n : Int)) n (fun i k => laws_heldIntS.l0 k (mkI n) (1 + (i : Int)) (i : Int)) ?_ ?_
 ·exact key
 ·intro i hi ih
  have hi' : i < (mkI n).length := by rw [mkI_len]; exact hi
  refine evSucc ?_
  simp only [laws_heldIntS.l0]
  refine evPos (by rw [mkI_len]; omega) (evPos (by omega) ?_)
  rw [rdI _ i hi', mkI_get n i hi', w64 (x := 1 + (i : Int) + 1) (by omega) (by omega), w64 (x := (i : Int) + 1) (by omega) (by omega), ci]
  rw [show 1 + (i : Int) + 1 = 1 + ((i + 1 : Nat) : Int) by omega]
  exact evPos rfl ih
 ·refine evSucc ?_
  simp only [laws_heldIntS.l0]
  exact evNeg (by rw [mkI_len]; omega) (Ev.now _)
theorem FnExactPidsIn : PureFnExactPidsIn.Stated := by
 intro l ⟨_, hb⟩
 refine Ev.rounds ?_
 simp only [laws_FnExactPidsIn.f]
 by_cases h2 : l.length ≤ 1048576
 ·rw [szEntryS_small l h2]
  simp only [Option.bind_some]
  have hm : (l.map cvEntry).length ≤ 1048576 := by simpa using h2
  have hp := putAll_len ((l.map cvEntry).map pidE) []
  rw [List.length_map, List.length_nil] at hp
  have hpl : (putAll ((l.map cvEntry).map pidE) []).length ≤ 1048576 := by omega
  refine evNeg (by omega) (Ev.bind (ev_toEntryS l h2) (Ev.bind (ev_spec_PidsIn _ hm) (Ev.bind (ev_toEntryS l h2) (Ev.bind (ev_impl_PidsIn _ hm) (Ev.bind (ev_eqIntS _ (by omega)) (evPos rfl (Ev.bind (ev_toEntryS l h2) (Ev.bind (ev_eqEntryS _ hm) (evPos rfl (Ev.bind (ev_markEntryS _ 1 (by omega) (by omega) hm) (evNeg ?_ (Ev.bind (ev_eqIntS _ (by omega)) (evSucc ?_)))))))))))))
  ·show ¬ 1 + 6 * ((l.map cvEntry).length : Int) < 0
   omega
  simp only [laws_FnExactPidsIn.j0]
  refine evNeg (by simp) (Ev.bind (ev_markIntS _ hpl) (Ev.bind (ev_heldIntS _ hpl) (evNeg (by omega) (evPos rfl ?_))))
  refine Ev.bind (ev_toEntryS l h2) (Ev.bind (ev_impl_PidsIn _ hm) (Ev.bind (ev_eqIntS _ (by omega)) (evPos rfl ?_)))
  exact Ev.bind (ev_heldIntS _ hpl) (evNeg (by omega) (evPos rfl (Ev.now _)))
 ·rw [szEntryS_big l (by omega) hb]
  simp only [Option.bind_some]
  exact evPos (by omega) (Ev.now _)

end Go.Proofs.Ytmjlhikflhbdaaa.Pure

namespace Go.Proofs.Ytmjlhikflhbdaaa.fnExactPidsIn
open Go.ChangeShapes Go.WideShapes Go.ChangeAt Go.RowKit Go.Proofs.Ytmjlhikflhbdaaa.PA Go.Proofs.Ytmjlhikflhbdaaa.PureFnExactPidsIn Go.Proofs.YtmjlhikflhbdaaaW.PrintWords
open Go.ChangeMaps (open_string shut_string)
set_option linter.unusedVariables false
set_option linter.unusedSimpArgs false
theorem own : ownKnob Try.prog.godebug = none := by kernel_rfl
theorem laidOut : laidOutB Try.prog = true := by kernel_rfl
theorem op133 : Op.Opens Try.prog k133 133 ok133 := Op.opStruct Try.underlying133 (by kernel_rfl) (Op.fieldsCons (Op.opInt Try.underlying3 (by kernel_rfl)) rfl (Op.fieldsCons (Op.opInt Try.underlying3 (by kernel_rfl)) rfl (Op.fieldsCons (Op.opInt Try.underlying3 (by kernel_rfl)) rfl (Op.fieldsOne (Op.opInt Try.underlying3 (by kernel_rfl)) rfl)))) (fun a => ⟨a.1, a.2.1, a.2.2.1, a.2.2.2⟩) (fun a => rfl) (fun a h => h)
theorem op135 : Op.Opens Try.prog k135 135 ok135 := Op.opStruct Try.underlying135 (by kernel_rfl) (Op.fieldsCons (Op.opInt Try.underlying3 (by kernel_rfl)) rfl (Op.fieldsCons (Op.opInt Try.underlying3 (by kernel_rfl)) rfl (Op.fieldsOne op133 rfl))) (fun a => ⟨a.1, a.2.1, a.2.2⟩) (fun a => rfl) (fun a h => h)
set_option maxRecDepth 100000 in
theorem lifted (os : Os) (started : os.Started) (H : Type) (enc : TypeId × Value → H) :
 ReturnsInHanded {} Try.checked os 8 .any (Rows.fnExactPidsInSpec.pre6 enc Try.prog Try.f8 Rows.fnExactPidsInRow.domain false) (Rows.fnExactPidsInSpec.post enc Try.prog Try.f8 false true false false) := by
 refine returnsInHanded_of_change_sized (C := Try.checked) own started (by kernel_rfl) Try.func8
  (ChangeSpec.witness6 (enc := enc) (C := Try.checked) false ⟨#[], #[.slice none 0 0], []⟩ 8 (by kernel_rfl) (by kernel_rfl) (by kernel_rfl) (by kernel_rfl)) ?_
 intro W base args ds gs before hval0 hW hcnd hsz0 _
 have hval : ∀ (j : Nat) t v, Try.f8.params[j]? = some t → args[j]? = some v → Value.okWide Try.prog W .any base t v := hval0
 have hW' := hW
 obtain ⟨p, q, hA0, hV, rfl, hfz, hnd⟩ := hW
 have hA : DataW.TrodAll enc Try.prog W 0 (fun _ => true) true Try.f8.params.toList args.toList ds p := hA0
 rw [Try.params8] at hA hval
 obtain ⟨v0, vs0, d0, ds0, p0, q0, hargs, rfl, rfl, h0, r0⟩ := trodAll_cons hA
 obtain ⟨rfl, rfl, rfl⟩ := trodAll_nil r0
 obtain rfl : args = #[v0] := by cases args; simp_all
 obtain ⟨rfl, rfl⟩ := trodVars_none hV
 have k0 := h0
 have lt0 : ∀ x ∈ p0, x.block < W.heap.size := by obtain ⟨m, hm⟩ := k0; exact DataW.trod_lt m _ _ _ hm
 obtain ⟨m0, hm0⟩ := h0
 obtain ⟨A0, n0, c0, rfl⟩ := okWide_slice Try.underlying47 (hval 0 47 v0 rfl rfl)
 obtain ⟨x0, ⟨A0', c0', hs0, hc0, hr0⟩, hG0⟩ := (Op.opSlice Try.underlying47 (by kernel_rfl) 135 op135).op hm0
 obtain ⟨rfl, rfl, rfl⟩ : A0 = A0' ∧ n0 = x0.length ∧ c0 = c0' := by simpa [Value.cells] using hs0
 obtain ⟨k, h⟩ := Pure.FnExactPidsIn x0 hG0
 refine (laws_FnExactPidsIn.calls k A0 c0 x0 true W hr0 hc0 rfl h).mono fun e W' ⟨he, bel⟩ => ?_
 subst he
 exact ⟨_, rfl, _, _, _, [], _, [], hW', trodAll_mk1 (shut_bool Try.underlying4 _), (trodAll_cons_mk (Below.trod laidOut (by kernel_rfl) (of_decide_eq_true (by kernel_rfl)) k0 bel lt0) trodAll_mk0), rfl, bel.frame _, fun h => by cases h⟩
theorem over : Rows.fnExactPidsInRow.holds Try.pinned (OpenSpec.ofChange Rows.fnExactPidsInSpec) :=
 OpenClaim.holds_of_wide 8 Try.f8 rfl rfl rfl rfl rfl rfl rfl ⟨rfl, rfl, rfl, rfl, rfl⟩ rfl rfl rfl rfl rfl (by kernel_rfl) Try.func8 (by kernel_rfl)
  (of_decide_eq_true (by kernel_rfl)) (by unfold Func.isWrapper; first | (rw [if_pos (by decide +kernel)]; kernel_rfl) | (rw [if_neg (by decide +kernel)]; exact ⟨rfl, rfl⟩))
  (fun os started H enc _ => lifted os started H enc)
theorem proved : Rows.FnExactPidsInSaid := over
#print axioms proved
end Go.Proofs.Ytmjlhikflhbdaaa.fnExactPidsIn
namespace Go.Proofs.Ytmjlhikflhbdaaa
/-- The row, under a short name, for the claim. -/
theorem fnExactPidsIn_holds : Rows.FnExactPidsInSaid := fnExactPidsIn.proved
end Go.Proofs.Ytmjlhikflhbdaaa
