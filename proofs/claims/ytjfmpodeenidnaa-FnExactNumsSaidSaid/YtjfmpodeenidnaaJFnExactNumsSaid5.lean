/- Contracts of functions of the program and of the reference, and plain lemmas on what they compute: a part of the proof of the law FnExactNumsSaid. No condition. -/
import Derived.Test.YtjfmpodeenidnaaJFnExactNumsSaid1
import Derived.Test.YtjfmpodeenidnaaJFnExactNumsSaid4
import Derived.Test.YtjfmpodeenidnaaJFnExactNumsSaid2
import Derived.Test.YtjfmpodeenidnaaJFnExactNumsSaid3
import Derived.Test.YtjfmpodeenidnaaV0
import Derived.ChangeArms
import Derived.ChangeOld
import Derived.WideShapes
import Derived.OpenShut
import Derived.DataElems
import Derived.Test.YtjfmpodeenidnaaRows
import Derived.WalkKit
import Derived.ProofKit
import Derived.ShutString
import Derived.Below
import Derived.SizedLaws
import Derived.Carry
import Derived.Test.YtjfmpodeenidnaaShortV
set_option maxHeartbeats 8000000
set_option maxRecDepth 100000
namespace Go.Proofs.Ytjfmpodeenidnaa.PB
open Go.RowKit Go.Proofs.Ytjfmpodeenidnaa.Short Go.Proofs.YtjfmpodeenidnaaW.PrintWords Go.Proofs.YtjfmpodeenidnaaW.PrintLast Go.Proofs.YtjfmpodeenidnaaW.PrintMore
attribute [local go_sem] max2_int min2_int max_two min_two max_three min_three max_four min_four   -- for this text's walks alone
set_option linter.unusedVariables false
set_option linter.unusedSimpArgs false

def laws_markRuleS.l0 : Nat → List (S53) → Int → Int → Option (Int × (List (S53)))
 | 0, _, _, _ => none
 | k + 1, x0, x1, x5 => if x5 < (x0.length : Int) then (if 0 ≤ x5 then ((laws_markIntS.f k ((rd_T53 x0 x5).f0) x1).bind fun bt9298 => ((some (x0.set (x5 : Int).toNat (⟨bt9298.2, (rd_T53 x0 x5).f1, (rd_T53 x0 x5).f2, (rd_T53 x0 x5).f3⟩ : S53)) : Option (List (S53))).bind fun y9298 => ((laws_markCondS.f k ((rd_T53 y9298 x5).f1) bt9298.1).bind fun bt9300 => ((some (y9298.set (x5 : Int).toNat (⟨(rd_T53 y9298 x5).f0, bt9300.2, (rd_T53 y9298 x5).f2, (rd_T53 y9298 x5).f3⟩ : S53)) : Option (List (S53))).bind fun y9300 => ((some (y9300.set (x5 : Int).toNat (⟨(rd_T53 y9300 x5).f0, (rd_T53 y9300 x5).f1, bt9300.1, (rd_T53 y9300 x5).f3⟩ : S53) : List (S53))).bind fun y301 => (laws_markRuleS.l0 k (y301.set (x5 : Int).toNat (⟨(rd_T53 y301 x5).f0, (rd_T53 y301 x5).f1, (rd_T53 y301 x5).f2, wrap64 (bt9300.1 + 1)⟩ : S53)) (wrap64 ((wrap64 (bt9300.1 + 1)) + 1)) (wrap64 (x5 + 1)))))))) else (none)) else (some (x1, x0))
def laws_markRuleS.f (k : Nat) (l0 : List (S53)) (a1 : Int) : Option (Int × (List (S53))) := laws_markRuleS.l0 k l0 a1 0
theorem laws_markRuleS.mono_l : ∀ k, (∀ y0 y1 y2, LeO (laws_markRuleS.l0 k y0 y1 y2) (laws_markRuleS.l0 (k + 1) y0 y1 y2))
 | 0 => fun _ _ _ r h => by simp [laws_markRuleS.l0] at h
 | k + 1 => by
  have ih0 := laws_markRuleS.mono_l k
  ·intro y0 y1 y2
   unfold laws_markRuleS.l0
   have m0 := @laws_markCondS.mono
   have m1 := @laws_markIntS.mono
   exact mo_
theorem laws_markRuleS.mono : ∀ a0 a1 k, LeO (laws_markRuleS.f k a0 a1) (laws_markRuleS.f (k + 1) a0 a1) := by
 intro a0 a1 k
 have ih0 := laws_markRuleS.mono_l k
 unfold laws_markRuleS.f
 have m0 := @laws_markCondS.mono
 have m1 := @laws_markIntS.mono
 exact mo_
theorem laws_markRuleS.calls (k : Nat) (P0_ : Nat → Prop) (u9000_ : Value) (l0 : List (S53)) (a1 : Int) (r1 : Int) (r2 : List (S53)) (w0 w : World) (hB : Below w0.heap.size w0 w) (ho0 : Kd.S k53 53 w w0.heap.size P0_ u9000_ l0) (h : laws_markRuleS.f k l0 a1 = some (r1, r2)) :
 Calls Try.prog 59 #[u9000_, .int .i64 a1] w fun e w' => e = .returned (.int .i64 r1) ∧ Kd.S k53 53 w' w0.heap.size (fun k_ => (P0_ k_ ∨ w.heap.size ≤ k_)) u9000_ r2 ∧ Below w0.heap.size w0 w' ∧ Kept w w' (fun k_ => P0_ k_) := by
 have HO0 := Aside0.mk (show Kd.S k53 53 w w0.heap.size (fun k_ => (P0_ k_ ∨ w.heap.size ≤ k_)) u9000_ l0 from Kd.S_mono ho0 (fun k_ hk => (.inl hk)))
 have HK := Aside0.mk (Kept.refl w (fun k_ => P0_ k_))
 have HW0 := Aside0.mk hB.size
 have HB := Aside0.mk hB
 clear hB
 have H := h
 unfold laws_markRuleS.f at H
 clear h
 have H' := Aside0.mk H
 clear H
 go_enter Try.func59, Try.ntmps59
 go_wp2
 go_loopg [1, 5] k (fun kq v1 v5 w' => ∃ (x0_1 : List (S53)) (x1_1 : Int) (x5_1 : Int), v1 = .int .i64 x1_1 ∧ v5 = .int .i64 x5_1 ∧ Aside0 (laws_markRuleS.l0 kq x0_1 x1_1 x5_1 = some (r1, r2)) ∧ Aside0 (kq ≤ k) ∧ Aside0 (Kd.S k53 53 w' w0.heap.size (fun k_ => (P0_ k_ ∨ w.heap.size ≤ k_)) u9000_ x0_1) ∧ Aside0 (Kept w w' (fun k_ => P0_ k_)) ∧ Aside0 (Below w0.heap.size w0 w'))
 case atStart => exact ⟨(l0), (a1), (0), (sr_), (sr_), H', ⟨Nat.le_refl _⟩, ⟨by (with_reducible repeat (first | apply Kd.S_alloc | apply Kd.S_drewN | apply Kd.S_drew)); exact HO0.out⟩, ⟨by repeat (first | (with_reducible first | exact HK.out | apply Kept.alloc | apply Kept.drewN | apply Kept.drew) | exact HK.out)⟩, ⟨bl_⟩⟩
 clear H'
 obtain ⟨x0_1, x1_1, x5_1, rfl, rfl, HA, HK1, HO_0, HK, HB⟩ := hrel
 cases gk with
 | zero => exact absurd HA.out (by simp [laws_markRuleS.l0])
 | succ k1 => ?_
 have H := HA.out
 clear HA
 simp only [laws_markRuleS.l0] at H
 by_cases c3 : x5_1 < (x0_1.length : Int)
 rotate_left
 ·rw [if_neg c3] at H
  have c3b0 := decide_eq_false c3
  clear c3
  simp only [Option.some.injEq, Prod.mk.injEq] at H
  obtain ⟨rfl, rfl⟩ := H
  obtain ⟨Ao14, co14, eo14⟩ := Kd.S_slice HO_0.out
  subst eo14
  go_wp2
  go_ret
  exact ⟨er_, by (with_reducible repeat (first | apply Kd.S_alloc | apply Kd.S_drewN | apply Kd.S_drew)); exact HO_0.out, bl_, by repeat (first | (with_reducible first | exact HK.out | apply Kept.alloc | apply Kept.drewN | apply Kept.drew) | exact HK.out)⟩
 rw [if_pos c3] at H
 have c3b0 := decide_eq_true c3
 clear c3
 by_cases c4 : 0 ≤ x5_1
 rotate_left
 ·exact nn_ c4 H
 rw [if_pos c4] at H
 have c4b0 := decide_eq_true c4
 clear c4
 replace H := bs_ H
 obtain ⟨⟨t298, t9298⟩, A5, H⟩ := H
 try dsimp only at H
 obtain ⟨y9298, hy9298⟩ : ∃ y_ : List (S53), y_ = (x0_1.set (x5_1 : Int).toNat (⟨t9298, (rd_T53 x0_1 x5_1).f1, (rd_T53 x0_1 x5_1).f2, (rd_T53 x0_1 x5_1).f3⟩ : S53)) := ⟨_, rfl⟩
 replace H : ((laws_markCondS.f k1 ((rd_T53 y9298 x5_1).f1) t298).bind fun bt9300 => ((some (y9298.set (x5_1 : Int).toNat (⟨(rd_T53 y9298 x5_1).f0, bt9300.2, (rd_T53 y9298 x5_1).f2, (rd_T53 y9298 x5_1).f3⟩ : S53)) : Option (List (S53))).bind fun y9300 => ((some (y9300.set (x5_1 : Int).toNat (⟨(rd_T53 y9300 x5_1).f0, (rd_T53 y9300 x5_1).f1, bt9300.1, (rd_T53 y9300 x5_1).f3⟩ : S53) : List (S53))).bind fun y301 => (laws_markRuleS.l0 k1 (y301.set (x5_1 : Int).toNat (⟨(rd_T53 y301 x5_1).f0, (rd_T53 y301 x5_1).f1, (rd_T53 y301 x5_1).f2, wrap64 (bt9300.1 + 1)⟩ : S53)) (wrap64 ((wrap64 (bt9300.1 + 1)) + 1)) (wrap64 (x5_1 + 1)))))) = some (r1, r2) := by rw [hy9298]; exact (Option.bind_some _ _).symm.trans H
 have Ny9298 := Aside0.mk hy9298
 clear hy9298
 replace H := bs_ H
 obtain ⟨⟨t300, t9300⟩, A6, H⟩ := H
 try dsimp only at H
 obtain ⟨y9300, hy9300⟩ : ∃ y_ : List (S53), y_ = (y9298.set (x5_1 : Int).toNat (⟨(rd_T53 y9298 x5_1).f0, t9300, (rd_T53 y9298 x5_1).f2, (rd_T53 y9298 x5_1).f3⟩ : S53)) := ⟨_, rfl⟩
 replace H : ((some (y9300.set (x5_1 : Int).toNat (⟨(rd_T53 y9300 x5_1).f0, (rd_T53 y9300 x5_1).f1, t300, (rd_T53 y9300 x5_1).f3⟩ : S53) : List (S53))).bind fun y301 => (laws_markRuleS.l0 k1 (y301.set (x5_1 : Int).toNat (⟨(rd_T53 y301 x5_1).f0, (rd_T53 y301 x5_1).f1, (rd_T53 y301 x5_1).f2, wrap64 (t300 + 1)⟩ : S53)) (wrap64 ((wrap64 (t300 + 1)) + 1)) (wrap64 (x5_1 + 1)))) = some (r1, r2) := by rw [hy9300]; exact (Option.bind_some _ _).symm.trans H
 have Ny9300 := Aside0.mk hy9300
 clear hy9300
 obtain ⟨y301, hy301⟩ : ∃ y_ : List (S53), y_ = (y9300.set (x5_1 : Int).toNat (⟨(rd_T53 y9300 x5_1).f0, (rd_T53 y9300 x5_1).f1, t300, (rd_T53 y9300 x5_1).f3⟩ : S53)) := ⟨_, rfl⟩
 replace H : (laws_markRuleS.l0 k1 (y301.set (x5_1 : Int).toNat (⟨(rd_T53 y301 x5_1).f0, (rd_T53 y301 x5_1).f1, (rd_T53 y301 x5_1).f2, wrap64 (t300 + 1)⟩ : S53)) (wrap64 ((wrap64 (t300 + 1)) + 1)) (wrap64 (x5_1 + 1))) = some (r1, r2) := rp_ H hy301
 have Ny301 := Aside0.mk hy301
 clear hy301
 obtain ⟨y302, hy302⟩ : ∃ y_ : List (S53), y_ = (y301.set (x5_1 : Int).toNat (⟨(rd_T53 y301 x5_1).f0, (rd_T53 y301 x5_1).f1, (rd_T53 y301 x5_1).f2, wrap64 (t300 + 1)⟩ : S53)) := ⟨_, rfl⟩
 replace H : (laws_markRuleS.l0 k1 y302 (wrap64 ((wrap64 (t300 + 1)) + 1)) (wrap64 (x5_1 + 1))) = some (r1, r2) := rp_ H hy302
 have Ny302 := Aside0.mk hy302
 clear hy302
 have H' := Aside0.mk H
 clear H
 obtain ⟨Ao9, co9, eo9⟩ := Kd.S_slice HO_0.out
 subst eo9
 have p297 : 0 ≤ (x5_1 : Int) := of_decide_eq_true as_
 have q297 : x5_1 < (x0_1.length : Int) := of_decide_eq_true as_
 obtain ⟨ad297, A297_0, c297_0, A297_1, c297_1, e297, hx297_0, hx297_1, hx297_2, hx297_3, hl297_0, hi297_0, hl297_1, hi297_1⟩ := at_T53 (Kd.S_reads' HO_0.out).2.2 x5_1 p297 q297
 cases e297
 obtain ⟨ce297, hce297, hMe297, hcc297⟩ := Kd.S_get HO_0.out z53 x5_1 p297 (by first | exact q297 | exact of_decide_eq_true as_ | (have e_ := (Kd.S_reads' HO_0.out).1; omega))
 obtain ⟨ve297_0, ve297_1, rfl, ge297_0, ge297_1⟩ := k53_openM hMe297
 have hv297_0 := hcc297 0 _ rfl
 rw [Nat.add_zero] at hv297_0
 replace hv297_0 := Option.some.inj (hv297_0.symm.trans hx297_0)
 rw [hv297_0] at ge297_0
 have HL297_0 := Aside0.mk (show Kd.R (Kd.int .i64) 3 _ _ _ _ ((rd_T53 x0_1 x5_1).f0) from ge297_0)
 clear hv297_0 ge297_0
 have hv297_1 := hcc297 1 _ rfl
 rw [add_field _ _ 1 (by omega)] at hv297_1
 replace hv297_1 := Option.some.inj (hv297_1.symm.trans hx297_1)
 rw [hv297_1] at ge297_1
 have HL297_1 := Aside0.mk (show Kd.R k100 100 _ _ _ _ ((rd_T53 x0_1 x5_1).f1) from ge297_1)
 clear hv297_1 ge297_1
 clear hcc297 hce297
 have HR297_0 := Aside0.mk hi297_0
 have HC297_0 := Aside0.mk hl297_0
 clear hi297_0 hl297_0
 have HR297_1 := Aside0.mk hi297_1
 have HC297_1 := Aside0.mk hl297_1
 clear hi297_1 hl297_1
 replace p297 := eq_true p297
 replace q297 := eq_true q297
 go_wp2_with (first | ((with_reducible refine gate_callee (f := 19) rfl ?_); refine gs_ (some 18) Try.func19 #[.slice A297_0 ((rd_T53 x0_1 x5_1).f0).length c297_0, .int .i64 x1_1] ?_; have p6_ : 0 ≤ (x5_1 : Int) := of_decide_eq_true as_; have q6_ : (x5_1 : Int) < ((x0_1.length : Int) : Int) := of_decide_eq_true as_; obtain ⟨go6_, co6_, eo6_, _, _, _, _⟩ := Kd.S_form HO_0.out (by omega); have e6_ : ad297 = ⟨go6_, 0, none⟩ := (by injection eo6_ with ea_ en_ ec_; first | exact ea_ | exact Option.some.inj ea_); have HOa_ := HO_0.out; rw [e6_] at HOa_; have hx6_ := hx297_0; rw [e6_] at hx6_; (try simp only [add_plain] at hx6_); obtain ⟨oki_, ce_, hcl_, hM_, hcc_, hoki_, hH_⟩ := Kd.S_lend HOa_ z53 (x5_1 : Int) (of_decide_eq_true as_) (by have h_ : (x5_1 : Int) < ((x0_1.length : Int) : Int) := of_decide_eq_true as_; exact h_); obtain ⟨ve0_, ve1_, rfl, ge0_, ge1_⟩ := k53_openM hM_; have e_ := (hcc_ 0 _ rfl).symm.trans hx6_; injection e_ with e_; subst e_; (with_reducible refine (laws_markIntS.calls k1 (fun k_ => some k_ = (.slice A297_0 ((rd_T53 x0_1 x5_1).f0).length c297_0 : Value).ownBlock) (.slice A297_0 ((rd_T53 x0_1 x5_1).f0).length c297_0 : Value) ((rd_T53 x0_1 x5_1).f0) x1_1 t298 t9298 w0 _ ?side1 ?side2 A5.out).mono ?_); (case side1 => exact HB.out); (case side2 => exact Kd.R_tight rfl ge0_); rintro e w9298 ⟨rfl, hy0, hb, hkp⟩; refine ⟨_, rfl, ?_⟩; have hH2_ := Kd.H_step hH_ (fun k_ _ hn_ hlt_ => hkp.2 k_ hlt_ (fun e_ => hn_ (ge0_.1 k_ e_.symm))); have hS_ := Kd.H_back hH2_ (x' := (⟨t9298, (rd_T53 x0_1 x5_1).f1, (rd_T53 x0_1 x5_1).f2, (rd_T53 x0_1 x5_1).f3⟩ : S53)) (k53_mkM _ _ oki_ (⟨t9298, (rd_T53 x0_1 x5_1).f1, (rd_T53 x0_1 x5_1).f2, (rd_T53 x0_1 x5_1).f3⟩ : S53) (Kd.R_reok rfl hy0 (fun k_ e_ => ge0_.1 k_ e_)) (Kd.R_mono (Kd.R_kept (Kd.R_apartR ge1_ ge0_ (by decide)) hkp (fun _ h1_ h2_ => h1_.2 h2_)) (fun _ hk => hk.1))) (fun _ hk => hk); have n0_ := Aside0.mk (show Kd.S k53 53 w9298 w0.heap.size (fun k_ => (P0_ k_ ∨ w.heap.size ≤ k_)) (.slice (some ad297) x0_1.length co9) y9298 from (by rw [Ny9298.out, e6_]; exact hS_)); have n1_ := Aside0.mk (Kept.then_ (S := (fun k_ => P0_ k_)) HK.out hkp (fun k_ hs_ => (hoki_ k_ (ge0_.1 k_ hs_.symm)).1)); have n2_ := Aside0.mk hb; clear hS_ hH2_ hH_ hy0 hkp hb ge0_ ge1_ hoki_ hcc_ hcl_ hM_ HL297_0 HR297_0 HOa_ hx6_ e6_ eo6_ p6_ q6_; clear HO_0; clear HK; clear HB; have HO_0 := n0_; have HK := n1_; have HB := n2_; clear n0_ n1_ n2_; have hly9298_ : y9298.length = x0_1.length := (by rw [Ny9298.out, List.length_set]); have p299 : 0 ≤ (x5_1 : Int) := of_decide_eq_true as_; have q299 : x5_1 < (x0_1.length : Int) := of_decide_eq_true as_; obtain ⟨ad299, A299_0, c299_0, A299_1, c299_1, e299, hx299_0, hx299_1, hx299_2, hx299_3, hl299_0, hi299_0, hl299_1, hi299_1⟩ := at_T53 (Kd.S_reads' HO_0.out).2.2 x5_1 p299 (by omega); obtain rfl : ad297 = ad299 := (by injection e299); obtain ⟨ce299, hce299, hMe299, hcc299⟩ := Kd.S_get HO_0.out z53 x5_1 p299 (by first | exact q299 | exact of_decide_eq_true as_ | (have e_ := (Kd.S_reads' HO_0.out).1; omega)); obtain ⟨ve299_0, ve299_1, rfl, ge299_0, ge299_1⟩ := k53_openM hMe299; have hv299_0 := hcc299 0 _ rfl; rw [Nat.add_zero] at hv299_0; replace hv299_0 := Option.some.inj (hv299_0.symm.trans hx299_0); rw [hv299_0] at ge299_0; have HL299_0 := Aside0.mk (show Kd.R (Kd.int .i64) 3 _ _ _ _ ((rd_T53 y9298 x5_1).f0) from ge299_0); clear hv299_0 ge299_0; have hv299_1 := hcc299 1 _ rfl; rw [add_field _ _ 1 (by omega)] at hv299_1; replace hv299_1 := Option.some.inj (hv299_1.symm.trans hx299_1); rw [hv299_1] at ge299_1; have HL299_1 := Aside0.mk (show Kd.R k100 100 _ _ _ _ ((rd_T53 y9298 x5_1).f1) from ge299_1); clear hv299_1 ge299_1; clear hcc299 hce299; have HR299_0 := Aside0.mk hi299_0; have HC299_0 := Aside0.mk hl299_0; clear hi299_0 hl299_0; have HR299_1 := Aside0.mk hi299_1; have HC299_1 := Aside0.mk hl299_1; clear hi299_1 hl299_1; replace p299 := eq_true p299; replace q299 := eq_true q299; clear hx297_0 hx297_1 hx297_2 hx297_3 HL297_1 HR297_1) | ((with_reducible refine gate_callee (f := 103) rfl ?_); refine gs_ (some 25) Try.func103 #[.slice A299_1 ((rd_T53 y9298 x5_1).f1).length c299_1, .int .i64 t298] ?_; have p6_ : 0 ≤ (x5_1 : Int) := of_decide_eq_true as_; have q6_ : (x5_1 : Int) < ((x0_1.length : Int) : Int) := of_decide_eq_true as_; obtain ⟨go6_, co6_, eo6_, _, _, _, _⟩ := Kd.S_form HO_0.out (by omega); have e6_ : ad297 = ⟨go6_, 0, none⟩ := (by injection eo6_ with ea_ en_ ec_; first | exact ea_ | exact Option.some.inj ea_); have HOa_ := HO_0.out; rw [e6_] at HOa_; have hx6_ := hx299_1; rw [e6_] at hx6_; (try simp only [add_plain] at hx6_); obtain ⟨oki_, ce_, hcl_, hM_, hcc_, hoki_, hH_⟩ := Kd.S_lend HOa_ z53 (x5_1 : Int) (of_decide_eq_true as_) (by have h_ : (x5_1 : Int) < ((x0_1.length : Int) : Int) := of_decide_eq_true as_; exact h_); obtain ⟨ve0_, ve1_, rfl, ge0_, ge1_⟩ := k53_openM hM_; have e_ := (hcc_ 1 _ rfl).symm.trans hx6_; injection e_ with e_; subst e_; (with_reducible refine (laws_markCondS.calls k1 (fun k_ => some k_ = (.slice A299_1 ((rd_T53 y9298 x5_1).f1).length c299_1 : Value).ownBlock) (.slice A299_1 ((rd_T53 y9298 x5_1).f1).length c299_1 : Value) ((rd_T53 y9298 x5_1).f1) t298 t300 t9300 w0 _ ?side1 ?side2 A6.out).mono ?_); (case side1 => exact HB.out); (case side2 => exact Kd.R_tight rfl ge1_); rintro e w9300 ⟨rfl, hy0, hb, hkp⟩; refine ⟨_, rfl, ?_⟩; have hH2_ := Kd.H_step hH_ (fun k_ _ hn_ hlt_ => hkp.2 k_ hlt_ (fun e_ => hn_ (ge1_.1 k_ e_.symm))); have hS_ := Kd.H_back hH2_ (x' := (⟨(rd_T53 y9298 x5_1).f0, t9300, (rd_T53 y9298 x5_1).f2, (rd_T53 y9298 x5_1).f3⟩ : S53)) (k53_mkM _ _ oki_ (⟨(rd_T53 y9298 x5_1).f0, t9300, (rd_T53 y9298 x5_1).f2, (rd_T53 y9298 x5_1).f3⟩ : S53) (Kd.R_mono (Kd.R_kept (Kd.R_apartR ge0_ ge1_ (by decide)) hkp (fun _ h1_ h2_ => h1_.2 h2_)) (fun _ hk => hk.1)) (Kd.R_reok rfl hy0 (fun k_ e_ => ge1_.1 k_ e_))) (fun _ hk => hk); have n0_ := Aside0.mk (show Kd.S k53 53 w9300 w0.heap.size (fun k_ => (P0_ k_ ∨ w.heap.size ≤ k_)) (.slice (some ad297) x0_1.length co9) y9300 from (by rw [Ny9300.out, e6_]; exact hS_)); have n1_ := Aside0.mk (Kept.then_ (S := (fun k_ => P0_ k_)) HK.out hkp (fun k_ hs_ => (hoki_ k_ (ge1_.1 k_ hs_.symm)).1)); have n2_ := Aside0.mk hb; clear hS_ hH2_ hH_ hy0 hkp hb ge0_ ge1_ hoki_ hcc_ hcl_ hM_ HL299_1 HR299_1 HOa_ hx6_ e6_ eo6_ p6_ q6_; clear HO_0; clear HK; clear HB; have HO_0 := n0_; have HK := n1_; have HB := n2_; clear n0_ n1_ n2_; have hly9300_ : y9300.length = x0_1.length := (by rw [Ny9300.out, List.length_set]; exact hly9298_); have p7 : 0 ≤ (x5_1 : Int) := of_decide_eq_true as_; have q7 : (x5_1 : Int) < ((x0_1.length : Int) : Int) := of_decide_eq_true as_; obtain ⟨go7, co7, eo7, gb7, gl7, cl7, HG7⟩ := Kd.S_form HO_0.out (by omega); (first | cases eo7 | (injection eo7 with ea_ en_ ec_; (first | subst ea_ | (injection ea_ with ea_; subst ea_)); subst ec_; clear en_)); have GB7 := Aside0.mk gb7; have GG7 := Aside0.mk HG7; clear gb7 gl7 HG7; have HMgo7 := Aside0.mk (show (P0_ go7 ∨ w.heap.size ≤ go7) from ((Kd.S_R HO_0.out).1 _ rfl)); (first | simp only [add_plain] at hx299_0 | skip); (first | simp only [add_plain] at hx299_1 | skip); (first | simp only [add_plain] at hx299_2 | skip); (first | simp only [add_plain] at hx299_3 | skip); (first | simp only [add_plain] at hx299_0 | skip); (first | simp only [add_plain] at hx299_1 | skip); (first | simp only [add_plain] at hx299_2 | skip); (first | simp only [add_plain] at hx299_3 | skip); obtain ⟨_, ce7, hcl7, hM7, hcc7, hfr7, _, _⟩ := Kd.S_elem HO_0.out z53 (x5_1 : Int) p7 q7; obtain ⟨ve7_0, ve7_1, rfl, ge7_0, ge7_1⟩ := k53_openM hM7; have hx7_0 : w9300.cell? ⟨go7, (x5_1 : Int).toNat * 4, none⟩ = some (ve7_0) := hcc7 0 _ rfl; have hx7_1 : w9300.cell? ⟨go7, (x5_1 : Int).toNat * 4 + 1, none⟩ = some (ve7_1) := hcc7 1 _ rfl; have hx7_2 : w9300.cell? ⟨go7, (x5_1 : Int).toNat * 4 + 2, none⟩ = some (.int .i64 ((rd_T53 y9300 x5_1).f2)) := hcc7 2 _ rfl; have hx7_3 : w9300.cell? ⟨go7, (x5_1 : Int).toNat * 4 + 3, none⟩ = some (.int .i64 ((rd_T53 y9300 x5_1).f3)) := hcc7 3 _ rfl; have hf7_0 : w9300.frozen? ⟨go7, (x5_1 : Int).toNat * 4, none⟩ = false := hfr7 0; have hf7_1 : w9300.frozen? ⟨go7, (x5_1 : Int).toNat * 4 + 1, none⟩ = false := hfr7 1; have hf7_2 : w9300.frozen? ⟨go7, (x5_1 : Int).toNat * 4 + 2, none⟩ = false := hfr7 2; have hf7_3 : w9300.frozen? ⟨go7, (x5_1 : Int).toNat * 4 + 3, none⟩ = false := hfr7 3; clear hcl7 hcc7 hfr7 hM7; replace p7 := eq_true p7; replace q7 := eq_true q7; have HX10 := Aside0.mk (show Kd.S k53 53 w9300 w0.heap.size (fun k_ => ((fun k_ => (P0_ k_ ∨ w.heap.size ≤ k_))) k_ ∧ ¬ ((fun _ => False)) k_) (.slice (some ⟨go7, 0, none⟩) x0_1.length co9) y9300 from (by (with_reducible repeat (first | apply Kd.S_alloc | apply Kd.S_drewN | apply Kd.S_drew)); exact Kd.S_mono HO_0.out (fun k_ hk => ⟨hk, fun e_ => e_⟩))); obtain ⟨oki10, ce10, hcl10, hM10, hcc10, hfr10, hoki10, hH10⟩ := Kd.S_elem HX10.out z53 (x5_1 : Int) (of_decide_eq_true as_) (by have h_ : (x5_1 : Int) < ((x0_1.length : Int) : Int) := of_decide_eq_true as_; first | exact h_ | (have e_ := (Kd.S_reads' HO_0.out).1; omega) | simpa using h_); obtain ⟨ve10_0, ve10_1, rfl, ge10_0, ge10_1⟩ := k53_openM hM10; have HP10 := Kd.S_seg hH10 (of_decide_eq_true as_) (by have h_ : (x5_1 : Int) < ((x0_1.length : Int) : Int) := of_decide_eq_true as_; first | exact h_ | (have e_ := (Kd.S_reads' HO_0.out).1; omega) | simpa using h_) (seg := [.int .i64 t300]) (j := 2) (show 3 ≤ 4 from by decide) (x' := (⟨(rd_T53 y9300 x5_1).f0, (rd_T53 y9300 x5_1).f1, t300, (rd_T53 y9300 x5_1).f3⟩ : S53)) (k53_mkM _ _ _ (⟨(rd_T53 y9300 x5_1).f0, (rd_T53 y9300 x5_1).f1, t300, (rd_T53 y9300 x5_1).f3⟩ : S53) (Kd.R_mono ge10_0 (fun _ h_ => Or.inl h_)) (Kd.R_mono ge10_1 (fun _ h_ => Or.inl h_))) (fun _ hk => hk) (fun k_ hk_ => hk_.elim); have hx10_2 := hcc10 2 _ rfl; (try simp only [show (k53).sz = 4 from rfl, Nat.mul_one, Nat.add_zero] at hx10_2); have hf10_2 := hfr10 2; (try simp only [show (k53).sz = 4 from rfl, Nat.mul_one, Nat.add_zero] at hf10_2); clear hcl10 hcc10 hfr10 hM10 hoki10 hH10) | ((with_reducible refine gate_store (t := 3) (p := 30) rfl ?_); refine store_event (t := 3) (p := 30) (v := ?vo_w11) (w1 := (w9300.setCell ⟨go7, (x5_1 : Int).toNat * 4 + 2, none⟩ (.int .i64 t300))) ?hg ?ho ?hn ?hr ?_; (case ho => rfl); (case hg => rfl); (case hn => rfl); (case hr => first | (go_simp; done) | (go_simp; rfl)); intro w11 hw; have hg : w9300.grownBy w11 (some go7) := (by rw [hw]; exact HP10.2); have hp_ : Kd.S k53 53 w11 w0.heap.size (fun k_ => (P0_ k_ ∨ w.heap.size ≤ k_)) (.slice (some ⟨go7, 0, none⟩) x0_1.length co9) y301 := (by rw [hw, Ny301.out]; exact HP10.1); clear HP10; have n0_ := Aside0.mk (hp_); have n5_ := Aside0.mk ((by rw [hw]; exact below_set (HB.out) GB7.out : Below w0.heap.size w0 w11)); have n6_ := Aside0.mk (Kept.of_grown (S := (fun k_ => P0_ k_)) hg (by repeat (first | (with_reducible first | exact HK.out | apply Kept.alloc | apply Kept.drewN | apply Kept.drew) | exact HK.out)) (fun k_ e_ => ((Kd.S_R HO_0.out).1 k_ e_))); clear HO_0; clear HB; clear HK; have HO_0 := n0_; have HB := n5_; have HK := n6_; (try clear n0_); (try clear n1_); (try clear n2_); (try clear n3_); (try clear n4_); (try clear n5_); (try clear n6_); clear hg hw hp_; have p8 : 0 ≤ (x5_1 : Int) := of_decide_eq_true as_; have q8 : (x5_1 : Int) < ((x0_1.length : Int) : Int) := of_decide_eq_true as_; obtain ⟨_, ce8, hcl8, hM8, hcc8, hfr8, _, _⟩ := Kd.S_elem HO_0.out z53 (x5_1 : Int) p8 q8; obtain ⟨ve8_0, ve8_1, rfl, ge8_0, ge8_1⟩ := k53_openM hM8; have hx8_0 : w11.cell? ⟨go7, (x5_1 : Int).toNat * 4, none⟩ = some (ve8_0) := hcc8 0 _ rfl; have hx8_1 : w11.cell? ⟨go7, (x5_1 : Int).toNat * 4 + 1, none⟩ = some (ve8_1) := hcc8 1 _ rfl; have hx8_2 : w11.cell? ⟨go7, (x5_1 : Int).toNat * 4 + 2, none⟩ = some (.int .i64 ((rd_T53 y301 x5_1).f2)) := hcc8 2 _ rfl; have hx8_3 : w11.cell? ⟨go7, (x5_1 : Int).toNat * 4 + 3, none⟩ = some (.int .i64 ((rd_T53 y301 x5_1).f3)) := hcc8 3 _ rfl; have hf8_0 : w11.frozen? ⟨go7, (x5_1 : Int).toNat * 4, none⟩ = false := hfr8 0; have hf8_1 : w11.frozen? ⟨go7, (x5_1 : Int).toNat * 4 + 1, none⟩ = false := hfr8 1; have hf8_2 : w11.frozen? ⟨go7, (x5_1 : Int).toNat * 4 + 2, none⟩ = false := hfr8 2; have hf8_3 : w11.frozen? ⟨go7, (x5_1 : Int).toNat * 4 + 3, none⟩ = false := hfr8 3; clear hcl8 hcc8 hfr8 hM8; replace p8 := eq_true p8; replace q8 := eq_true q8; have HX12 := Aside0.mk (show Kd.S k53 53 w11 w0.heap.size (fun k_ => ((fun k_ => (P0_ k_ ∨ w.heap.size ≤ k_))) k_ ∧ ¬ ((fun _ => False)) k_) (.slice (some ⟨go7, 0, none⟩) x0_1.length co9) y301 from (by (with_reducible repeat (first | apply Kd.S_alloc | apply Kd.S_drewN | apply Kd.S_drew)); exact Kd.S_mono HO_0.out (fun k_ hk => ⟨hk, fun e_ => e_⟩))); obtain ⟨oki12, ce12, hcl12, hM12, hcc12, hfr12, hoki12, hH12⟩ := Kd.S_elem HX12.out z53 (x5_1 : Int) (of_decide_eq_true as_) (by have h_ : (x5_1 : Int) < ((x0_1.length : Int) : Int) := of_decide_eq_true as_; first | exact h_ | (have e_ := (Kd.S_reads' HO_0.out).1; omega) | simpa using h_); obtain ⟨ve12_0, ve12_1, rfl, ge12_0, ge12_1⟩ := k53_openM hM12; have HP12 := Kd.S_seg hH12 (of_decide_eq_true as_) (by have h_ : (x5_1 : Int) < ((x0_1.length : Int) : Int) := of_decide_eq_true as_; first | exact h_ | (have e_ := (Kd.S_reads' HO_0.out).1; omega) | simpa using h_) (seg := [.int .i64 (wrap64 (t300 + 1))]) (j := 3) (show 4 ≤ 4 from by decide) (x' := (⟨(rd_T53 y301 x5_1).f0, (rd_T53 y301 x5_1).f1, (rd_T53 y301 x5_1).f2, wrap64 (t300 + 1)⟩ : S53)) (k53_mkM _ _ _ (⟨(rd_T53 y301 x5_1).f0, (rd_T53 y301 x5_1).f1, (rd_T53 y301 x5_1).f2, wrap64 (t300 + 1)⟩ : S53) (Kd.R_mono ge12_0 (fun _ h_ => Or.inl h_)) (Kd.R_mono ge12_1 (fun _ h_ => Or.inl h_))) (fun _ hk => hk) (fun k_ hk_ => hk_.elim); have hx12_3 := hcc12 3 _ rfl; (try simp only [show (k53).sz = 4 from rfl, Nat.mul_one, Nat.add_zero] at hx12_3); have hf12_3 := hfr12 3; (try simp only [show (k53).sz = 4 from rfl, Nat.mul_one, Nat.add_zero] at hf12_3); clear hcl12 hcc12 hfr12 hM12 hoki12 hH12) | ((with_reducible refine gate_store (t := 3) (p := 37) rfl ?_); refine store_event (t := 3) (p := 37) (v := ?vo_w13) (w1 := (w11.setCell ⟨go7, (x5_1 : Int).toNat * 4 + 3, none⟩ (.int .i64 (wrap64 (t300 + 1))))) ?hg ?ho ?hn ?hr ?_; (case ho => rfl); (case hg => rfl); (case hn => rfl); (case hr => first | (go_simp; done) | (go_simp; rfl)); intro w13 hw; have hg : w11.grownBy w13 (some go7) := (by rw [hw]; exact HP12.2); have hp_ : Kd.S k53 53 w13 w0.heap.size (fun k_ => (P0_ k_ ∨ w.heap.size ≤ k_)) (.slice (some ⟨go7, 0, none⟩) x0_1.length co9) y302 := (by rw [hw, Ny302.out]; exact HP12.1); clear HP12; have n0_ := Aside0.mk (hp_); have n5_ := Aside0.mk ((by rw [hw]; exact below_set (HB.out) GB7.out : Below w0.heap.size w0 w13)); have n6_ := Aside0.mk (Kept.of_grown (S := (fun k_ => P0_ k_)) hg (by repeat (first | (with_reducible first | exact HK.out | apply Kept.alloc | apply Kept.drewN | apply Kept.drew) | exact HK.out)) (fun k_ e_ => ((Kd.S_R HO_0.out).1 k_ e_))); clear HO_0; clear HB; clear HK; have HO_0 := n0_; have HB := n5_; have HK := n6_; (try clear n0_); (try clear n1_); (try clear n2_); (try clear n3_); (try clear n4_); (try clear n5_); (try clear n6_); clear hg hw hp_))
 go_roundg k1
 case measure => have := HK1.out; omega
 case rel => exact ⟨(y302), (wrap64 ((wrap64 (t300 + 1)) + 1)), (wrap64 (x5_1 + 1)), (sr_), (sr_), H', ⟨by have := HK1.out; omega⟩, ⟨by (with_reducible repeat (first | apply Kd.S_alloc | apply Kd.S_drewN | apply Kd.S_drew)); exact HO_0.out⟩, ⟨by repeat (first | (with_reducible first | exact HK.out | apply Kept.alloc | apply Kept.drewN | apply Kept.drew) | exact HK.out)⟩, ⟨bl_⟩⟩


def laws_markPolicy.f (k : Nat) (a0_0 : Int) (a0_1 : Int) (a0_2 : Int) (l0_3 : List (S53)) (a1 : Int) : Option (Int × (List (S53))) := (laws_markRuleS.f k l0_3 a1).bind fun bt304 => (some (bt304.1, bt304.2))
theorem laws_markPolicy.mono : ∀ a0 a1 a2 a3 a4 k, LeO (laws_markPolicy.f k a0 a1 a2 a3 a4) (laws_markPolicy.f (k + 1) a0 a1 a2 a3 a4) := by
 intro a0 a1 a2 a3 a4 k
 unfold laws_markPolicy.f
 have m0 := @laws_markRuleS.mono
 exact mo_
theorem sHand_18 {α : Type} {d : Kd α} {e base : Nat} {w : World} {ok : Nat → Prop} {v : Value} {xs : List α} (h : Kd.S d e w base ok v xs) : ∃ P_ : Nat → Prop, Kd.S d e w base P_ v xs ∧ ∀ k, P_ k → ok k ∧ base ≤ k ∧ k < w.heap.size ∧ ∃ q, q ∈ e :: d.E ∧ ∃ cells, w.heap[k]? = some (.cells cells q (0, 0)) := ⟨_, Kd.S_bound h, fun _ hk => hk⟩
theorem sBig_18 {α : Type} {d : Kd α} {e base : Nat} {w : World} {ok : Nat → Prop} {v : Value} {xs : List α} (h : Kd.S d e w base ok v xs) : Kd.S d e w base (fun k => ok k ∧ base ≤ k) v xs := Kd.S_mono (Kd.S_bound h) (fun _ hk => ⟨hk.1, hk.2.1⟩)
theorem sTypes_18 {w : World} {k b : Nat} {L L' : List Nat} (h : k < b ∧ ∃ q, q ∈ L ∧ ∃ cells, w.heap[k]? = some (.cells cells q (0, 0))) (h' : ∃ q, q ∈ L' ∧ ∃ cells, w.heap[k]? = some (.cells cells q (0, 0))) (hn : ∀ q, q ∈ L → ∀ q', q' ∈ L' → q ≠ q') : False := by
 obtain ⟨_, q, hq, c, hc⟩ := h
 obtain ⟨q', hq', c', hc'⟩ := h'
 rw [hc] at hc'
 injection hc' with hc'
 injection hc' with _ hc'
 exact hn q hq q' hq' hc'
theorem laws_markPolicy.calls (k : Nat) (a0_0 : Int) (a0_1 : Int) (a0_2 : Int) (P0_3_ : Nat → Prop) (u9000_ : Value) (l0_3 : List (S53)) (a1 : Int) (r1 : Int) (r2 : List (S53)) (w0 w : World) (hB : Below w0.heap.size w0 w) (ho0_3 : Kd.S k53 53 w w0.heap.size P0_3_ u9000_ l0_3) (h : laws_markPolicy.f k a0_0 a0_1 a0_2 l0_3 a1 = some (r1, r2)) :
 Calls Try.prog 18 #[.agg #[.int .i64 a0_0, .int .i64 a0_1, .int .i64 a0_2, u9000_], .int .i64 a1] w fun e w' => e = .returned (.int .i64 r1) ∧ Kd.S k53 53 w' w0.heap.size (fun k_ => (P0_3_ k_ ∨ w.heap.size ≤ k_)) u9000_ r2 ∧ Below w0.heap.size w0 w' ∧ Kept w w' (fun k_ => P0_3_ k_) := by
 have hu36 := Try.underlying36
 have HO0_3 := Aside0.mk (show Kd.S k53 53 w w0.heap.size (fun k_ => (P0_3_ k_ ∨ w.heap.size ≤ k_)) u9000_ l0_3 from Kd.S_mono ho0_3 (fun k_ hk => (.inl hk)))
 have HK := Aside0.mk (Kept.refl w (fun k_ => P0_3_ k_))
 have HW0 := Aside0.mk hB.size
 have HB := Aside0.mk hB
 clear hB
 have H := h
 unfold laws_markPolicy.f at H
 clear h
 replace H := bs_ H
 obtain ⟨⟨t304, t305⟩, A3, H⟩ := H
 try dsimp only at H
 simp only [Option.some.injEq, Prod.mk.injEq] at H
 obtain ⟨rfl, rfl⟩ := H
 obtain ⟨Ao4, co4, eo4⟩ := Kd.S_slice HO0_3.out
 subst eo4
 go_enter Try.func18, Try.ntmps18
 go_wp2_with (first | ((with_reducible refine gate_dst (N := 2) rfl ?_); refine bx_ 2 36 #[.int .i64 a0_0, .int .i64 a0_1, .int .i64 a0_2, .slice Ao4 l0_3.length co4] ?_; intro gb303 hg w5 hbox hb; replace HO0_3 := Aside0.mk (Kd.S_below (by (with_reducible repeat (first | apply Kd.S_alloc | apply Kd.S_drewN | apply Kd.S_drew)); exact HO0_3.out) hb); have BK303 := Aside0.mk (hbox); have GW303 := Aside0.mk ((by rw [hg]; exact (by first | exact HK.out.1 | exact (show Kept w _ (fun k_ => P0_3_ k_) from by repeat (first | (with_reducible first | exact HK.out | apply Kept.alloc | apply Kept.drewN | apply Kept.drew) | exact HK.out)).1) : w.heap.size ≤ gb303)); replace HK := Aside0.mk (Kept.below (S := (fun k_ => P0_3_ k_)) (by repeat (first | (with_reducible first | exact HK.out | apply Kept.alloc | apply Kept.drewN | apply Kept.drew) | exact HK.out)) hb); have GE303 := Aside0.mk ((hz_ : w0.heap.size ≤ gb303)); replace HB := Aside0.mk (below_step bl_ hb); clear hb hbox hg; obtain ⟨hcz6_0, hcz6_1, hcz6_2, hcz6_3, hfz6_0, hfz6_1, hfz6_2, hfz6_3⟩ := cf4_ BK303.out) | ((with_reducible refine gate_callee (f := 59) rfl ?_); obtain ⟨PS0_3_, hS0_3_, hP0_3_⟩ := sHand_18 (HO0_3.out); refine gs_ (some 8) Try.func59 #[.slice Ao4 l0_3.length co4, .int .i64 a1] ?_; (with_reducible refine (laws_markRuleS.calls k PS0_3_ (.slice Ao4 l0_3.length co4) l0_3 a1 t304 t305 w0 _ ?side1 ?side2 A3.out).mono ?_); (case side1 => repeat (first | (with_reducible first | exact HB.out | apply below_alloc | apply pw_below_drewN | apply below_drew1 | refine below_set ?_ GE303.out) | exact HB.out)); (case side2 => exact hS0_3_); rintro e w7 ⟨rfl, hy0, hb, hkp⟩; refine ⟨_, rfl, ?_⟩; replace HO0_3 := Aside0.mk (Kd.S_mono (ok' := fun k_ => (P0_3_ k_ ∨ w.heap.size ≤ k_)) hy0 (fun k_ hk_ => Or.elim hk_ (fun hs_ => (hP0_3_ _ hs_).1) (fun hn_ => Or.inr (Nat.le_trans (show Kept w _ (fun k_ => P0_3_ k_) from by repeat (first | (with_reducible first | exact HK.out | apply Kept.alloc | apply Kept.drewN | apply Kept.drew | refine Kept.setCell ?_ (.inr GW303.out) _) | exact HK.out)).1 hn_)))); replace HK := Aside0.mk (Kept.then_ (S := (fun k_ => P0_3_ k_)) (by repeat (first | (with_reducible first | exact HK.out | apply Kept.alloc | apply Kept.drewN | apply Kept.drew | refine Kept.setCell ?_ (.inr GW303.out) _) | exact HK.out)) hkp (fun k_ hs_ => (hP0_3_ _ hs_).1)); replace HB := Aside0.mk (hb); (try clear hb); (try clear hkp); (try clear hy0); (try clear PS0_3_ hS0_3_ hP0_3_)))
 go_ret
 exact ⟨er_, by (with_reducible repeat (first | apply Kd.S_alloc | apply Kd.S_drewN | apply Kd.S_drew)); exact HO0_3.out, bl_, by repeat (first | (with_reducible first | exact HK.out | apply Kept.alloc | apply Kept.drewN | apply Kept.drew) | exact HK.out)⟩


def laws_FnExactNumsSaid.j0 : Nat → List Int → List Int → Bool → Int → Int → Int → List (S112) → Option (Bool)
 | 0, _, _, _, _, _, _, _ => none
 | k + 1, x4, x6, x42, x308000, x308001, x308002, x308003 => if x42 = true then (some false) else ((laws_markIntS.f k x6 1).bind fun bt339 => ((laws_heldIntS.f k bt339.2 1).bind fun t341 => (if t341 < 0 then (some false) else (if t341 = bt339.1 then ((laws_toPolicy.f k x308000 x308001 x308002 x308003).bind fun bt342 => ((impl_NumsSaid.f k bt342.1 bt342.2.1 bt342.2.2.1 bt342.2.2.2).bind fun t348 => ((laws_eqIntS.f k t348 x4).bind fun t351 => (if t351 = true then ((laws_heldIntS.f k bt339.2 1).bind fun t352 => (if t352 < 0 then (some false) else (if t352 = bt339.1 then (some true) else (some false)))) else (some false))))) else (some false)))))
def laws_FnExactNumsSaid.f (k : Nat) (a0_0 : Int) (a0_1 : Int) (a0_2 : Int) (l0_3 : List (S112)) : Option (Bool) := (laws_szPolicy.f k a0_0 a0_1 a0_2 l0_3 1048576).bind fun t308 => (if t308 < 0 then (some true) else ((laws_toPolicy.f k a0_0 a0_1 a0_2 l0_3).bind fun bt309 => ((spec_NumsSaid.f k bt309.1 bt309.2.1 bt309.2.2.1 bt309.2.2.2).bind fun t315 => ((laws_toPolicy.f k a0_0 a0_1 a0_2 l0_3).bind fun bt318 => ((impl_NumsSaid.f k bt318.1 bt318.2.1 bt318.2.2.1 bt318.2.2.2).bind fun t325 => ((laws_eqIntS.f k t325 t315).bind fun t328 => (if t328 = true then ((laws_toPolicy.f k a0_0 a0_1 a0_2 l0_3).bind fun bt329 => ((laws_eqPolicy.f k bt318.1 bt318.2.1 bt318.2.2.1 bt318.2.2.2 bt329.1 bt329.2.1 bt329.2.2.1 bt329.2.2.2).bind fun t335 => (if t335 = true then ((laws_markPolicy.f k bt318.1 bt318.2.1 bt318.2.2.1 bt318.2.2.2 1).bind fun bt336 => (if bt336.1 < 0 then (laws_FnExactNumsSaid.j0 k t315 t325 true a0_0 a0_1 a0_2 l0_3) else ((laws_eqIntS.f k t325 t315).bind fun t338 => (laws_FnExactNumsSaid.j0 k t315 t325 (!t338) a0_0 a0_1 a0_2 l0_3)))) else (some false)))) else (some false))))))))
theorem laws_FnExactNumsSaid.mono_l : ∀ k, (∀ y0 y1 y2 y3 y4 y5 y6, LeO (laws_FnExactNumsSaid.j0 k y0 y1 y2 y3 y4 y5 y6) (laws_FnExactNumsSaid.j0 (k + 1) y0 y1 y2 y3 y4 y5 y6))
 | 0 => fun _ _ _ _ _ _ _ r h => by simp [laws_FnExactNumsSaid.j0] at h
 | k + 1 => by
  have ih0 := laws_FnExactNumsSaid.mono_l k
  ·intro y0 y1 y2 y3 y4 y5 y6
   unfold laws_FnExactNumsSaid.j0
   have m0 := @impl_NumsSaid.mono
   have m1 := @laws_eqIntS.mono
   have m2 := @laws_eqPolicy.mono
   have m3 := @laws_heldIntS.mono
   have m4 := @laws_markIntS.mono
   have m5 := @laws_markPolicy.mono
   have m6 := @laws_szPolicy.mono
   have m7 := @laws_toPolicy.mono
   have m8 := @spec_NumsSaid.mono
   exact mo_
theorem laws_FnExactNumsSaid.mono : ∀ a0 a1 a2 a3 k, LeO (laws_FnExactNumsSaid.f k a0 a1 a2 a3) (laws_FnExactNumsSaid.f (k + 1) a0 a1 a2 a3) := by
 intro a0 a1 a2 a3 k
 have ih0 := laws_FnExactNumsSaid.mono_l k
 unfold laws_FnExactNumsSaid.f
 have m0 := @impl_NumsSaid.mono
 have m1 := @laws_eqIntS.mono
 have m2 := @laws_eqPolicy.mono
 have m3 := @laws_heldIntS.mono
 have m4 := @laws_markIntS.mono
 have m5 := @laws_markPolicy.mono
 have m6 := @laws_szPolicy.mono
 have m7 := @laws_toPolicy.mono
 have m8 := @spec_NumsSaid.mono
 exact mo_
theorem sHand_4 {α : Type} {d : Kd α} {e base : Nat} {w : World} {ok : Nat → Prop} {v : Value} {xs : List α} (h : Kd.S d e w base ok v xs) : ∃ P_ : Nat → Prop, Kd.S d e w base P_ v xs ∧ ∀ k, P_ k → ok k ∧ base ≤ k ∧ k < w.heap.size ∧ ∃ q, q ∈ e :: d.E ∧ ∃ cells, w.heap[k]? = some (.cells cells q (0, 0)) := ⟨_, Kd.S_bound h, fun _ hk => hk⟩
theorem sBig_4 {α : Type} {d : Kd α} {e base : Nat} {w : World} {ok : Nat → Prop} {v : Value} {xs : List α} (h : Kd.S d e w base ok v xs) : Kd.S d e w base (fun k => ok k ∧ base ≤ k) v xs := Kd.S_mono (Kd.S_bound h) (fun _ hk => ⟨hk.1, hk.2.1⟩)
theorem sTypes_4 {w : World} {k b : Nat} {L L' : List Nat} (h : k < b ∧ ∃ q, q ∈ L ∧ ∃ cells, w.heap[k]? = some (.cells cells q (0, 0))) (h' : ∃ q, q ∈ L' ∧ ∃ cells, w.heap[k]? = some (.cells cells q (0, 0))) (hn : ∀ q, q ∈ L → ∀ q', q' ∈ L' → q ≠ q') : False := by
 obtain ⟨_, q, hq, c, hc⟩ := h
 obtain ⟨q', hq', c', hc'⟩ := h'
 rw [hc] at hc'
 injection hc' with hc'
 injection hc' with _ hc'
 exact hn q hq q' hq' hc'
theorem laws_FnExactNumsSaid.calls (k : Nat) (a0_0 : Int) (a0_1 : Int) (a0_2 : Int) (A0_3 : Option Addr) (c0_3 : Nat) (l0_3 : List (S112)) (r : Bool) (w : World) (hr0_3 : Kd.C k112 w A0_3 l0_3.length l0_3) (hc0_3 : l0_3.length ≤ c0_3) (hrt : r = true) (h : laws_FnExactNumsSaid.f k a0_0 a0_1 a0_2 l0_3 = some r) :
 Calls Try.prog 4 #[.agg #[.int .i64 a0_0, .int .i64 a0_1, .int .i64 a0_2, .slice A0_3 l0_3.length c0_3]] w fun e w' => e = .returned (.bool r) ∧ Below w.heap.size w w' := by
 have hu30 := Try.underlying30
 have hu36 := Try.underlying36
 have HR0_3 := Aside0.mk hr0_3
 have HC0_3 := Aside0.mk hc0_3
 clear hr0_3 hc0_3
 have HRt := Aside0.mk hrt
 clear hrt
 have HB := Aside0.mk (Below.refl w.heap.size w)
 have H := h
 unfold laws_FnExactNumsSaid.f at H
 clear h
 replace H := bs_ H
 obtain ⟨t308, A2, H⟩ := H
 try dsimp only at H
 by_cases c3 : t308 < 0
 ·rw [if_pos c3] at H
  have c3b0 := decide_eq_true c3
  clear c3
  obtain rfl := Option.some.inj H
  go_enter Try.func4, Try.ntmps4
  go_wp2_with (first | ((with_reducible refine gate_dst (N := 1) rfl ?_); refine bx_ 1 30 #[.int .i64 a0_0, .int .i64 a0_1, .int .i64 a0_2, .slice A0_3 l0_3.length c0_3] ?_; intro gb307 hg w4 hbox hb; have BK307 := Aside0.mk (hbox); have GW307 := Aside0.mk ((hz_ : w.heap.size ≤ gb307)); have GE307 := Aside0.mk ((hz_ : w.heap.size ≤ gb307)); replace HB := Aside0.mk (below_step bl_ hb); clear hb hbox hg; obtain ⟨hcz5_0, hcz5_1, hcz5_2, hcz5_3, hfz5_0, hfz5_1, hfz5_2, hfz5_3⟩ := cf4_ BK307.out) | ((with_reducible refine gate_callee (f := 12) rfl ?_); refine gs_ (some 13) Try.func12 #[.agg #[.int .i64 a0_0, .int .i64 a0_1, .int .i64 a0_2, .slice A0_3 l0_3.length c0_3], .int .i64 1048576] ?_; (with_reducible refine (laws_szPolicy.calls k a0_0 a0_1 a0_2 _ _ l0_3 1048576 t308 _ ?side1 ?side2 A2.out).mono ?_); (case side1 => exact cb_ HR0_3.out HB.out); (case side2 => exact HC0_3.out); rintro e w6 ⟨rfl, hb⟩; refine ⟨_, rfl, ?_⟩; replace BK307 := Aside0.mk (blk_below (bn0_ BK307.out) hb); replace HB := Aside0.mk (below_step bl_ hb); (try clear hb)))
  go_ret
  exact ⟨er_, bl_⟩
 rw [if_neg c3] at H
 have c3b0 := decide_eq_false c3
 clear c3
 replace H := bs_ H
 obtain ⟨⟨t309, t310, t311, t312⟩, A7, H⟩ := H
 try dsimp only at H
 replace H := bs_ H
 obtain ⟨t315, A8, H⟩ := H
 try dsimp only at H
 replace H := bs_ H
 obtain ⟨⟨t318, t319, t320, t321⟩, A9, H⟩ := H
 try dsimp only at H
 replace H := bs_ H
 obtain ⟨t325, A10, H⟩ := H
 try dsimp only at H
 replace H := bs_ H
 obtain ⟨t328, A11, H⟩ := H
 try dsimp only at H
 by_cases c12 : t328 = true
 rotate_left
 ·replace c12 := Bool.eq_false_iff.mpr c12
  subst c12
  rw [nf_] at H
  exact absurd ((Option.some.inj H).trans HRt.out) (by decide)
 subst c12
 rw [if_pos rfl] at H
 replace H := bs_ H
 obtain ⟨⟨t329, t330, t331, t332⟩, A13, H⟩ := H
 try dsimp only at H
 replace H := bs_ H
 obtain ⟨t335, A14, H⟩ := H
 try dsimp only at H
 by_cases c15 : t335 = true
 rotate_left
 ·replace c15 := Bool.eq_false_iff.mpr c15
  subst c15
  rw [nf_] at H
  exact absurd ((Option.some.inj H).trans HRt.out) (by decide)
 subst c15
 rw [if_pos rfl] at H
 replace H := bs_ H
 obtain ⟨⟨t336, t337⟩, A16, H⟩ := H
 try dsimp only at H
 have HC17 := Aside0.mk H
 clear H
 go_enter Try.func4, Try.ntmps4
 try go_wp2_with (first | ((with_reducible refine gate_dst (N := 1) rfl ?_); refine bx_ 1 30 #[.int .i64 a0_0, .int .i64 a0_1, .int .i64 a0_2, .slice A0_3 l0_3.length c0_3] ?_; intro gb307 hg w18 hbox hb; have BK307 := Aside0.mk (hbox); have GW307 := Aside0.mk ((hz_ : w.heap.size ≤ gb307)); have GE307 := Aside0.mk ((hz_ : w.heap.size ≤ gb307)); replace HB := Aside0.mk (below_step bl_ hb); clear hb hbox hg; obtain ⟨hcz19_0, hcz19_1, hcz19_2, hcz19_3, hfz19_0, hfz19_1, hfz19_2, hfz19_3⟩ := cf4_ BK307.out) | ((with_reducible refine gate_callee (f := 12) rfl ?_); refine gs_ (some 13) Try.func12 #[.agg #[.int .i64 a0_0, .int .i64 a0_1, .int .i64 a0_2, .slice A0_3 l0_3.length c0_3], .int .i64 1048576] ?_; (with_reducible refine (laws_szPolicy.calls k a0_0 a0_1 a0_2 _ _ l0_3 1048576 t308 _ ?side1 ?side2 A2.out).mono ?_); (case side1 => exact cb_ HR0_3.out HB.out); (case side2 => exact HC0_3.out); rintro e w20 ⟨rfl, hb⟩; refine ⟨_, rfl, ?_⟩; replace BK307 := Aside0.mk (blk_below (bn0_ BK307.out) hb); replace HB := Aside0.mk (below_step bl_ hb); (try clear hb); obtain ⟨hcz21_0, hcz21_1, hcz21_2, hcz21_3, hfz21_0, hfz21_1, hfz21_2, hfz21_3⟩ := cf4_ BK307.out) | ((with_reducible refine gate_callee (f := 14) rfl ?_); refine gs_ (some 17) Try.func14 #[.agg #[.int .i64 a0_0, .int .i64 a0_1, .int .i64 a0_2, .slice A0_3 l0_3.length c0_3]] ?_; (with_reducible refine (laws_toPolicy.calls k a0_0 a0_1 a0_2 _ _ l0_3 t309 t310 t311 t312 _ ?side1 ?side2 A7.out).mono ?_); (case side1 => exact cb_ HR0_3.out HB.out); (case side2 => exact HC0_3.out); rintro e w22 ⟨v313, rfl, ho0, hb⟩; refine ⟨_, rfl, ?_⟩; have HO314 := Aside0.mk (Kd.S_lower ho0 (below_size bl_)); replace BK307 := Aside0.mk (blk_below (bn0_ BK307.out) hb); replace HB := Aside0.mk (below_step bl_ hb); (try clear hb); (try clear ho0); obtain ⟨Ao23, co23, eo23⟩ := Kd.S_slice HO314.out; subst eo23) | ((with_reducible refine gate_callee (f := 13) rfl ?_); refine gs_ (some 18) Try.func13 #[.agg #[.int .i64 t309, .int .i64 t310, .int .i64 t311, .slice Ao23 t312.length co23]] ?_; (with_reducible refine (spec_NumsSaid.calls k t309 t310 t311 _ _ t312 t315 _ ?side1 ?side2 A8.out).mono ?_); (case side1 => exact cs_ ((Kd.S_reads' HO314.out).2.2)); (case side2 => exact (Kd.S_reads' HO314.out).2.1); rintro e w24 ⟨v316, rfl, ho0, hb⟩; refine ⟨_, rfl, ?_⟩; replace HO314 := Aside0.mk (Kd.S_elder' (by (with_reducible repeat (first | apply Kd.S_alloc | apply Kd.S_drewN | apply Kd.S_drew)); exact HO314.out) (Kd.R_base ho0) hb); have HO317 := Aside0.mk (Kd.R_lower ho0 (below_size bl_)); replace BK307 := Aside0.mk (blk_below (bn0_ BK307.out) hb); replace HB := Aside0.mk (below_step bl_ hb); (try clear hb); (try clear ho0); obtain ⟨hcz25_0, hcz25_1, hcz25_2, hcz25_3, hfz25_0, hfz25_1, hfz25_2, hfz25_3⟩ := cf4_ BK307.out) | ((with_reducible refine gate_callee (f := 14) rfl ?_); refine gs_ (some 20) Try.func14 #[.agg #[.int .i64 a0_0, .int .i64 a0_1, .int .i64 a0_2, .slice A0_3 l0_3.length c0_3]] ?_; (with_reducible refine (laws_toPolicy.calls k a0_0 a0_1 a0_2 _ _ l0_3 t318 t319 t320 t321 _ ?side1 ?side2 A9.out).mono ?_); (case side1 => exact cb_ HR0_3.out HB.out); (case side2 => exact HC0_3.out); rintro e w26 ⟨v322, rfl, ho0, hb⟩; refine ⟨_, rfl, ?_⟩; have HO323 := Aside0.mk (Kd.S_lower (sBig_4 (Kd.S_new' (Kd.S_new' ho0 (Kd.S_lt (by (with_reducible repeat (first | apply Kd.S_alloc | apply Kd.S_drewN | apply Kd.S_drew)); exact HO314.out))) (Kd.R_lt (ra_ HO317.out)))) (below_size bl_)); replace HO314 := Aside0.mk (Kd.S_told (Kd.S_old (by (with_reducible repeat (first | apply Kd.S_alloc | apply Kd.S_drewN | apply Kd.S_drew)); exact HO314.out) hb) (Kd.S_base ho0)); replace HO317 := Aside0.mk (Kd.R_below (ra_ HO317.out) hb); replace BK307 := Aside0.mk (blk_below (bn0_ BK307.out) hb); replace HB := Aside0.mk (below_step bl_ hb); (try clear hb); (try clear ho0)) | ((with_reducible refine gate_dst (N := 5) rfl ?_); refine bx_ 5 36 #[.int .i64 0, .int .i64 0, .int .i64 0, .slice none 0 0] ?_; intro gb324 hg w27 hbox hb; replace HO314 := Aside0.mk (Kd.S_below (by (with_reducible repeat (first | apply Kd.S_alloc | apply Kd.S_drewN | apply Kd.S_drew)); exact HO314.out) hb); replace HO317 := Aside0.mk (Kd.R_below (ra_ HO317.out) hb); replace HO323 := Aside0.mk (Kd.S_below (by (with_reducible repeat (first | apply Kd.S_alloc | apply Kd.S_drewN | apply Kd.S_drew)); exact HO323.out) hb); have BK324 := Aside0.mk (hbox); have GW324 := Aside0.mk ((hz_ : w.heap.size ≤ gb324)); have GE324 := Aside0.mk ((hz_ : w.heap.size ≤ gb324)); replace HB := Aside0.mk (below_step bl_ hb); have NB307_324 := Aside0.mk ((by rw [hg]; exact Nat.ne_of_lt (blk_lt (g := gb307) (o := .cells #[.int .i64 a0_0, .int .i64 a0_1, .int .i64 a0_2, .slice A0_3 l0_3.length c0_3] 30 (0, 0)) (bk_ BK307.out)) : gb307 ≠ gb324)); have NB324_307 := Aside0.mk ((by rw [hg]; exact Nat.ne_of_gt (blk_lt (g := gb307) (o := .cells #[.int .i64 a0_0, .int .i64 a0_1, .int .i64 a0_2, .slice A0_3 l0_3.length c0_3] 30 (0, 0)) (bk_ BK307.out)) : gb324 ≠ gb307)); replace BK307 := Aside0.mk (blk_below (bn0_ BK307.out) hb); clear hb hbox hg; have hnb28 := NB324_307.out; have hnc28 := NB307_324.out; obtain ⟨hcz29_0, hcz29_1, hcz29_2, hcz29_3, hfz29_0, hfz29_1, hfz29_2, hfz29_3⟩ := cf4_ BK324.out; obtain ⟨Ao30, co30, eo30⟩ := Kd.S_slice HO323.out; subst eo30) | ((with_reducible refine gate_callee (f := 15) rfl ?_); refine gs_ (some 22) Try.func15 #[.agg #[.int .i64 t318, .int .i64 t319, .int .i64 t320, .slice Ao30 t321.length co30]] ?_; (with_reducible refine (impl_NumsSaid.calls k t318 t319 t320 _ _ t321 t325 _ ?side1 ?side2 A10.out).mono ?_); (case side1 => refine (Kd.S_reads' (e := 53) (base := w.heap.size) (ok := fun k_ => (((True ∧ some k_ ≠ (.slice Ao23 t312.length co23 : Value).ownBlock) ∧ some k_ ≠ (v316 : Value).ownBlock) ∧ w24.heap.size ≤ k_)) (n := t321.length) (c := co30) ?_).2.2; exact (sfa_ HO323.out BK324.out)); (case side2 => exact (Kd.S_reads' HO323.out).2.1); rintro e w31 ⟨v326, rfl, ho0, hb⟩; refine ⟨_, rfl, ?_⟩; replace HO314 := Aside0.mk (Kd.S_elder' (sfa_ HO314.out BK324.out) (Kd.R_base ho0) hb); replace HO323 := Aside0.mk (Kd.S_elder' (sfa_ HO323.out BK324.out) (Kd.R_base ho0) hb); have HO327 := Aside0.mk (Kd.R_lower (Kd.R_new' ho0 (Kd.R_lt (rfa_ HO317.out BK324.out))) (below_size bl_)); replace HO317 := Aside0.mk (Kd.R_elder' (rfa_ HO317.out BK324.out) (Kd.R_base ho0) hb); replace BK307 := Aside0.mk (blk_below (bn1_ BK307.out NB307_324.out) hb); replace BK324 := Aside0.mk (blk_below (g := gb324) (o := .cells #[.int .i64 t318, .int .i64 t319, .int .i64 t320, .slice Ao30 t321.length co30] 36 (0, 0)) (bp0_ BK324.out) hb); replace HB := Aside0.mk (below_step bl_ hb); (try clear hb); (try clear ho0); obtain ⟨Ao32, co32, eo32⟩ := Kd.R_slice HO327.out; subst eo32; obtain ⟨Ao33, co33, eo33⟩ := Kd.R_slice HO317.out; subst eo33) | ((with_reducible refine gate_callee (f := 16) rfl ?_); refine gs_ (some 25) Try.func16 #[.slice Ao32 t325.length co32, .slice Ao33 t315.length co33] ?_; (with_reducible refine (laws_eqIntS.calls k _ _ t325 _ _ t315 true _ ?side1 ?side2 ?side3 ?side4 A11.out).mono ?_); (case side1 => exact cs_ ((Kd.R_reads' HO327.out).2.2)); (case side2 => exact (Kd.R_reads' HO327.out).2.1); (case side3 => exact cs_ ((Kd.R_reads' HO317.out).2.2)); (case side4 => exact (Kd.R_reads' HO317.out).2.1); rintro e w' ⟨rfl, ⟨nd, rfl⟩⟩; refine ⟨_, rfl, ?_⟩))
 (try (rw [drewN_self w31]; generalize hq_ : World.drewN w31 _ = w31; have n0_ : Aside0 (Kd.S k53 53 w31 w.heap.size (fun k_ => some k_ ≠ (.slice Ao33 t315.length co33 : Value).ownBlock ∧ some k_ ≠ (.slice Ao30 t321.length co30 : Value).ownBlock ∧ some k_ ≠ (.slice Ao32 t325.length co32 : Value).ownBlock ∧ k_ < w24.heap.size) (.slice Ao23 t312.length co23) t312) := ⟨by rw [← hq_]; exact (by (with_reducible repeat (first | apply Kd.S_alloc | apply Kd.S_drewN | apply Kd.S_drew)); exact Kd.S_mono HO314.out (fun _ hk => ⟨hk.1.1.1.2, ⟨hk.1.1.2, ⟨hk.2, hk.1.2⟩⟩⟩))⟩; have n1_ : Aside0 (Kd.R (Kd.int .i64) 3 w31 w.heap.size (fun k_ => some k_ ≠ (.slice Ao32 t325.length co32 : Value).ownBlock) (.slice Ao33 t315.length co33) t315) := ⟨by rw [← hq_]; exact (by (with_reducible repeat (first | apply Kd.R_alloc | apply Kd.R_drewN | apply Kd.R_drew)); exact Kd.R_mono HO317.out (fun _ hk => hk.2))⟩; have n2_ : Aside0 (Kd.S k53 53 w31 w.heap.size (fun k_ => some k_ ≠ (.slice Ao23 t312.length co23 : Value).ownBlock ∧ some k_ ≠ (.slice Ao33 t315.length co33 : Value).ownBlock ∧ some k_ ≠ (.slice Ao32 t325.length co32 : Value).ownBlock ∧ w24.heap.size ≤ k_) (.slice Ao30 t321.length co30) t321) := ⟨by rw [← hq_]; exact (by (with_reducible repeat (first | apply Kd.S_alloc | apply Kd.S_drewN | apply Kd.S_drew)); exact Kd.S_mono HO323.out (fun _ hk => ⟨hk.1.1.1.2, ⟨hk.1.1.2, ⟨hk.2, hk.1.2⟩⟩⟩))⟩; have n3_ : Aside0 (Kd.R (Kd.int .i64) 3 w31 w.heap.size (fun k_ => some k_ ≠ (.slice Ao33 t315.length co33 : Value).ownBlock) (.slice Ao32 t325.length co32) t325) := ⟨by rw [← hq_]; exact (by (with_reducible repeat (first | apply Kd.R_alloc | apply Kd.R_drewN | apply Kd.R_drew)); exact Kd.R_mono HO327.out (fun _ hk => hk.2))⟩; have n4_ : Aside0 (w31.heap[gb307]? = some (.cells #[.int .i64 a0_0, .int .i64 a0_1, .int .i64 a0_2, .slice A0_3 l0_3.length c0_3] 30 (0, 0))) := ⟨by rw [← hq_]; exact (bk_ BK307.out)⟩; have n5_ : Aside0 (w31.heap[gb324]? = some (.cells #[.int .i64 t318, .int .i64 t319, .int .i64 t320, .slice Ao30 t321.length co30] 36 (0, 0))) := ⟨by rw [← hq_]; exact (bk_ BK324.out)⟩; have n6_ : Aside0 (Below w.heap.size w w31) := ⟨by rw [← hq_]; exact bl_⟩; clear HO314 HO317 HO323 HO327 BK307 BK324 HB hq_; have HO314 := n0_; have HO317 := n1_; have HO323 := n2_; have HO327 := n3_; have BK307 := n4_; have BK324 := n5_; have HB := n6_; clear n0_ n1_ n2_ n3_ n4_ n5_ n6_))
 have n0_ := Aside0.mk (Kd.S_drew HO314.out)
 have n1_ := Aside0.mk (Kd.R_drew HO317.out)
 have n2_ := Aside0.mk (Kd.S_drew HO323.out)
 have n3_ := Aside0.mk (Kd.R_drew HO327.out)
 have n4_ := Aside0.mk (blk_drew BK307.out)
 have n5_ := Aside0.mk (blk_drew BK324.out)
 have n6_ := Aside0.mk (below_drew1 HB.out)
 clear HO314
 clear HO317
 clear HO323
 clear HO327
 clear BK307
 clear BK324
 clear HB
 have HO314 := n0_
 have HO317 := n1_
 have HO323 := n2_
 have HO327 := n3_
 have BK307 := n4_
 have BK324 := n5_
 have HB := n6_
 clear n0_ n1_ n2_ n3_ n4_ n5_ n6_
 refine start_ (n := 5) (S := fun w' => w'.cell? ⟨gb324, 0, none⟩ = some (.int .i64 t318) ∧ w'.cell? ⟨gb324, 1, none⟩ = some (.int .i64 t319) ∧ w'.cell? ⟨gb324, 2, none⟩ = some (.int .i64 t320) ∧ w'.cell? ⟨gb324, 3, none⟩ = some (.slice Ao30 t321.length co30) ∧ w'.cell? ⟨gb307, 0, none⟩ = some (.int .i64 a0_0) ∧ w'.cell? ⟨gb307, 1, none⟩ = some (.int .i64 a0_1) ∧ w'.cell? ⟨gb307, 2, none⟩ = some (.int .i64 a0_2) ∧ w'.cell? ⟨gb307, 3, none⟩ = some (.slice A0_3 l0_3.length c0_3)) (ds := []) #[false, false, false, false, false] (by kernel_rfl) rfl rfl ⟨(blk_cell BK324.out 0).trans rfl, (blk_cell BK324.out 1).trans rfl, (blk_cell BK324.out 2).trans rfl, (blk_cell BK324.out 3).trans rfl, (blk_cell BK307.out 0).trans rfl, (blk_cell BK307.out 1).trans rfl, (blk_cell BK307.out 2).trans rfl, (blk_cell BK307.out 3).trans rfl⟩ (fun hHeld => ?_)
 generalize w31.drew = w34 at HO314 HO317 HO323 HO327 BK307 BK324 HB hHeld ⊢
 refine take_ (i := 0) (N := some 27) (v := ?_) (a' := ?_) #[true, false, false, false, false] rfl rfl (by kernel_rfl) (fun _ _ _ h => h) (Or.inl ⟨by rfl, ?_⟩) hHeld ?_ ?_
 rotate_left
 ·rintro w' ⟨s0, s1, s2, s3, s4, s5, s6, s7⟩
  go_simp
  with_reducible rfl
 rotate_left
 ·simp only [Act.put, List.setIfInBounds_toArray, List.set_cons_zero, List.set_cons_succ, i64_w, i32_w]
  rfl
 refine take_ (i := 1) (N := some 28) (v := ?_) (a' := ?_) #[true, true, false, false, false] rfl rfl (by kernel_rfl) (fun _ _ _ h => h) (Or.inl ⟨by rfl, ?_⟩) hHeld ?_ ?_
 rotate_left
 ·rintro w' ⟨s0, s1, s2, s3, s4, s5, s6, s7⟩
  go_simp
  with_reducible rfl
 rotate_left
 ·simp only [Act.put, List.setIfInBounds_toArray, List.set_cons_zero, List.set_cons_succ, i64_w, i32_w]
  rfl
 refine one_ (i := 2) (N := some 29) #[true, true, true, false, false] rfl rfl (by kernel_rfl) (by decide) (fun K hK => ?_)
 refine goes_ Try.func14 (by kernel_rfl) rfl #[.agg #[.int .i64 a0_0, .int .i64 a0_1, .int .i64 a0_2, .slice A0_3 l0_3.length c0_3]] (by rfl) rfl rfl lm_ ?_
 with_reducible refine (laws_toPolicy.calls k a0_0 a0_1 a0_2 _ _ l0_3 t329 t330 t331 t332 _ ?side1 ?side2 A13.out).mono ?_
 (case side1 => exact cb_ HR0_3.out HB.out)
 (case side2 => exact HC0_3.out)
 rintro e w35 ⟨v333, rfl, ho0, hb⟩
 refine ⟨_, rfl, ?_⟩
 have n0_ := Aside0.mk (Kd.S_told (Kd.S_old (by (with_reducible repeat (first | apply Kd.S_alloc | apply Kd.S_drewN | apply Kd.S_drew)); exact HO314.out) hb) (Kd.S_base ho0))
 have n1_ := Aside0.mk (Kd.R_below (ra_ HO317.out) hb)
 have n2_ := Aside0.mk (Kd.S_told (Kd.S_old (by (with_reducible repeat (first | apply Kd.S_alloc | apply Kd.S_drewN | apply Kd.S_drew)); exact HO323.out) hb) (Kd.S_base ho0))
 have n3_ := Aside0.mk (Kd.R_below (ra_ HO327.out) hb)
 have n4_ := Aside0.mk (Kd.S_lower (sBig_4 (Kd.S_new' (Kd.S_new' (Kd.S_new' (Kd.S_new' ho0 (Kd.S_lt (by (with_reducible repeat (first | apply Kd.S_alloc | apply Kd.S_drewN | apply Kd.S_drew)); exact HO314.out))) (Kd.R_lt (ra_ HO317.out))) (Kd.S_lt (by (with_reducible repeat (first | apply Kd.S_alloc | apply Kd.S_drewN | apply Kd.S_drew)); exact HO323.out))) (Kd.R_lt (ra_ HO327.out)))) (below_size bl_))
 have n5_ := Aside0.mk (blk_below (bn0_ BK307.out) hb)
 have n6_ := Aside0.mk (blk_below (bn0_ BK324.out) hb)
 have n7_ := Aside0.mk (below_step bl_ hb)
 clear HO314
 clear HO317
 clear HO323
 clear HO327
 clear BK307
 clear BK324
 clear HB
 have HO314 := n0_
 have HO317 := n1_
 have HO323 := n2_
 have HO327 := n3_
 have HO334 := n4_
 have BK307 := n5_
 have BK324 := n6_
 have HB := n7_
 clear n0_ n1_ n2_ n3_ n4_ n5_ n6_ n7_
 (try clear hb)
 (try clear hb2)
 (try clear hk)
 (try clear hi)
 (try clear ho0)
 obtain ⟨Ao36, co36, eo36⟩ := Kd.S_slice HO334.out
 (first | subst eo36 | (injection eo36 with f1_ f2_ f3_; have f4_ := f1_.symm; have f5_ := f3_.symm; clear f1_ f2_ f3_; subst f4_; subst f5_))
 refine hK.out _ _ ⟨(blk_cell BK324.out 0).trans rfl, (blk_cell BK324.out 1).trans rfl, (blk_cell BK324.out 2).trans rfl, (blk_cell BK324.out 3).trans rfl, (blk_cell BK307.out 0).trans rfl, (blk_cell BK307.out 1).trans rfl, (blk_cell BK307.out 2).trans rfl, (blk_cell BK307.out 3).trans rfl⟩ (fun hHeld => ?_)
 clear hK K
 refine norm_ (a' := ?_) ?_ ?_
 rotate_left
 ·show Act.put _ (some 29) _ = _
  simp only [Act.put, List.setIfInBounds_toArray, List.set_cons_zero, List.set_cons_succ, i64_w, i32_w]
  rfl
 refine one_ (i := 3) (N := some 30) #[true, true, true, true, false] rfl rfl (by kernel_rfl) (by decide) (fun K hK => ?_)
 refine goes_ Try.func17 (by kernel_rfl) rfl #[.agg #[.int .i64 t318, .int .i64 t319, .int .i64 t320, .slice Ao30 t321.length co30], .agg #[.int .i64 t329, .int .i64 t330, .int .i64 t331, .slice Ao36 t332.length co36]] (by rfl) rfl rfl lm_ ?_
 with_reducible refine (laws_eqPolicy.calls k t318 t319 t320 _ _ t321 t329 t330 t331 _ _ t332 true _ ?side1 ?side2 ?side3 ?side4 A14.out).mono ?_
 (case side1 => exact cs_ ((Kd.S_reads' HO323.out).2.2))
 (case side2 => exact (Kd.S_reads' HO323.out).2.1)
 (case side3 => exact cs_ ((Kd.S_reads' HO334.out).2.2))
 (case side4 => exact (Kd.S_reads' HO334.out).2.1)
 rintro e w37 ⟨rfl, hb⟩
 refine ⟨_, rfl, ?_⟩
 have n0_ := Aside0.mk (Kd.S_below (by (with_reducible repeat (first | apply Kd.S_alloc | apply Kd.S_drewN | apply Kd.S_drew)); exact HO314.out) hb)
 have n1_ := Aside0.mk (Kd.R_below (ra_ HO317.out) hb)
 have n2_ := Aside0.mk (Kd.S_below (by (with_reducible repeat (first | apply Kd.S_alloc | apply Kd.S_drewN | apply Kd.S_drew)); exact HO323.out) hb)
 have n3_ := Aside0.mk (Kd.R_below (ra_ HO327.out) hb)
 have n4_ := Aside0.mk (Kd.S_below (by (with_reducible repeat (first | apply Kd.S_alloc | apply Kd.S_drewN | apply Kd.S_drew)); exact HO334.out) hb)
 have n5_ := Aside0.mk (blk_below (bn0_ BK307.out) hb)
 have n6_ := Aside0.mk (blk_below (bn0_ BK324.out) hb)
 have n7_ := Aside0.mk (below_step bl_ hb)
 clear HO314
 clear HO317
 clear HO323
 clear HO327
 clear HO334
 clear BK307
 clear BK324
 clear HB
 have HO314 := n0_
 have HO317 := n1_
 have HO323 := n2_
 have HO327 := n3_
 have HO334 := n4_
 have BK307 := n5_
 have BK324 := n6_
 have HB := n7_
 clear n0_ n1_ n2_ n3_ n4_ n5_ n6_ n7_
 (try clear hb)
 (try clear hb2)
 (try clear hk)
 (try clear hi)
 refine hK.out _ _ ⟨(blk_cell BK324.out 0).trans rfl, (blk_cell BK324.out 1).trans rfl, (blk_cell BK324.out 2).trans rfl, (blk_cell BK324.out 3).trans rfl, (blk_cell BK307.out 0).trans rfl, (blk_cell BK307.out 1).trans rfl, (blk_cell BK307.out 2).trans rfl, (blk_cell BK307.out 3).trans rfl⟩ (fun hHeld => ?_)
 clear hK K
 refine norm_ (a' := ?_) ?_ ?_
 rotate_left
 ·show Act.put _ (some 30) _ = _
  simp only [Act.put, List.setIfInBounds_toArray, List.set_cons_zero, List.set_cons_succ, i64_w, i32_w]
  rfl
 refine pure_ (i := 4) (N := some 31) (v := ?_) (a' := ?_) #[true, true, true, true, true] rfl rfl (by kernel_rfl) (fun _ _ _ h => h) (Or.inl ⟨by rfl, ?_⟩) ?_ ?_
 rotate_left
 ·intro w'
  go_simp
  with_reducible rfl
 rotate_left
 ·simp only [Act.put, List.setIfInBounds_toArray, List.set_cons_zero, List.set_cons_succ, i64_w, i32_w]
  rfl
 refine done_ (by kernel_rfl) ?_
 obtain ⟨hcz38_0, hcz38_1, hcz38_2, hcz38_3, hfz38_0, hfz38_1, hfz38_2, hfz38_3⟩ := cf4_ BK324.out
 go_upto_region 14 with (first | ((with_reducible refine gate_callee (f := 18) rfl ?_); obtain ⟨PS323_, hS323_, hP323_⟩ := sHand_4 (HO323.out); refine gs_ (some 34) Try.func18 #[.agg #[.int .i64 t318, .int .i64 t319, .int .i64 t320, .slice Ao30 t321.length co30], .int .i64 1] ?_; (with_reducible refine (laws_markPolicy.calls k t318 t319 t320 PS323_ (.slice Ao30 t321.length co30) t321 1 t336 t337 w _ ?side1 ?side2 A16.out).mono ?_); (case side1 => repeat (first | (with_reducible first | exact HB.out | apply below_alloc | apply pw_below_drewN | apply below_drew1 | refine below_set ?_ GE307.out | refine below_set ?_ GE324.out) | exact HB.out)); (case side2 => exact hS323_); rintro e w39 ⟨rfl, hy0, hb, hkp⟩; refine ⟨_, rfl, ?_⟩; replace BK307 := Aside0.mk (blk_kept (bk_ BK307.out) hkp (fun hs_ => (by obtain ⟨_, _, _, q_, hq_, c_, hc_⟩ := hP323_ _ hs_; have e_ := hc_.symm.trans (bk_ BK307.out); have e2_ := (Obj.cells.inj (Option.some.inj e_)).2.1; subst e2_; exact absurd hq_ (by decide)))); replace HO323 := Aside0.mk (Kd.S_mono (ok' := fun k_ => (some k_ ≠ (.slice Ao23 t312.length co23 : Value).ownBlock ∧ (some k_ ≠ (.slice Ao33 t315.length co33 : Value).ownBlock ∧ (some k_ ≠ (.slice Ao32 t325.length co32 : Value).ownBlock ∧ some k_ ≠ (.slice Ao36 t332.length co36 : Value).ownBlock)))) hy0 (fun k_ hk_ => Or.elim hk_ (fun hs_ => ⟨(hP323_ _ hs_).1.1.1.1, ⟨(hP323_ _ hs_).1.1.1.2.1, ⟨(hP323_ _ hs_).1.1.1.2.2.1, (hP323_ _ hs_).1.1.2⟩⟩⟩) (fun hn_ => ⟨fun e_ => Nat.not_le.2 (Kd.S_lt HO314.out k_ e_.symm) hn_, ⟨fun e_ => Nat.not_le.2 (Kd.R_lt HO317.out k_ e_.symm) hn_, ⟨fun e_ => Nat.not_le.2 (Kd.R_lt HO327.out k_ e_.symm) hn_, fun e_ => Nat.not_le.2 (Kd.S_lt HO334.out k_ e_.symm) hn_⟩⟩⟩))); replace HO314 := Aside0.mk (Kd.S_mono (ok' := fun k_ => some k_ ≠ (.slice Ao33 t315.length co33 : Value).ownBlock ∧ some k_ ≠ (.slice Ao30 t321.length co30 : Value).ownBlock ∧ some k_ ≠ (.slice Ao32 t325.length co32 : Value).ownBlock ∧ some k_ ≠ (.slice Ao36 t332.length co36 : Value).ownBlock ∧ k_ < w24.heap.size ∧ k_ < w34.heap.size) (Kd.S_keptB (HO314.out) hkp (fun k_ hk_ hs_ => (fun e_ => Nat.not_le.2 (hk_.1.1.2.2.2) ((hP323_ _ e_).1.1.1.2.2.2)) hs_)) (fun k_ hk_ => ⟨hk_.1.1.1.1, hk_.1.1.1.2.1, hk_.1.1.1.2.2.1, hk_.1.1.2, hk_.1.1.1.2.2.2, hk_.1.2⟩)); replace HO317 := Aside0.mk (Kd.R_mono (ok' := fun k_ => some k_ ≠ (.slice Ao32 t325.length co32 : Value).ownBlock) (Kd.R_keptB ((Kd.R_tight2 rfl HO317.out)) hkp (fun k_ hk_ hs_ => (fun e_ => ((hP323_ _ e_).1.1.1.2.1) (hk_.1)) hs_)) (fun k_ hk_ => hk_.1.2)); replace BK324 := Aside0.mk (blk_kept (bk_ BK324.out) hkp (fun hs_ => (by obtain ⟨_, _, _, q_, hq_, c_, hc_⟩ := hP323_ _ hs_; have e_ := hc_.symm.trans (bk_ BK324.out); have e2_ := (Obj.cells.inj (Option.some.inj e_)).2.1; subst e2_; exact absurd hq_ (by decide)))); replace HO327 := Aside0.mk (Kd.R_mono (ok' := fun k_ => some k_ ≠ (.slice Ao33 t315.length co33 : Value).ownBlock) (Kd.R_keptB ((Kd.R_tight2 rfl HO327.out)) hkp (fun k_ hk_ hs_ => (fun e_ => ((hP323_ _ e_).1.1.1.2.2.1) (hk_.1)) hs_)) (fun k_ hk_ => hk_.1.2)); replace HO334 := Aside0.mk (Kd.S_mono (ok' := fun k_ => some k_ ≠ (.slice Ao23 t312.length co23 : Value).ownBlock ∧ some k_ ≠ (.slice Ao33 t315.length co33 : Value).ownBlock ∧ some k_ ≠ (.slice Ao30 t321.length co30 : Value).ownBlock ∧ some k_ ≠ (.slice Ao32 t325.length co32 : Value).ownBlock ∧ w34.heap.size ≤ k_) (Kd.S_keptB (HO334.out) hkp (fun k_ hk_ hs_ => (fun e_ => Nat.not_le.2 ((hP323_ _ e_).1.2) (hk_.2)) hs_)) (fun k_ hk_ => ⟨hk_.1.1.1.1.1.2, hk_.1.1.1.1.2, hk_.1.1.1.2, hk_.1.1.2, hk_.1.2⟩)); replace HB := Aside0.mk (hb); (try clear hb); (try clear hkp); (try clear hy0); (try clear PS323_ hS323_ hP323_)))
 (try simp only [Act.put, List.setIfInBounds_toArray, List.set_cons_zero, List.set_cons_succ])
 go_cut [42] (fun v42 wc => ∃ (kq : Nat) (x42_16 : Bool), v42 = .bool x42_16 ∧ Aside0 (laws_FnExactNumsSaid.j0 kq t315 t325 x42_16 a0_0 a0_1 a0_2 l0_3 = some r) ∧ Aside0 (kq ≤ k) ∧ Aside0 (Kd.R (Kd.int .i64) 3 wc w.heap.size (fun k_ => some k_ ≠ ((.slice Ao32 t325.length co32) : Value).ownBlock) (.slice Ao33 t315.length co33) t315) ∧ Aside0 (Kd.R (Kd.int .i64) 3 wc w.heap.size (fun k_ => some k_ ≠ ((.slice Ao33 t315.length co33) : Value).ownBlock) (.slice Ao32 t325.length co32) t325) ∧ Aside0 (Kd.S k53 53 wc w.heap.size (fun k_ => some k_ ≠ ((.slice Ao33 t315.length co33) : Value).ownBlock ∧ some k_ ≠ ((.slice Ao32 t325.length co32) : Value).ownBlock) (.slice Ao30 t321.length co30) t337) ∧ Aside0 (wc.heap[gb307]? = some (.cells #[.int .i64 a0_0, .int .i64 a0_1, .int .i64 a0_2, (.slice A0_3 l0_3.length c0_3)] 30 (0, 0))) ∧ Aside0 (wc.heap[gb324]? = some (.cells #[.int .i64 t318, .int .i64 t319, .int .i64 t320, (.slice Ao30 t321.length co30)] 36 (0, 0))) ∧ Aside0 (Below w.heap.size w wc))
 case first =>
  have H := HC17.out
  clear HC17
  by_cases c40 : t336 < 0
  ·rw [if_pos c40] at H
   have c40b0 := decide_eq_true c40
   clear c40
   (first | rw [c40b0] | (simp only [i64_w, i32_w]; rw [c40b0]) | skip)
   have H' := Aside0.mk H
   clear H
   go_wp2
   go_meet
   case rel => exact ⟨_, (true), (sr_), H', ⟨by first | omega | exact Nat.le_refl _⟩, ⟨ra_ HO317.out⟩, ⟨ra_ HO327.out⟩, ⟨by (with_reducible repeat (first | apply Kd.S_alloc | apply Kd.S_drewN | apply Kd.S_drew)); exact Kd.S_mono HO323.out (fun _ hk => ⟨hk.2.1, hk.2.2.1⟩)⟩, ⟨bk_ BK307.out⟩, ⟨bk_ BK324.out⟩, ⟨bl_⟩⟩
  rw [if_neg c40] at H
  have c40b0 := decide_eq_false c40
  clear c40
  (first | rw [c40b0] | (simp only [i64_w, i32_w]; rw [c40b0]) | skip)
  replace H := bs_ H
  obtain ⟨t338, A41, H⟩ := H
  try dsimp only at H
  have H' := Aside0.mk H
  clear H
  go_wp2_with (first | (go_at_call 16; (with_reducible refine (laws_eqIntS.calls k _ _ t325 _ _ t315 t338 _ ?side1 ?side2 ?side3 ?side4 A41.out).mono ?_); (case side1 => exact cs_ ((Kd.R_reads' HO327.out).2.2)); (case side2 => exact (Kd.R_reads' HO327.out).2.1); (case side3 => exact cs_ ((Kd.R_reads' HO317.out).2.2)); (case side4 => exact (Kd.R_reads' HO317.out).2.1); rintro e w' ⟨rfl, ⟨nd, rfl⟩⟩))
  go_meet
  case rel => exact ⟨_, (!t338), (sr_), H', ⟨by first | omega | exact Nat.le_refl _⟩, ⟨ra_ HO317.out⟩, ⟨ra_ HO327.out⟩, ⟨by (with_reducible repeat (first | apply Kd.S_alloc | apply Kd.S_drewN | apply Kd.S_drew)); exact Kd.S_mono HO323.out (fun _ hk => ⟨hk.2.1, hk.2.2.1⟩)⟩, ⟨bk_ BK307.out⟩, ⟨bk_ BK324.out⟩, ⟨bl_⟩⟩
 clear HC17
 try clear c3
 try clear c3b0
 try clear c12
 try clear c15
 try clear hcz19_0
 try clear hcz19_1
 try clear hcz19_2
 try clear hcz19_3
 try clear hcz21_0
 try clear hcz21_1
 try clear hcz21_2
 try clear hcz21_3
 try clear hcz25_0
 try clear hcz25_1
 try clear hcz25_2
 try clear hcz25_3
 try clear hcz29_0
 try clear hcz29_1
 try clear hcz29_2
 try clear hcz29_3
 try clear hcz38_0
 try clear hcz38_1
 try clear hcz38_2
 try clear hcz38_3
 try clear hfz19_0
 try clear hfz19_1
 try clear hfz19_2
 try clear hfz19_3
 try clear hfz21_0
 try clear hfz21_1
 try clear hfz21_2
 try clear hfz21_3
 try clear hfz25_0
 try clear hfz25_1
 try clear hfz25_2
 try clear hfz25_3
 try clear hfz29_0
 try clear hfz29_1
 try clear hfz29_2
 try clear hfz29_3
 try clear hfz38_0
 try clear hfz38_1
 try clear hfz38_2
 try clear hfz38_3
 obtain ⟨kq, x42_16, rfl, HA, HJ16, HO_4, HO_6, HO_325003, BK307, BK324, HB⟩ := hcut
 have hl325003_16 := (Kd.S_reads' HO_325003.out).1
 rw [hl325003_16] at HO_325003
 (try simp only [hl325003_16])
 (try simp only [hl325003_16] at BK307)
 (try simp only [hl325003_16] at BK324)
 (try simp only [hl325003_16] at HO_4)
 (try simp only [hl325003_16] at HO_6)
 cases kq with
 | zero => exact absurd HA.out (by simp [laws_FnExactNumsSaid.j0])
 | succ kj16 => ?_
 have H := HA.out
 clear HA
 simp only [laws_FnExactNumsSaid.j0] at H
 by_cases c42 : x42_16 = true
 ·subst c42
  rw [if_pos rfl] at H
  exact absurd ((Option.some.inj H).trans HRt.out) (by decide)
 replace c42 := Bool.eq_false_iff.mpr c42
 subst c42
 rw [nf_] at H
 replace H := bs_ H
 obtain ⟨⟨t339, t340⟩, A43, H⟩ := H
 try dsimp only at H
 replace H := bs_ H
 obtain ⟨t341, A44, H⟩ := H
 try dsimp only at H
 by_cases c45 : t341 < 0
 ·rw [if_pos c45] at H
  have c45b0 := decide_eq_true c45
  clear c45
  exact absurd ((Option.some.inj H).trans HRt.out) (by decide)
 rw [if_neg c45] at H
 have c45b0 := decide_eq_false c45
 clear c45
 by_cases c46 : t341 = t339
 rotate_left
 ·rw [if_neg c46] at H
  have c46b0 : (t341 == t339) = false := beq_eq_false_iff_ne.mpr c46
  have c46b1 : (t341 != t339) = true := bne_iff_ne.mpr c46
  exact absurd ((Option.some.inj H).trans HRt.out) (by decide)
 rw [if_pos c46] at H
 have c46b0 : (t341 == t339) = true := beq_iff_eq.mpr c46
 have c46b1 : (t341 != t339) = false := bne_eq_false_iff_eq.mpr c46
 clear c46
 replace H := bs_ H
 obtain ⟨⟨t342, t343, t344, t345⟩, A47, H⟩ := H
 try dsimp only at H
 replace H := bs_ H
 obtain ⟨t348, A48, H⟩ := H
 try dsimp only at H
 replace H := bs_ H
 obtain ⟨t351, A49, H⟩ := H
 try dsimp only at H
 by_cases c50 : t351 = true
 rotate_left
 ·replace c50 := Bool.eq_false_iff.mpr c50
  subst c50
  rw [nf_] at H
  exact absurd ((Option.some.inj H).trans HRt.out) (by decide)
 subst c50
 rw [if_pos rfl] at H
 replace H := bs_ H
 obtain ⟨t352, A51, H⟩ := H
 try dsimp only at H
 by_cases c52 : t352 < 0
 ·rw [if_pos c52] at H
  have c52b0 := decide_eq_true c52
  clear c52
  exact absurd ((Option.some.inj H).trans HRt.out) (by decide)
 rw [if_neg c52] at H
 have c52b0 := decide_eq_false c52
 clear c52
 by_cases c53 : t352 = t339
 rotate_left
 ·rw [if_neg c53] at H
  have c53b0 : (t352 == t339) = false := beq_eq_false_iff_ne.mpr c53
  have c53b1 : (t352 != t339) = true := bne_iff_ne.mpr c53
  exact absurd ((Option.some.inj H).trans HRt.out) (by decide)
 rw [if_pos c53] at H
 have c53b0 : (t352 == t339) = true := beq_iff_eq.mpr c53
 have c53b1 : (t352 != t339) = false := bne_eq_false_iff_eq.mpr c53
 clear c53
 obtain rfl := Option.some.inj H
 go_wp2_with (first | ((with_reducible refine gate_callee (f := 19) rfl ?_); refine gs_ (some 45) Try.func19 #[.slice Ao32 t325.length co32, .int .i64 1] ?_; (with_reducible refine (laws_markIntS.calls kj16 (fun k_ => some k_ = (.slice Ao32 t325.length co32 : Value).ownBlock) (.slice Ao32 t325.length co32) t325 1 t339 t340 w _ ?side1 ?side2 A43.out).mono ?_); (case side1 => repeat (first | (with_reducible first | exact HB.out | apply below_alloc | apply pw_below_drewN | apply below_drew1 | refine below_set ?_ GE307.out | refine below_set ?_ GE324.out) | exact HB.out)); (case side2 => exact Kd.R_tight rfl HO_6.out); rintro e w54 ⟨rfl, hy0, hb, hkp⟩; refine ⟨_, rfl, ?_⟩; replace HO_4 := Aside0.mk (Kd.R_mono (ok' := fun k_ => some k_ ≠ (.slice Ao32 t325.length co32 : Value).ownBlock) (Kd.R_keptB (HO_4.out) hkp (fun k_ hk_ hs_ => (hk_) hs_)) (fun k_ hk_ => hk_.1)); replace HO_325003 := Aside0.mk (Kd.S_mono (ok' := fun k_ => some k_ ≠ (.slice Ao33 t315.length co33 : Value).ownBlock ∧ some k_ ≠ (.slice Ao32 t325.length co32 : Value).ownBlock) (Kd.S_keptB (HO_325003.out) hkp (fun k_ hk_ hs_ => (hk_.2) hs_)) (fun k_ hk_ => ⟨hk_.1.1, hk_.1.2⟩)); replace BK307 := Aside0.mk (blk_kept (bk_ BK307.out) hkp (fun hs_ => (fun e_ => (Kd.R_ne HO_6.out BK307.out (by decide)) e_) hs_)); replace BK324 := Aside0.mk (blk_kept (bk_ BK324.out) hkp (fun hs_ => (fun e_ => (Kd.R_ne HO_6.out BK324.out (by decide)) e_) hs_)); replace HO_6 := Aside0.mk (Kd.R_reok rfl hy0 (fun k_ e_ => HO_6.out.1 k_ e_)); replace HB := Aside0.mk (hb); (try clear hb); (try clear hkp); (try clear hy0)) | ((with_reducible refine gate_callee (f := 20) rfl ?_); refine goesL_ (some 48) rfl rfl Try.func20 (by kernel_rfl) rfl #[.slice Ao32 t340.length co32, .int .i64 1] rfl (by (try simp only [List.map_toArray, List.map_cons, List.map_nil]); first | done | (rw [show t340.length = t325.length from (Kd.R_reads' HO_6.out).1.symm] <;> rfl) | rfl | (simp only [List.length_drop, List.length_take]; rfl)) ?_; (with_reducible refine (laws_heldIntS.calls kj16 _ _ t340 1 t341 _ ?side1 ?side2 A44.out).mono ?_); (case side1 => exact cs_ ((Kd.R_reads' HO_6.out).2.2)); (case side2 => rw [show t340.length = t325.length from (Kd.R_reads' HO_6.out).1.symm]; exact (Kd.R_reads' HO_6.out).2.1); rintro e w' ⟨rfl, ⟨nd, rfl⟩⟩; refine ⟨_, rfl, ?_⟩; have hnb55 := NB307_324.out; have hnc55 := NB324_307.out; obtain ⟨hcz56_0, hcz56_1, hcz56_2, hcz56_3, hfz56_0, hfz56_1, hfz56_2, hfz56_3⟩ := cf4_ BK307.out) | ((with_reducible refine gate_callee (f := 14) rfl ?_); refine gs_ (some 55) Try.func14 #[.agg #[.int .i64 a0_0, .int .i64 a0_1, .int .i64 a0_2, .slice A0_3 l0_3.length c0_3]] ?_; (with_reducible refine (laws_toPolicy.calls kj16 a0_0 a0_1 a0_2 _ _ l0_3 t342 t343 t344 t345 _ ?side1 ?side2 A47.out).mono ?_); (case side1 => repeat (first | exact (Kd.C_below HR0_3.out bl_) | exact HR0_3.out | (with_reducible refine Kd.C_alloc ?_ _) | (with_reducible refine Kd.C_drewN ?_ _) | (with_reducible refine Kd.C_drew ?_))); (case side2 => exact HC0_3.out); rintro e w57 ⟨v346, rfl, ho0, hb⟩; refine ⟨_, rfl, ?_⟩; have HO347 := Aside0.mk (Kd.S_lower (sBig_4 (Kd.S_new' (Kd.S_new' (Kd.S_new' ho0 (Kd.R_lt (ra_ HO_4.out))) (Kd.R_lt (ra_ HO_6.out))) (Kd.S_lt (by (with_reducible repeat (first | apply Kd.S_alloc | apply Kd.S_drewN | apply Kd.S_drew)); exact HO_325003.out)))) (below_size bl_)); replace HO_4 := Aside0.mk (Kd.R_below (ra_ HO_4.out) hb); replace HO_6 := Aside0.mk (Kd.R_below (ra_ HO_6.out) hb); replace HO_325003 := Aside0.mk (Kd.S_told (Kd.S_old (by (with_reducible repeat (first | apply Kd.S_alloc | apply Kd.S_drewN | apply Kd.S_drew)); exact HO_325003.out) hb) (Kd.S_base ho0)); replace BK307 := Aside0.mk (blk_below (bn0_ BK307.out) hb); replace BK324 := Aside0.mk (blk_below (bn0_ BK324.out) hb); replace HB := Aside0.mk (below_step bl_ hb); (try clear hb); (try clear ho0); obtain ⟨Ao58, co58, eo58⟩ := Kd.S_slice HO347.out; subst eo58) | ((with_reducible refine gate_callee (f := 15) rfl ?_); refine gs_ (some 56) Try.func15 #[.agg #[.int .i64 t342, .int .i64 t343, .int .i64 t344, .slice Ao58 t345.length co58]] ?_; (with_reducible refine (impl_NumsSaid.calls kj16 t342 t343 t344 _ _ t345 t348 _ ?side1 ?side2 A48.out).mono ?_); (case side1 => exact cs_ ((Kd.S_reads' HO347.out).2.2)); (case side2 => exact (Kd.S_reads' HO347.out).2.1); rintro e w59 ⟨v349, rfl, ho0, hb⟩; refine ⟨_, rfl, ?_⟩; replace HO_325003 := Aside0.mk (Kd.S_elder' (by (with_reducible repeat (first | apply Kd.S_alloc | apply Kd.S_drewN | apply Kd.S_drew)); exact HO_325003.out) (Kd.R_base ho0) hb); replace HO347 := Aside0.mk (Kd.S_elder' (by (with_reducible repeat (first | apply Kd.S_alloc | apply Kd.S_drewN | apply Kd.S_drew)); exact HO347.out) (Kd.R_base ho0) hb); have HO350 := Aside0.mk (Kd.R_lower (Kd.R_new' (Kd.R_new' ho0 (Kd.R_lt (ra_ HO_4.out))) (Kd.R_lt (ra_ HO_6.out))) (below_size bl_)); replace HO_4 := Aside0.mk (Kd.R_elder' (ra_ HO_4.out) (Kd.R_base ho0) hb); replace HO_6 := Aside0.mk (Kd.R_elder' (ra_ HO_6.out) (Kd.R_base ho0) hb); replace BK307 := Aside0.mk (blk_below (bn0_ BK307.out) hb); replace BK324 := Aside0.mk (blk_below (bn0_ BK324.out) hb); replace HB := Aside0.mk (below_step bl_ hb); (try clear hb); (try clear ho0); obtain ⟨Ao60, co60, eo60⟩ := Kd.R_slice HO350.out; subst eo60) | ((with_reducible refine gate_callee (f := 16) rfl ?_); refine gs_ (some 59) Try.func16 #[.slice Ao60 t348.length co60, .slice Ao33 t315.length co33] ?_; (with_reducible refine (laws_eqIntS.calls kj16 _ _ t348 _ _ t315 true _ ?side1 ?side2 ?side3 ?side4 A49.out).mono ?_); (case side1 => exact cs_ ((Kd.R_reads' HO350.out).2.2)); (case side2 => exact (Kd.R_reads' HO350.out).2.1); (case side3 => exact cs_ ((Kd.R_reads' HO_4.out).2.2)); (case side4 => exact (Kd.R_reads' HO_4.out).2.1); rintro e w' ⟨rfl, ⟨nd, rfl⟩⟩; refine ⟨_, rfl, ?_⟩) | ((with_reducible refine gate_callee (f := 20) rfl ?_); refine goesL_ (some 63) rfl rfl Try.func20 (by kernel_rfl) rfl #[.slice Ao32 t340.length co32, .int .i64 1] rfl (by (try simp only [List.map_toArray, List.map_cons, List.map_nil]); first | done | (rw [show t340.length = t325.length from (Kd.R_reads' HO_6.out).1.symm] <;> rfl) | rfl | (simp only [List.length_drop, List.length_take]; rfl)) ?_; (with_reducible refine (laws_heldIntS.calls kj16 _ _ t340 1 t352 _ ?side1 ?side2 A51.out).mono ?_); (case side1 => exact cs_ ((Kd.R_reads' HO_6.out).2.2)); (case side2 => rw [show t340.length = t325.length from (Kd.R_reads' HO_6.out).1.symm]; exact (Kd.R_reads' HO_6.out).2.1); rintro e w' ⟨rfl, ⟨nd, rfl⟩⟩; refine ⟨_, rfl, ?_⟩))
 go_ret
 exact ⟨er_, bl_⟩

end Go.Proofs.Ytjfmpodeenidnaa.PB

namespace Go.Proofs.Ytjfmpodeenidnaa.Op
open Go.RowKit Go.Proofs.YtjfmpodeenidnaaW.PrintWords
set_option linter.unusedVariables false
set_option linter.unusedSimpArgs false

abbrev OkInt (k : IntKind) (n : Int) : Prop := (Lit.int k n).wf = true

structure Opens (P : Program) {α : Type} (d : Kd α) (t : TypeId) (G : α → Prop) : Prop where
 sz : d.sz = P.cellsOf t
 op : ∀ {H : Type} {enc : TypeId × Value → H} {w : World} {n : Nat} {cs : List Value} {x : DataW H × List MemPlace},
  DataW.trod enc P w 0 (fun _ => true) true n t cs = some x → ∃ a, d.K w a cs ∧ G a

theorem opInt {P : Program} {t : TypeId} {k : IntKind} (hu : P.underlying t = some (.int k)) (hc : P.cellsOf t = 1) : Opens P (Kd.int k) t (fun n => (Lit.int k n).wf = true) where
 sz := by rw [hc]; rfl
 op := fun h => by
  obtain ⟨n, rfl, _, hw⟩ := DataW.trod_int hu h
  exact ⟨n, rfl, hw⟩

theorem opBool {P : Program} {t : TypeId} (hu : P.underlying t = some .bool) (hc : P.cellsOf t = 1) : Opens P Kd.bool t (fun _ => True) where
 sz := by rw [hc]; rfl
 op := fun h => by
  obtain ⟨n, rfl, _⟩ := DataW.trod_bool hu h
  exact ⟨n, rfl, trivial⟩

theorem opStr {P : Program} {t : TypeId} (hu : P.underlying t = some .string) (hc : P.cellsOf t = 1) : Opens P Kd.string t (fun s => s.size ≤ 9223372036854775807) where
 sz := by rw [hc]; rfl
 op := fun h => by
  obtain ⟨s, rfl, _, hs⟩ := DataW.trod_string hu h
  exact ⟨s, rfl, hs⟩

theorem chooseList {α : Type} {Q : Nat → α → Prop} : ∀ (n : Nat), (∀ i, i < n → ∃ a, Q i a) → ∃ xs : List α, xs.length = n ∧ ∀ i a, xs[i]? = some a → Q i a
 | 0, _ => ⟨[], rfl, fun i a h => by simp at h⟩
 | n + 1, h => by
  obtain ⟨xs, hl, hx⟩ := chooseList n (fun i hi => h i (by omega))
  obtain ⟨a, ha⟩ := h n (by omega)
  refine ⟨xs ++ [a], by simp [hl], fun i b hb => ?_⟩
  by_cases hi : i < n
  ·rw [List.getElem?_append_left (by omega)] at hb
   exact hx i b hb
  ·rw [List.getElem?_append_right (by omega), hl] at hb
   have : i - n = 0 := by
    rcases Nat.eq_zero_or_pos (i - n) with h0 | h0
    ·exact h0
    ·rw [List.getElem?_eq_none (by simp; omega)] at hb
     simp at hb
   rw [this] at hb
   have hin : i = n := by omega
   simp at hb
   rw [hin, ← hb]
   exact ha

theorem cellsAt {w : World} {a : Addr} {n : Nat} {cs : List Value} (h : w.cells? 0 a n = some cs) : cs.length = n ∧ ∀ i u, cs[i]? = some u → w.cell? (a.add i) = some u := by
 unfold World.cells? at h
 rw [if_pos (Nat.zero_le _)] at h
 have hl : cs.length = n := by simpa using mapM_some_length h
 refine ⟨hl, fun i u hu => ?_⟩
 have hi : i < n := by
  rcases Nat.lt_or_ge i n with h1 | h1
  ·exact h1
  ·rw [List.getElem?_eq_none (by omega)] at hu
   simp at hu
 have := mapM_some_get h i i (by simp [hi])
 rw [this, hu]

theorem opSlice {P : Program} {α : Type} {d : Kd α} {t e : TypeId} {G : α → Prop} (hu : P.underlying t = some (.slice e)) (hc : P.cellsOf t = 1) (E : Nat) (o : Opens P d e G) :
 Opens P (Kd.slice E d) t (fun l => (∀ a ∈ l, G a) ∧ l.length ≤ 9223372036854775807) where
 sz := by rw [hc]; rfl
 op := fun {H enc w n cs x} h => by
  rcases DataW.trod_slice hu h with ⟨rfl, _⟩ | ⟨a, len, cap, elems, rest, m, _, rfl, _, _, hl, hcap, hlen, hel, _⟩
  ·exact ⟨[], ⟨none, 0, rfl, Nat.le_refl _, rfl, by simp, fun h0 => by simp at h0⟩, fun a ha => by simp at ha, by simp⟩
  ·have hcap' : cap ≤ 9223372036854775807 := hcap
   have key : ∀ i, i < len → ∃ b, ∃ c, d.K w b c ∧ G b ∧ c.length = d.sz ∧ ∀ j u, c[j]? = some u → w.cell? ((a.add (i * d.sz)).add j) = some u := by
    intro i hi
    have h1 := hel i hi
    rw [List.getElem?_eq_getElem (by omega)] at h1
    obtain ⟨cs', h2, h3⟩ := Option.bind_eq_some_iff.1 h1
    obtain ⟨b, hK, hG⟩ := o.op h3
    obtain ⟨h4, h5⟩ := cellsAt h2
    rw [← o.sz] at h5
    exact ⟨b, cs', hK, hG, d.K_len hK, h5⟩
   obtain ⟨xs, hx, hall⟩ := chooseList len key
   refine ⟨xs, ⟨some a, cap, by rw [hx], by omega, rfl, by omega, fun _ => ⟨a, rfl, fun j p hp => ?_⟩⟩, fun b hb => ?_, by omega⟩
   ·obtain ⟨c, hK, _, hs, hcell⟩ := hall j p hp
    exact ⟨c, hs, hK, fun i u hiu => by rw [← Addr.add_add]; exact hcell i u hiu⟩
   ·obtain ⟨i, hi, rfl⟩ := List.getElem_of_mem hb
    obtain ⟨_, _, hG, _⟩ := hall i _ (List.getElem?_eq_getElem hi)
    exact hG

structure Fields (P : Program) (off : Nat) (fs : List Field) {α : Type} (d : Kd α) (G : α → Prop) : Prop where
 op : ∀ {H : Type} {enc : TypeId × Value → H} {w : World} {n : Nat} {cs : List Value}, cs.length = off + d.sz →
  (∀ f ∈ fs, ∃ y, DataW.trod enc P w 0 (fun _ => true) true n f.type ((cs.drop f.offset).take (P.cellsOf f.type)) = some y) → ∃ a, d.K w a (cs.drop off) ∧ G a

theorem fieldsOne {P : Program} {off : Nat} {f : Field} {α : Type} {d : Kd α} {G : α → Prop} (o : Opens P d f.type G) (hf : f.offset = off) : Fields P off [f] d G where
 op := fun {H enc w n cs} hl h => by
  obtain ⟨y, hy⟩ := h f (by simp)
  rw [hf, List.take_of_length_le (by rw [← o.sz]; simp; omega)] at hy
  exact o.op hy

theorem fieldsCons {P : Program} {off : Nat} {f : Field} {fs : List Field} {α β : Type} {d : Kd α} {d' : Kd β} {G : α → Prop} {G' : β → Prop} (o : Opens P d f.type G) (hf : f.offset = off) (r : Fields P (off + d.sz) fs d' G') :
 Fields P off (f :: fs) (Kd.pair d d') (fun x => G x.1 ∧ G' x.2) where
 op := fun {H enc w n cs} hl h => by
  have hl' : cs.length = off + (d.sz + d'.sz) := hl
  obtain ⟨y, hy⟩ := h f (by simp)
  rw [hf] at hy
  obtain ⟨a, ha, hg⟩ := o.op hy
  obtain ⟨b, hb, hg'⟩ := r.op (by omega) (fun g hg => h g (by simp [hg]))
  refine ⟨(a, b), ⟨_, _, ?_, ha, hb⟩, hg, hg'⟩
  rw [← o.sz, show cs.drop (off + d.sz) = (cs.drop off).drop d.sz from (List.drop_drop ..).symm]
  exact (List.take_append_drop _ _).symm

theorem opStruct {P : Program} {t : TypeId} {fs : Array Field} {α β : Type} {d : Kd α} {f : β → α} {G : α → Prop} {G' : β → Prop} (hu : P.underlying t = some (.struct fs)) (hc : P.cellsOf t = d.sz)
 (r : Fields P 0 fs.toList d G) (g : α → β) (hfg : ∀ a, f (g a) = a) (hG : ∀ a, G a → G' (g a)) : Opens P (Kd.iso d f) t G' where
 sz := by rw [hc]; rfl
 op := fun {H enc w n cs x} h => by
  obtain ⟨xs, m, rfl, _, hl, hxs, hall⟩ := DataW.trod_struct hu h
  obtain ⟨a, ha, hGa⟩ := r.op (w := w) (n := m) (cs := cs) (by omega) (fun f' hf' => by
   obtain ⟨i, hi, rfl⟩ := List.getElem_of_mem hf'
   have hi' : i < fs.size := by simpa using hi
   have h1 := hall i fs.toList[i] (by simp [hi'])
   rw [List.getElem?_eq_getElem (by omega)] at h1
   exact ⟨_, h1⟩)
  rw [List.drop_zero] at ha
  refine ⟨g a, ?_, hG a hGa⟩
  show d.K w (f (g a)) cs
  rw [hfg]
  exact ha
end Go.Proofs.Ytjfmpodeenidnaa.Op

namespace Go.Proofs.Ytjfmpodeenidnaa.PureFnExactNumsSaid
open Go.RowKit Go.Proofs.Ytjfmpodeenidnaa.PB Go.Proofs.YtjfmpodeenidnaaW.PrintWords
structure S30 where
 f0 : Int
 f1 : Int
 f2 : Int
 f3 : (List S112)
def z30 : S30 := ⟨(0 : Int), (0 : Int), (0 : Int), ([] : List S112)⟩
def k30 : Kd S30 := Kd.iso (Kd.pair (Kd.int .i64) (Kd.pair (Kd.int .i64) (Kd.pair (Kd.int .i64) (Kd.slice 112 k112)))) (fun x : S30 => (x.f0, x.f1, x.f2, x.f3))
theorem k30_open {w : World} {x : S30} {cs : List Value} (h : k30.K w x cs) : ∃ A3 c3, cs = [.int .i64 x.f0, .int .i64 x.f1, .int .i64 x.f2, .slice A3 x.f3.length c3] ∧ x.f3.length ≤ c3 ∧ k112.C w A3 x.f3.length x.f3 := by
 obtain ⟨_, _, rfl, rfl, ⟨_, _, rfl, rfl, ⟨_, _, rfl, rfl, ⟨A3, c3, rfl, l3, g3⟩⟩⟩⟩ := h
 exact ⟨A3, c3, rfl, l3, g3⟩
def ok142 (x : S142) : Prop := (Op.OkInt .i64 x.f0) ∧ (Op.OkInt .i64 x.f1)
def ok144 (x : S144) : Prop := (Op.OkInt .i64 x.f0) ∧ (ok142 x.f1) ∧ (Op.OkInt .i64 x.f2) ∧ (ok142 x.f3)
def ok112 (x : S112) : Prop := ((∀ e_ ∈ x.f0, Op.OkInt .i64 e_) ∧ x.f0.length ≤ 9223372036854775807) ∧ ((∀ e_ ∈ x.f1, ok144 e_) ∧ x.f1.length ≤ 9223372036854775807) ∧ (Op.OkInt .i64 x.f2) ∧ (Op.OkInt .i64 x.f3)
def ok30 (x : S30) : Prop := (Op.OkInt .i64 x.f0) ∧ (Op.OkInt .i64 x.f1) ∧ (Op.OkInt .i64 x.f2) ∧ ((∀ e_ ∈ x.f3, ok112 e_) ∧ x.f3.length ≤ 9223372036854775807)
def Stated : Prop := ∀ (x0 : S30), (ok30 x0) → ∃ k, laws_FnExactNumsSaid.f k x0.f0 x0.f1 x0.f2 x0.f3 = some true
end Go.Proofs.Ytjfmpodeenidnaa.PureFnExactNumsSaid

namespace Go.Proofs.Ytjfmpodeenidnaa.Kit
open Go.RowKit Go.Proofs.YtjfmpodeenidnaaW.PrintWords Go.Proofs.YtjfmpodeenidnaaW.PrintLast Go.Proofs.YtjfmpodeenidnaaW.PrintMore
set_option linter.unusedVariables false
set_option linter.unusedSimpArgs false

theorem w64 {x : Int} (h0 : -9223372036854775808 ≤ x) (h1 : x ≤ 9223372036854775807) : wrap64 x = x := by unfold wrap64; omega

section
variable {α β : Type}
theorem evSucc {g : Nat → Option α} {r : α} (h : Ev (fun k => g (k + 1)) r) : Ev g r := Ev.step (fun _ => rfl) h
theorem evPos {c : Prop} [Decidable c] {g f : Nat → Option α} {r : α} (hc : c) (h : Ev g r) : Ev (fun k => if c then g k else f k) r := Ev.congr (fun k => if_pos hc) h
theorem evNeg {c : Prop} [Decidable c] {g f : Nat → Option α} {r : α} (hc : ¬ c) (h : Ev f r) : Ev (fun k => if c then g k else f k) r := Ev.congr (fun k => if_neg hc) h
theorem evIte {c : Prop} [Decidable c] {g f : Nat → Option α} {r s : α} (h : c → Ev g r) (h' : ¬ c → Ev f s) : Ev (fun k => if c then g k else f k) (if c then r else s) := by
 by_cases hc : c
 ·rw [if_pos hc]; exact evPos hc (h hc)
 ·rw [if_neg hc]; exact evNeg hc (h' hc)
theorem evSome (r : α) : Ev (fun _ => some r) r := Ev.now r
theorem evEq {g : Nat → Option α} {r s : α} (h : Ev g r) (e : r = s) : Ev g s := e ▸ h
theorem evBindS {x : Option α} {f : Nat → α → Option β} {a : α} {r : β} (h : x = some a) (k : Ev (fun n => f n a) r) : Ev (fun n => x.bind (f n)) r := by subst h; exact k
theorem evConst {x : Option α} {r : α} (h : x = some r) : Ev (fun _ => x) r := by subst h; exact Ev.now r
end

section
variable {α β : Type}
theorem evUp {r : α} (n : Nat) (g : Nat → Nat → Option α) (step : ∀ i, i < n → Ev (g (i + 1)) r → Ev (g i) r) (last : Ev (g n) r) : Ev (g 0) r := by
 have key : ∀ d i, i + d = n → Ev (g i) r := by
  intro d
  induction d with
  | zero => intro i hi; rw [show i = n by omega]; exact last
  | succ d ih => intro i hi; exact step i (by omega) (ih (i + 1) (by omega))
 exact key n 0 (by omega)
theorem fillStep (f : α → β) (z : β) (l : List α) (i : Nat) (hi : i < l.length) :
 ((l.take i).map f ++ List.replicate (l.length - i) z).set i (f l[i]) = (l.take (i + 1)).map f ++ List.replicate (l.length - (i + 1)) z := by
 have h1 : ((l.take i).map f).length = i := by simp; omega
 rw [show l.length - i = (l.length - (i + 1)) + 1 by omega, List.replicate_succ, List.set_append_right _ _ (by omega), h1, Nat.sub_self, List.set_cons_zero,
  List.take_succ_eq_append_getElem hi, List.map_append, List.append_assoc]
 rfl
theorem takeSnoc (l : List α) (i : Nat) (hi : i < l.length) : l.take (i + 1) = l.take i ++ [l[i]] := List.take_succ_eq_append_getElem hi
theorem ci (i : Nat) : (i : Int) + 1 = ((i + 1 : Nat) : Int) := by omega
theorem sizeApp (a b : ByteArray) : (a ++ b).size = a.size + b.size := ByteArray.size_append
end

theorem okI64 {n : Int} (h : (Lit.int .i64 n).wf = true) : -9223372036854775808 ≤ n ∧ n ≤ 9223372036854775807 := by
 simp [Lit.wf, IntKind.min, IntKind.max, IntKind.signed, IntKind.bits] at h
 omega
end Go.Proofs.Ytjfmpodeenidnaa.Kit

namespace Go.Proofs.Ytjfmpodeenidnaa.Pure
open Go.RowKit Go.Proofs.Ytjfmpodeenidnaa.PB Go.Proofs.YtjfmpodeenidnaaW.PrintWords Go.Proofs.YtjfmpodeenidnaaW.PrintLast Go.Proofs.YtjfmpodeenidnaaW.PrintMore Go.Proofs.Ytjfmpodeenidnaa.Kit Go.Proofs.Ytjfmpodeenidnaa.PureFnExactNumsSaid
set_option linter.unusedVariables false
set_option linter.unusedSimpArgs false
def StrictS (l : List Int) : Prop := l.Pairwise (· < ·)
theorem strict_eq : ∀ (a b : List Int), StrictS a → StrictS b → (∀ x, x ∈ a ↔ x ∈ b) → a = b := by
 intro a
 induction a with
 | nil =>
  intro b _ _ h
  cases b with
  | nil => rfl
  | cons y b => exact absurd ((h y).2 (List.mem_cons_self ..)) (List.not_mem_nil)
 | cons x a ih =>
  intro b ha hb h
  cases b with
  | nil => exact absurd ((h x).1 (List.mem_cons_self ..)) (List.not_mem_nil)
  | cons y b =>
   have ha' := List.pairwise_cons.1 ha
   have hb' := List.pairwise_cons.1 hb
   have hxy : x = y := by
    rcases List.mem_cons.1 ((h x).1 (List.mem_cons_self ..)) with e | e
    ·exact e
    ·rcases List.mem_cons.1 ((h y).2 (List.mem_cons_self ..)) with e2 | e2
     ·exact e2.symm
     ·have h1 := hb'.1 x e
      have h2 := ha'.1 y e2
      omega
   subst hxy
   rw [ih b ha'.2 hb'.2 (fun z => ?_)]
   constructor
   ·intro hz
    rcases List.mem_cons.1 ((h z).1 (List.mem_cons_of_mem _ hz)) with e | e
    ·have := ha'.1 z hz; omega
    ·exact e
   ·intro hz
    rcases List.mem_cons.1 ((h z).2 (List.mem_cons_of_mem _ hz)) with e | e
    ·have := hb'.1 z hz; omega
    ·exact e
def insS (x : Int) : List Int → List Int
 | [] => [x]
 | y :: l => if x < y then x :: y :: l else y :: insS x l
theorem insS_mem (x : Int) : ∀ l z, z ∈ insS x l ↔ z = x ∨ z ∈ l := by
 intro l
 induction l with
 | nil => intro z; simp [insS]
 | cons y l ih =>
  intro z
  unfold insS
  split
  ·rw [List.mem_cons]
  ·rw [List.mem_cons, ih z, List.mem_cons]
   constructor
   ·rintro (e | e | e)
    ·exact Or.inr (Or.inl e)
    ·exact Or.inl e
    ·exact Or.inr (Or.inr e)
   ·rintro (e | e | e)
    ·exact Or.inr (Or.inl e)
    ·exact Or.inl e
    ·exact Or.inr (Or.inr e)
theorem insS_strict (x : Int) : ∀ l, StrictS l → x ∉ l → StrictS (insS x l) := by
 intro l
 induction l with
 | nil => intro _ _; exact List.pairwise_singleton _ _
 | cons y l ih =>
  intro h hx
  have h' := List.pairwise_cons.1 h
  unfold insS
  split
  ·rename_i hlt
   refine List.pairwise_cons.2 ⟨fun z hz => ?_, h⟩
   rcases List.mem_cons.1 hz with e | e
   ·omega
   ·have := h'.1 z e; omega
  ·rename_i hlt
   refine List.pairwise_cons.2 ⟨fun z hz => ?_, ih h'.2 (fun e => hx (List.mem_cons_of_mem _ e))⟩
   rcases (insS_mem x l z).1 hz with e | e
   ·have : x ≠ y := fun e2 => hx (by rw [e2]; exact List.mem_cons_self ..)
    omega
   ·exact h'.1 z e
theorem insS_len (x : Int) : ∀ l, (insS x l).length = l.length + 1 := by
 intro l
 induction l with
 | nil => rfl
 | cons y l ih =>
  unfold insS
  split
  ·rfl
  ·rw [List.length_cons, ih, List.length_cons]
def putAll : List Int → List Int → List Int
 | [], acc => acc
 | x :: l, acc => putAll l (if x ∈ acc then acc else insS x acc)
theorem putAll_law : ∀ l acc, StrictS acc → StrictS (putAll l acc) ∧ ∀ z, z ∈ putAll l acc ↔ z ∈ acc ∨ z ∈ l := by
 intro l
 induction l with
 | nil => intro acc h; exact ⟨h, fun z => by simp [putAll]⟩
 | cons x l ih =>
  intro acc h
  unfold putAll
  by_cases hx : x ∈ acc
  ·rw [if_pos hx]
   obtain ⟨h1, h2⟩ := ih acc h
   refine ⟨h1, fun z => ?_⟩
   rw [h2 z, List.mem_cons]
   constructor
   ·rintro (e | e)
    ·exact Or.inl e
    ·exact Or.inr (Or.inr e)
   ·rintro (e | e | e)
    ·exact Or.inl e
    ·rw [e]; exact Or.inl hx
    ·exact Or.inr e
  ·rw [if_neg hx]
   obtain ⟨h1, h2⟩ := ih (insS x acc) (insS_strict x acc h hx)
   refine ⟨h1, fun z => ?_⟩
   rw [h2 z, insS_mem, List.mem_cons]
   constructor
   ·rintro ((e | e) | e)
    ·exact Or.inr (Or.inl e)
    ·exact Or.inl e
    ·exact Or.inr (Or.inr e)
   ·rintro (e | e | e)
    ·exact Or.inl (Or.inr e)
    ·exact Or.inl (Or.inl e)
    ·exact Or.inr e
theorem putAll_len : ∀ l acc, (putAll l acc).length ≤ acc.length + l.length := by
 intro l
 induction l with
 | nil => intro acc; exact Nat.le_refl _
 | cons x l ih =>
  intro acc
  unfold putAll
  split
  ·have := ih acc; rw [List.length_cons]; omega
  ·have := ih (insS x acc); rw [insS_len] at this; rw [List.length_cons]; omega
def srtS (l : List Int) : List Int := l.mergeSort fun x y => decide (x ≤ y)
theorem srtS_mem (l : List Int) (z : Int) : z ∈ srtS l ↔ z ∈ l := (List.mergeSort_perm l _).mem_iff
theorem srtS_sorted (l : List Int) : (srtS l).Pairwise (· ≤ ·) := by
 have := List.pairwise_mergeSort (le := fun x y : Int => decide (x ≤ y)) (fun a b c h1 h2 => by simp at *; omega) (fun a b => by simp; omega) l
 exact this.imp (fun h => by simpa using h)
theorem sorted_at (d : List Int) (h : d.Pairwise (· ≤ ·)) (i j : Nat) (hij : i ≤ j) (hj : j < d.length) : d.toArray[i]! ≤ d.toArray[j]! := by
 rcases Nat.lt_or_eq_of_le hij with hlt | rfl
 ·have := (List.pairwise_iff_getElem.1 h) i j (by omega) hj hlt
  simp [hj, show i < d.length by omega]
  exact this
 ·exact Int.le_refl _
theorem upTo_law (d : List Int) (h : d.Pairwise (· ≤ ·)) : ∀ m, m ≤ d.length → StrictS (Go.Lib.compactUpTo d.toArray m) ∧ (∀ z, z ∈ Go.Lib.compactUpTo d.toArray m ↔ ∃ j, j < m ∧ d.toArray[j]! = z) := by
 intro m
 induction m with
 | zero =>
  intro _
  refine ⟨List.Pairwise.nil, fun z => ?_⟩
  constructor
  ·intro hz; exact absurd hz (by simp [Go.Lib.compactUpTo])
  ·rintro ⟨j, hj, _⟩; omega
 | succ m ih =>
  intro hm
  obtain ⟨h1, h2⟩ := ih (by omega)
  rw [Go.Lib.compactUpTo_succ]
  by_cases hk : Go.Lib.keeps d.toArray m = true
  ·rw [if_pos hk]
   refine ⟨?_, fun z => ?_⟩
   ·refine List.pairwise_append.2 ⟨h1, List.pairwise_singleton _ _, fun x hx y hy => ?_⟩
    rw [List.mem_singleton] at hy
    subst hy
    obtain ⟨j, hj, rfl⟩ := (h2 x).1 hx
    have hne : d.toArray[m]! ≠ d.toArray[m - 1]! := by
     unfold Go.Lib.keeps at hk
     rw [decide_eq_true_eq] at hk
     rcases hk with e | e
     ·omega
     ·exact e
    have a1 := sorted_at d h j (m - 1) (by omega) (by omega)
    have a2 := sorted_at d h (m - 1) m (by omega) (by omega)
    omega
   ·rw [List.mem_append, h2 z, List.mem_singleton]
    constructor
    ·rintro (⟨j, hj, e⟩ | e)
     ·exact ⟨j, by omega, e⟩
     ·exact ⟨m, by omega, e.symm⟩
    ·rintro ⟨j, hj, e⟩
     by_cases hjm : j = m
     ·subst hjm; exact Or.inr e.symm
     ·exact Or.inl ⟨j, by omega, e⟩
  ·rw [if_neg hk, List.append_nil]
   refine ⟨h1, fun z => ?_⟩
   rw [h2 z]
   have hk' : ¬ (m = 0 ∨ d.toArray[m]! ≠ d.toArray[m - 1]!) := by
    intro c; apply hk; unfold Go.Lib.keeps; exact decide_eq_true c
   constructor
   ·rintro ⟨j, hj, e⟩; exact ⟨j, by omega, e⟩
   ·rintro ⟨j, hj, e⟩
    by_cases hjm : j = m
    ·subst hjm
     refine ⟨j - 1, by omega, ?_⟩
     rw [← e]
     apply Classical.byContradiction
     intro hn
     exact hk' (Or.inr (fun z => hn z.symm))
    ·exact ⟨j, by omega, e⟩
theorem compact_putAll (l : List Int) : Go.Lib.compact (srtS l) = putAll l [] := by
 obtain ⟨h1, h2⟩ := upTo_law (srtS l) (srtS_sorted l) (srtS l).length (Nat.le_refl _)
 obtain ⟨h3, h4⟩ := putAll_law l [] List.Pairwise.nil
 refine strict_eq _ _ h1 h3 (fun z => ?_)
 rw [h4 z]
 show z ∈ Go.Lib.compactUpTo (srtS l).toArray (srtS l).length ↔ _
 rw [h2 z]
 constructor
 ·rintro ⟨j, hj, e⟩
  refine Or.inr ((srtS_mem l z).1 ?_)
  rw [← e]
  simp [hj]
 ·rintro (e | e)
  ·cases e
  ·obtain ⟨j, hj, e2⟩ := List.getElem_of_mem ((srtS_mem l z).2 e)
   exact ⟨j, hj, by simp [hj]; exact e2⟩
theorem rdI (l : List Int) (i : Nat) (hi : i < l.length) : rd l (i : Int) = l[i] := by simp [rd, hi]
theorem ev_l09In (l : List Int) (x : Int) (hl : l.length ≤ 4194304) : Ev (fun k => spec_l09In.f k l x) (decide (x ∈ l)) := by
 have key : ∀ d i, i + d = l.length → Ev (fun k => spec_l09In.l0 k l x (i : Int)) (decide (x ∈ l.drop i)) := by
  intro d
  induction d with
  | zero =>
   intro i hi
   refine evSucc ?_
   simp only [spec_l09In.l0]
   rw [List.drop_of_length_le (by omega)]
   exact evNeg (by omega) (evEq (Ev.now _) (by simp))
  | succ d ih =>
   intro i hi
   have hlt : i < l.length := by omega
   refine evSucc ?_
   simp only [spec_l09In.l0]
   refine evPos (by omega) (evPos (by omega) ?_)
   rw [rdI l i hlt, w64 (by omega) (by omega), ci, List.drop_eq_getElem_cons hlt]
   by_cases hc : l[i] = x
   ·exact evPos hc (evEq (Ev.now _) (by rw [hc]; simp))
   ·refine evNeg hc (evEq (ih (i + 1) (by omega)) ?_)
    rw [Bool.eq_iff_iff, decide_eq_true_eq, decide_eq_true_eq, List.mem_cons]
    exact ⟨fun h => Or.inr h, fun h => h.elim (fun e => absurd e.symm hc) id⟩
 exact key l.length 0 (by omega)
theorem ev_l23Put (l : List Int) (x : Int) (hl : l.length ≤ 4194304) : Ev (fun k => spec_l23Put.f k l x) (insS x l) := by
 have put : ∀ d i out, i + d = l.length → out.length ≤ i + 1 → Ev (fun k => spec_l23Put.l0 k l x out true (i : Int)) (out ++ l.drop i) := by
  intro d
  induction d with
  | zero =>
   intro i out hi ho
   refine evSucc ?_
   simp only [spec_l23Put.l0]
   rw [List.drop_of_length_le (by omega), List.append_nil]
   exact evNeg (by omega) (evPos trivial (Ev.now _))
  | succ d ih =>
   intro i out hi ho
   have hlt : i < l.length := by omega
   refine evSucc ?_
   simp only [spec_l23Put.l0]
   refine evPos (by omega) (evPos trivial (evPos (by omega) (evPos (by omega) ?_)))
   rw [rdI l i hlt, w64 (by omega) (by omega), ci]
   refine evEq (ih (i + 1) (out ++ [l[i]]) (by omega) (by rw [List.length_append, List.length_singleton]; omega)) ?_
   rw [List.drop_eq_getElem_cons hlt, List.append_assoc]
   rfl
 have key : ∀ d i out, i + d = l.length → out.length ≤ i → Ev (fun k => spec_l23Put.l0 k l x out false (i : Int)) (out ++ insS x (l.drop i)) := by
  intro d
  induction d with
  | zero =>
   intro i out hi ho
   refine evSucc ?_
   simp only [spec_l23Put.l0]
   rw [List.drop_of_length_le (by omega)]
   exact evNeg (by omega) (evNeg (by simp) (evPos (by omega) (Ev.now _)))
  | succ d ih =>
   intro i out hi ho
   have hlt : i < l.length := by omega
   refine evSucc ?_
   simp only [spec_l23Put.l0]
   refine evPos (by omega) (evNeg (by simp) (evPos (by omega) ?_))
   rw [rdI l i hlt, w64 (by omega) (by omega), ci, List.drop_eq_getElem_cons hlt]
   unfold insS
   by_cases hc : x < l[i]
   ·rw [if_pos hc]
    refine evPos hc (evPos (by omega) ?_)
    simp only [Option.bind_some]
    refine evPos (by rw [List.length_append, List.length_singleton]; omega) ?_
    refine evEq (put d (i + 1) ((out ++ [x]) ++ [l[i]]) (by omega) (by rw [List.length_append, List.length_append, List.length_singleton, List.length_singleton]; omega)) ?_
    rw [List.append_assoc, List.append_assoc]
    rfl
   ·rw [if_neg hc]
    refine evNeg hc (evPos (by omega) ?_)
    refine evEq (ih (i + 1) (out ++ [l[i]]) (by omega) (by rw [List.length_append, List.length_singleton]; omega)) ?_
    rw [List.append_assoc]
    rfl
 exact key l.length 0 [] (by omega) (Nat.le_refl _)
theorem sort_f (l : List Int) (h : l.length ≤ 4194304) : slices_Sort_int_int.f l = some (srtS l) := if_pos (by omega)
def halfB (n : Int) : Bool := decide (0 ≤ n) && decide (n ≤ 4294967295)
theorem impl_half (n : Int) : impl_HalfOk.f n = some (halfB n) := by
 unfold impl_HalfOk.f impl_within.f halfB
 by_cases h : n ≥ 0
 ·simp [h]
 ·simp [h]
  try omega
def wideB (w : S98) : Bool := halfB w.f0 && halfB w.f1
theorem impl_wide (w : S98) : impl_WideOk.f w.f0 w.f1 = some (wideB w) := by
 unfold impl_WideOk.f wideB
 rw [impl_half, impl_half]
 cases halfB w.f0 <;> simp
theorem spec_half (n : Int) : spec_HalfOk.f n = some (halfB n) := by
 unfold spec_HalfOk.f spec_l01In.f halfB
 by_cases h : n ≥ 0
 ·simp [h]
 ·simp [h]
  try omega
theorem spec_wide (w : S98) : spec_WideOk.f w.f0 w.f1 = some (wideB w) := by
 unfold spec_WideOk.f wideB
 rw [spec_half, spec_half]
 cases halfB w.f0 <;> simp
def rng (x lo hi : Int) : Bool := decide (lo ≤ x) && decide (x ≤ hi)
theorem spec_in (x lo hi : Int) : spec_l01In.f x lo hi = some (rng x lo hi) := by
 unfold spec_l01In.f rng
 by_cases h : x ≥ lo
 ·simp [h]
 ·simp [h]
  try omega
theorem impl_in (x lo hi : Int) : impl_within.f x lo hi = some (rng x lo hi) := by
 unfold impl_within.f rng
 by_cases h : x ≥ lo
 ·simp [h]
 ·simp [h]
  try omega
theorem evAll {r : Bool} (n : Nat) (P : Nat → Bool) (g : Nat → Nat → Option Bool) (bad : ∀ i, i < n → P i = false → Ev (g i) false) (step : ∀ i, i < n → P i = true → ∀ s, Ev (g (i + 1)) s → Ev (g i) s) (last : Ev (g n) r) : Ev (g 0) ((List.range n).all P && r) := by
 have key : ∀ d i, i + d = n → Ev (g i) ((List.range' i d).all P && r) := by
  intro d
  induction d with
  | zero => intro i hi; rw [show i = n by omega]; exact evEq last (by simp)
  | succ d ih =>
   intro i hi
   rw [List.range'_succ, List.all_cons]
   cases hp : P i
   ·exact evEq (bad i (by omega) hp) (by simp)
   ·exact evEq (step i (by omega) hp _ (ih (i + 1) (by omega))) (by simp)
 have := key n 0 (by omega)
 rw [List.range_eq_range']
 exact this
theorem rdRu (l : List S53) (i : Nat) (hi : i < l.length) : rd_T53 l (i : Int) = l[i] := by simp [rd_T53, hi]
theorem rdN (l : List Int) (i : Nat) (hi : i < l.length) : rd l (i : Int) = l[i] := by simp [rd, hi]
def condB (c : S100) : Bool := rng c.f0 0 2 && (wideB c.f1 && (wideB c.f3 && rng c.f2 1 6))
theorem impl_cond (c : S100) : impl_CondOk.f c.f0 c.f1.f0 c.f1.f1 c.f2 c.f3.f0 c.f3.f1 = some (condB c) := by
 unfold impl_CondOk.f condB
 rw [impl_in, impl_in, impl_wide c.f1, impl_wide c.f3]
 cases rng c.f0 0 2 <;> cases wideB c.f1 <;> cases wideB c.f3 <;> simp
theorem spec_cond (c : S100) : spec_CondOk.f c.f0 c.f1.f0 c.f1.f1 c.f2 c.f3.f0 c.f3.f1 = some (condB c) := by
 unfold spec_CondOk.f condB
 rw [spec_in, spec_in, spec_wide c.f1, spec_wide c.f3]
 cases rng c.f0 0 2 <;> cases wideB c.f1 <;> cases wideB c.f3 <;> simp
def actB (a d : Int) : Bool := rng a 0 5 && rng d 0 65535
theorem impl_act (a d : Int) : impl_actionOk.f a d = some (actB a d) := by
 unfold impl_actionOk.f actB
 rw [impl_in, impl_in]
 cases rng a 0 5 <;> simp
theorem spec_act (a d : Int) : spec_l09Act.f a d = some (actB a d) := by
 unfold spec_l09Act.f actB
 rw [spec_in, spec_in]
 cases rng a 0 5 <;> simp
def numAt (l : List Int) (i : Nat) : Bool := halfB (l.getD i 0) && (decide (i = 0) || decide (l.getD (i - 1) 0 < l.getD i 0))
def condAt (l : List S100) (i : Nat) : Bool := condB (rd_T100 l (i : Int))
def ruleEnd (r : S53) : Bool := decide (r.f0.length ≤ 4) && (decide (r.f1.length ≤ 3) && actB r.f2 r.f3)
def ruleB (r : S53) : Bool := (List.range r.f0.length).all (numAt r.f0) && ((List.range r.f1.length).all (condAt r.f1) && ruleEnd r)
def ruleAt (l : List S53) (i : Nat) : Bool := ruleB (rd_T53 l (i : Int))
def polB (a b d : Int) (l : List S53) : Bool := (List.range l.length).all (ruleAt l) && (halfB a && (actB b d && decide (l.length ≤ 10)))
theorem numsLoop {s : Bool} (l : List Int) (hl : l.length ≤ 1048576) (i : Nat) (hi : i < l.length) : (numAt l i = (halfB l[i] && (decide (i = 0) || decide (l.getD (i - 1) 0 < l[i])))) := by
 unfold numAt
 rw [show l.getD i 0 = l[i] by simp [hi]]
theorem ev_impl_ruleOk (r : S53) (h0 : r.f0.length ≤ 1048576) (h1 : r.f1.length ≤ 1048576) : Ev (fun k => impl_ruleOk.f k r.f0 r.f1 r.f2 r.f3) (ruleB r) := by
 unfold ruleB
 simp only [impl_ruleOk.f]
 have step : ∀ i (hi : i < r.f0.length) (s : Bool), (numAt r.f0 i = true → Ev (fun k => impl_ruleOk.l0 k r.f0 (r.f0.length : Int) ((i + 1 : Nat) : Int) r.f0 r.f1 r.f2 r.f3) s) → (numAt r.f0 i = false → s = false) → Ev (fun k => impl_ruleOk.l0 k r.f0 (r.f0.length : Int) (i : Int) r.f0 r.f1 r.f2 r.f3) s := by
  intro i hi s hs hf
  refine evSucc ?_
  simp only [impl_ruleOk.l0]
  refine evPos (by omega) (evPos (by omega) (evPos (by omega) (evBindS (impl_half _) ?_)))
  rw [rdN r.f0 i hi, w64 (x := (i : Int) + 1) (by omega) (by omega), ci]
  have hn : numAt r.f0 i = (halfB r.f0[i] && (decide (i = 0) || decide (r.f0.getD (i - 1) 0 < r.f0[i]))) := numsLoop (s := s) r.f0 h0 i hi
  rw [hn] at hs hf
  cases hb : halfB r.f0[i]
  ·rw [hb] at hf
   exact evNeg (by simp) (evEq (Ev.now _) (hf (by simp)).symm)
  ·rw [hb] at hs hf
   refine evPos rfl ?_
   by_cases hz : i = 0
   ·refine evNeg (by omega) (hs (by simp [hz]))
   ·refine evPos (by omega) ?_
    rw [w64 (by omega) (by omega), show (i : Int) - 1 = ((i - 1 : Nat) : Int) by omega]
    refine evPos (by omega) (evPos (by omega) ?_)
    have hg : r.f0.getD (i - 1) 0 = r.f0[i - 1]'(by omega) := by simp [show i - 1 < r.f0.length by omega]
    rw [hg] at hs hf
    rw [rdN r.f0 (i - 1) (by omega)]
    by_cases hc : r.f0[i - 1]'(by omega) ≥ r.f0[i]
    ·exact evPos hc (evEq (Ev.now _) (hf (by simp [hz]; omega)).symm)
    ·exact evNeg hc (hs (by simp; omega))
 refine evAll r.f0.length (numAt r.f0) (fun i k => impl_ruleOk.l0 k r.f0 (r.f0.length : Int) (i : Int) r.f0 r.f1 r.f2 r.f3) (fun i hi hf => step i hi false (fun h => by rw [hf] at h; cases h) (fun _ => rfl)) (fun i hi ht s hs => step i hi s (fun _ => hs) (fun h => by rw [ht] at h; cases h)) ?_
 refine evSucc ?_
 simp only [impl_ruleOk.l0]
 refine evNeg (by omega) ?_
 refine evAll r.f1.length (condAt r.f1) (fun i k => impl_ruleOk.l1 k r.f1 (r.f1.length : Int) (i : Int) r.f0 r.f1 r.f2 r.f3) ?_ ?_ ?_
 ·intro i hi hf
  refine evSucc ?_
  simp only [impl_ruleOk.l1]
  refine evPos (by omega) (evPos (by omega) (evPos (by omega) (evBindS (impl_cond _) (evNeg ?_ (Ev.now _)))))
  rw [show condB (rd_T100 r.f1 (i : Int)) = condAt r.f1 i from rfl, hf]
  simp
 ·intro i hi ht s hs
  refine evSucc ?_
  simp only [impl_ruleOk.l1]
  refine evPos (by omega) (evPos (by omega) (evPos (by omega) (evBindS (impl_cond _) (evPos ht ?_))))
  rw [w64 (by omega) (by omega), ci]
  exact hs
 ·refine evSucc ?_
  simp only [impl_ruleOk.l1]
  refine evNeg (by omega) ?_
  unfold ruleEnd
  by_cases h4 : r.f0.length ≤ 4
  ·refine evPos (by omega) ?_
   by_cases h3 : r.f1.length ≤ 3
   ·exact evPos (by omega) (evBindS (impl_act _ _) (evEq (Ev.now _) (by simp [h4, h3])))
   ·exact evNeg (by omega) (evEq (Ev.now _) (by simp [h3]))
  ·exact evNeg (by omega) (evEq (Ev.now _) (by simp [h4]))
theorem ev_spec_l09Rule (r : S53) (h0 : r.f0.length ≤ 1048576) (h1 : r.f1.length ≤ 1048576) : Ev (fun k => spec_l09Rule.f k r.f0 r.f1 r.f2 r.f3) (ruleB r) := by
 unfold ruleB
 simp only [spec_l09Rule.f]
 have step : ∀ i (hi : i < r.f0.length) (s : Bool), (numAt r.f0 i = true → Ev (fun k => spec_l09Rule.l0 k ((i + 1 : Nat) : Int) r.f0 r.f1 r.f2 r.f3) s) → (numAt r.f0 i = false → s = false) → Ev (fun k => spec_l09Rule.l0 k (i : Int) r.f0 r.f1 r.f2 r.f3) s := by
  intro i hi s hs hf
  refine evSucc ?_
  simp only [spec_l09Rule.l0]
  refine evPos (by omega) (evPos (by omega) (evBindS (spec_half _) ?_))
  rw [rdN r.f0 i hi, w64 (x := (i : Int) + 1) (by omega) (by omega), ci]
  have hn : numAt r.f0 i = (halfB r.f0[i] && (decide (i = 0) || decide (r.f0.getD (i - 1) 0 < r.f0[i]))) := numsLoop (s := s) r.f0 h0 i hi
  rw [hn] at hs hf
  cases hb : halfB r.f0[i]
  ·rw [hb] at hf
   exact evNeg (by simp) (evEq (Ev.now _) (hf (by simp)).symm)
  ·rw [hb] at hs hf
   refine evPos rfl ?_
   by_cases hz : i = 0
   ·refine evNeg (by omega) (hs (by simp [hz]))
   ·refine evPos (by omega) ?_
    rw [w64 (by omega) (by omega), show (i : Int) - 1 = ((i - 1 : Nat) : Int) by omega]
    refine evPos (by omega) (evPos (by omega) ?_)
    have hg : r.f0.getD (i - 1) 0 = r.f0[i - 1]'(by omega) := by simp [show i - 1 < r.f0.length by omega]
    rw [hg] at hs hf
    rw [rdN r.f0 (i - 1) (by omega)]
    by_cases hc : r.f0[i - 1]'(by omega) ≥ r.f0[i]
    ·exact evPos hc (evEq (Ev.now _) (hf (by simp [hz]; omega)).symm)
    ·exact evNeg hc (hs (by simp; omega))
 refine evAll r.f0.length (numAt r.f0) (fun i k => spec_l09Rule.l0 k (i : Int) r.f0 r.f1 r.f2 r.f3) (fun i hi hf => step i hi false (fun h => by rw [hf] at h; cases h) (fun _ => rfl)) (fun i hi ht s hs => step i hi s (fun _ => hs) (fun h => by rw [ht] at h; cases h)) ?_
 refine evSucc ?_
 simp only [spec_l09Rule.l0]
 refine evNeg (by omega) ?_
 refine evAll r.f1.length (condAt r.f1) (fun i k => spec_l09Rule.l1 k (i : Int) r.f0 r.f1 r.f2 r.f3) ?_ ?_ ?_
 ·intro i hi hf
  refine evSucc ?_
  simp only [spec_l09Rule.l1]
  refine evPos (by omega) (evPos (by omega) (evBindS (spec_cond _) (evNeg ?_ (Ev.now _))))
  rw [show condB (rd_T100 r.f1 (i : Int)) = condAt r.f1 i from rfl, hf]
  simp
 ·intro i hi ht s hs
  refine evSucc ?_
  simp only [spec_l09Rule.l1]
  refine evPos (by omega) (evPos (by omega) (evBindS (spec_cond _) (evPos ht ?_)))
  rw [w64 (by omega) (by omega), ci]
  exact hs
 ·refine evSucc ?_
  simp only [spec_l09Rule.l1]
  refine evNeg (by omega) ?_
  unfold ruleEnd
  by_cases h4 : r.f0.length ≤ 4
  ·refine evPos (by omega) ?_
   by_cases h3 : r.f1.length ≤ 3
   ·exact evPos (by omega) (evBindS (spec_act _ _) (evEq (Ev.now _) (by simp [h4, h3])))
   ·exact evNeg (by omega) (evEq (Ev.now _) (by simp [h3]))
  ·exact evNeg (by omega) (evEq (Ev.now _) (by simp [h4]))
def polSmall (l : List S53) : Prop := l.length ≤ 1048576 ∧ ∀ r ∈ l, r.f0.length ≤ 1048576 ∧ r.f1.length ≤ 1048576
theorem ev_impl_PolicyOk (a b d : Int) (l : List S53) (hl : polSmall l) : Ev (fun k => impl_PolicyOk.f k a b d l) (polB a b d l) := by
 have hz := hl.1
 unfold polB
 simp only [impl_PolicyOk.f]
 refine evAll l.length (ruleAt l) (fun i k => impl_PolicyOk.l0 k l (l.length : Int) (i : Int) a b d l) ?_ ?_ ?_
 ·intro i hi hf
  refine evSucc ?_
  simp only [impl_PolicyOk.l0]
  have hm := hl.2 _ (List.getElem_mem hi)
  rw [← rdRu l i hi] at hm
  refine evPos (by omega) (evPos (by omega) (evPos (by omega) (Ev.bind (ev_impl_ruleOk _ hm.1 hm.2) (evNeg ?_ (Ev.now _)))))
  rw [show ruleB (rd_T53 l (i : Int)) = ruleAt l i from rfl, hf]
  simp
 ·intro i hi ht s hs
  refine evSucc ?_
  simp only [impl_PolicyOk.l0]
  have hm := hl.2 _ (List.getElem_mem hi)
  rw [← rdRu l i hi] at hm
  refine evPos (by omega) (evPos (by omega) (evPos (by omega) (Ev.bind (ev_impl_ruleOk _ hm.1 hm.2) (evPos ht ?_))))
  rw [w64 (by omega) (by omega), ci]
  exact hs
 ·refine evSucc ?_
  simp only [impl_PolicyOk.l0]
  refine evNeg (by omega) (evBindS (impl_half _) ?_)
  cases halfB a
  ·exact evNeg (by simp) (Ev.now _)
  ·refine evPos rfl (evBindS (impl_act _ _) ?_)
   cases actB b d
   ·exact evNeg (by simp) (Ev.now _)
   ·refine evPos rfl (evEq (Ev.now _) ?_)
    simp only [Bool.true_and]
    rw [Bool.eq_iff_iff]
    simp
    try omega
theorem ev_spec_PolicyOk (a b d : Int) (l : List S53) (hl : polSmall l) : Ev (fun k => spec_PolicyOk.f k a b d l) (polB a b d l) := by
 have hz := hl.1
 unfold polB
 simp only [spec_PolicyOk.f]
 refine evAll l.length (ruleAt l) (fun i k => spec_PolicyOk.l0 k (i : Int) a b d l) ?_ ?_ ?_
 ·intro i hi hf
  refine evSucc ?_
  simp only [spec_PolicyOk.l0]
  have hm := hl.2 _ (List.getElem_mem hi)
  rw [← rdRu l i hi] at hm
  refine evPos (by omega) (evPos (by omega) (Ev.bind (ev_spec_l09Rule _ hm.1 hm.2) (evNeg ?_ (Ev.now _))))
  rw [show ruleB (rd_T53 l (i : Int)) = ruleAt l i from rfl, hf]
  simp
 ·intro i hi ht s hs
  refine evSucc ?_
  simp only [spec_PolicyOk.l0]
  have hm := hl.2 _ (List.getElem_mem hi)
  rw [← rdRu l i hi] at hm
  refine evPos (by omega) (evPos (by omega) (Ev.bind (ev_spec_l09Rule _ hm.1 hm.2) (evPos ht ?_)))
  rw [w64 (by omega) (by omega), ci]
  exact hs
 ·refine evSucc ?_
  simp only [spec_PolicyOk.l0]
  refine evNeg (by omega) (evBindS (spec_half _) ?_)
  cases halfB a
  ·exact evNeg (by simp) (Ev.now _)
  ·refine evPos rfl (evBindS (spec_act _ _) ?_)
   cases actB b d
   ·exact evNeg (by simp) (Ev.now _)
   ·refine evPos rfl (evEq (Ev.now _) ?_)
    simp only [Bool.true_and]
    rw [Bool.eq_iff_iff]
    simp
    try omega
theorem polB_bounds {a b d : Int} {l : List S53} (h : polB a b d l = true) : l.length ≤ 10 ∧ ∀ r ∈ l, r.f0.length ≤ 4 ∧ r.f1.length ≤ 3 := by
 unfold polB at h
 simp only [Bool.and_eq_true, decide_eq_true_eq] at h
 refine ⟨h.2.2.2, fun r hr => ?_⟩
 obtain ⟨j, hj, rfl⟩ := List.getElem_of_mem hr
 have h1 := List.all_eq_true.1 h.1 j (List.mem_range.2 hj)
 unfold ruleAt ruleB ruleEnd at h1
 rw [rdRu l j hj] at h1
 simp only [Bool.and_eq_true, decide_eq_true_eq] at h1
 exact ⟨h1.2.2.1, h1.2.2.2.1⟩
def flatN (l : List S53) : List Int := l.flatMap (fun r => r.f0)
theorem flatN_cons (r : S53) (l : List S53) : flatN (r :: l) = r.f0 ++ flatN l := by simp [flatN]
theorem flatN_len : ∀ (l : List S53), (∀ r ∈ l, r.f0.length ≤ 4) → (flatN l).length ≤ 4 * l.length := by
 intro l
 induction l with
 | nil => intro _; simp [flatN]
 | cons r l ih =>
  intro h
  have h1 := h r List.mem_cons_self
  have h2 := ih (fun x hx => h x (List.mem_cons_of_mem _ hx))
  rw [flatN_cons, List.length_append, List.length_cons]
  omega
def numsL (a b d : Int) (l : List S53) : List Int := if polB a b d l = true then putAll (flatN l) [] else []
theorem ev_spec_NumsSaid (a b d : Int) (l : List S53) (hl : polSmall l) : Ev (fun k => spec_NumsSaid.f k a b d l) (numsL a b d l) := by
 unfold numsL
 simp only [spec_NumsSaid.f]
 refine evBindS rfl (Ev.bind (ev_spec_PolicyOk a b d l hl) ?_)
 by_cases hp : polB a b d l = true
 ·rw [if_pos hp]
  refine evPos hp ?_
  obtain ⟨hb1, hb2⟩ := polB_bounds hp
  have key : ∀ e i acc, i + e = l.length → acc.length ≤ 4 * i → Ev (fun k => spec_NumsSaid.l0 k acc (i : Int) a b d l) (putAll (flatN (l.drop i)) acc) := by
   intro e
   induction e with
   | zero =>
    intro i acc hi ha
    refine evSucc ?_
    simp only [spec_NumsSaid.l0]
    rw [List.drop_of_length_le (by omega)]
    exact evNeg (by omega) (Ev.now _)
   | succ e ih =>
    intro i acc hi ha
    have hlt : i < l.length := by omega
    have h4 := (hb2 _ (List.getElem_mem hlt)).1
    rw [List.drop_eq_getElem_cons hlt, flatN_cons]
    refine evSucc ?_
    simp only [spec_NumsSaid.l0]
    refine evPos (by omega) ?_
    have inner : ∀ c j acc', j + c = l[i].f0.length → acc'.length ≤ 4 * i + j → Ev (fun k => spec_NumsSaid.l1 k acc' (i : Int) (j : Int) a b d l) (putAll (l[i].f0.drop j ++ flatN (l.drop (i + 1))) acc') := by
     intro c
     induction c with
     | zero =>
      intro j acc' hj ha'
      refine evSucc ?_
      simp only [spec_NumsSaid.l1]
      rw [rdRu l i hlt, List.drop_of_length_le (by omega), List.nil_append]
      refine evPos (by omega) (evPos (by omega) (evNeg (by omega) ?_))
      rw [w64 (by omega) (by omega), ci]
      exact ih (i + 1) acc' (by omega) (by omega)
     | succ c ihc =>
      intro j acc' hj ha'
      have hjt : j < l[i].f0.length := by omega
      refine evSucc ?_
      simp only [spec_NumsSaid.l1]
      rw [rdRu l i hlt, rdI _ j hjt, w64 (x := (j : Int) + 1) (by omega) (by omega), ci j, List.drop_eq_getElem_cons hjt, List.cons_append]
      refine evPos (by omega) (evPos (by omega) (evPos (by omega) (evPos (by omega) (Ev.bind (ev_l09In acc' _ (by omega)) ?_))))
      unfold putAll
      by_cases hc : l[i].f0[j] ∈ acc'
      ·rw [if_pos hc]
       exact evPos (decide_eq_true hc) (ihc (j + 1) acc' (by omega) (by omega))
      ·rw [if_neg hc]
       exact evNeg (by rw [decide_eq_true_eq]; exact hc) (Ev.bind (ev_l23Put acc' _ (by omega)) (ihc (j + 1) _ (by omega) (by rw [insS_len]; omega)))
    exact inner l[i].f0.length 0 acc (by omega) (by omega)
  exact key l.length 0 [] (by omega) (Nat.zero_le _)
 ·rw [if_neg hp]
  exact evNeg hp (Ev.now _)
theorem ev_impl_NumsSaid (a b d : Int) (l : List S53) (hl : polSmall l) : Ev (fun k => impl_NumsSaid.f k a b d l) (numsL a b d l) := by
 unfold numsL
 simp only [impl_NumsSaid.f]
 refine Ev.bind (ev_impl_PolicyOk a b d l hl) ?_
 by_cases hp : polB a b d l = true
 ·rw [if_pos hp]
  refine evPos hp ?_
  obtain ⟨hb1, hb2⟩ := polB_bounds hp
  refine Ev.bind (a := putAll (flatN l) []) ?_ (Ev.now _)
  simp only [impl_NumsOf.f]
  have fl : ∀ i, (flatN (l.take i)).length ≤ 40 := by
   intro i
   have := flatN_len (l.take i) (fun r hr => (hb2 r (List.mem_of_mem_take hr)).1)
   rw [List.length_take] at this
   omega
  have key := evUp (r := putAll (flatN l) []) l.length (fun i k => impl_NumsOf.l0 k (flatN (l.take i)) l (l.length : Int) (i : Int)) ?_ ?_
  ·exact key
  ·intro i hi ih
   have h4 := (hb2 _ (List.getElem_mem hi)).1
   have := fl i
   refine evSucc ?_
   simp only [impl_NumsOf.l0]
   rw [rdRu l i hi, w64 (by omega) (by omega), ci]
   refine evPos (by omega) (evPos (by omega) (evPos (by omega) (evPos (by omega) ?_)))
   rw [takeSnoc l i hi] at ih
   have e : flatN (l.take i ++ [l[i]]) = flatN (l.take i) ++ l[i].f0 := by
    unfold flatN
    rw [List.flatMap_append, List.flatMap_cons, List.flatMap_nil, List.append_nil]
   rw [e] at ih
   exact ih
  ·refine evSucc ?_
   simp only [impl_NumsOf.l0]
   refine evNeg (by omega) ?_
   have := fl l.length
   rw [List.take_length] at this ⊢
   refine evBindS (sort_f _ (by omega)) ?_
   refine evBindS (show slices_Compact_int_int.f (srtS (flatN l)) = some (Go.Lib.compact (srtS (flatN l))) from rfl) ?_
   rw [compact_putAll]
   exact Ev.now _
 ·rw [if_neg hp]
  exact evNeg hp (Ev.now _)
theorem numsL_len (a b d : Int) (l : List S53) : (numsL a b d l).length ≤ 40 := by
 unfold numsL
 split
 ·rename_i hp
  obtain ⟨hb1, hb2⟩ := polB_bounds hp
  have h1 := flatN_len l (fun r hr => (hb2 r hr).1)
  have h2 := putAll_len (flatN l) []
  rw [List.length_nil] at h2
  omega
 ·exact Nat.zero_le _
def cvCond (x : S144) : S100 := ⟨x.f0, ⟨x.f1.f0, x.f1.f1⟩, x.f2, ⟨x.f3.f0, x.f3.f1⟩⟩
def cvRule (x : S112) : S53 := ⟨x.f0, x.f1.map cvCond, x.f2, x.f3⟩
theorem rdLCo (l : List S144) (i : Nat) (hi : i < l.length) : rd_T144 l (i : Int) = l[i] := by simp [rd_T144, hi]
theorem rdLRu (l : List S112) (i : Nat) (hi : i < l.length) : rd_T112 l (i : Int) = l[i] := by simp [rd_T112, hi]
theorem ev_toIntS (l : List Int) (hl : l.length ≤ 1048576) : Ev (fun k => laws_toIntS.f k l) l := by
 have key := evUp (r := l) l.length (fun i k => laws_toIntS.l0 k l ((l.take i).map id ++ List.replicate (l.length - i) 0) (i : Int)) ?_ ?_
 ·refine Ev.congr (fun k => ?_) key
  unfold laws_toIntS.f
  rw [if_pos (by omega), if_pos (by omega)]
  simp
 ·intro i hi ih
  refine evSucc ?_
  simp only [laws_toIntS.l0]
  refine evPos (by omega) (evPos (by omega) ?_)
  rw [rdN l i hi]
  refine evPos (by simp; omega) ?_
  rw [w64 (by omega) (by omega), ci, Int.toNat_natCast]
  have := fillStep (id : Int → Int) 0 l i hi
  simp only [id_eq] at this
  rw [this]
  exact ih
 ·refine evSucc ?_
  simp only [laws_toIntS.l0]
  refine evNeg (by omega) ?_
  simp
  exact Ev.now _
theorem ev_toCondS (l : List S144) (hl : l.length ≤ 1048576) : Ev (fun k => laws_toCondS.f k l) (l.map cvCond) := by
 have key := evUp (r := l.map cvCond) l.length (fun i k => laws_toCondS.l0 k l ((l.take i).map cvCond ++ List.replicate (l.length - i) z100) (i : Int)) ?_ ?_
 ·refine Ev.congr (fun k => ?_) key
  unfold laws_toCondS.f
  rw [if_pos (by omega), if_pos (by omega)]
  simp
 ·intro i hi ih
  refine evSucc ?_
  simp only [laws_toCondS.l0]
  refine evPos (by omega) (evPos (by omega) ?_)
  simp only [laws_toCond.f, laws_toWide.f, Option.bind_some, rdLCo l i hi]
  refine evPos (by simp; omega) ?_
  rw [w64 (by omega) (by omega), ci, Int.toNat_natCast]
  rw [show (⟨l[i].f0, ⟨l[i].f1.f0, l[i].f1.f1⟩, l[i].f2, ⟨l[i].f3.f0, l[i].f3.f1⟩⟩ : S100) = cvCond l[i] from rfl, fillStep cvCond _ l i hi]
  exact ih
 ·refine evSucc ?_
  simp only [laws_toCondS.l0]
  refine evNeg (by omega) ?_
  simp
  exact Ev.now _
def argSmall (l : List S112) : Prop := l.length ≤ 1048576 ∧ ∀ r ∈ l, r.f0.length ≤ 1048576 ∧ r.f1.length ≤ 1048576
theorem cv_small {l : List S112} (h : argSmall l) : polSmall (l.map cvRule) := by
 refine ⟨by simpa using h.1, fun r hr => ?_⟩
 obtain ⟨x, hx, rfl⟩ := List.mem_map.1 hr
 exact ⟨(h.2 x hx).1, by show (x.f1.map cvCond).length ≤ _; rw [List.length_map]; exact (h.2 x hx).2⟩
theorem ev_toRuleS (l : List S112) (hl : argSmall l) : Ev (fun k => laws_toRuleS.f k l) (l.map cvRule) := by
 have hz := hl.1
 have key := evUp (r := l.map cvRule) l.length (fun i k => laws_toRuleS.l0 k l ((l.take i).map cvRule ++ List.replicate (l.length - i) z53) (i : Int)) ?_ ?_
 ·refine Ev.congr (fun k => ?_) key
  unfold laws_toRuleS.f
  rw [if_pos (by omega), if_pos (by omega)]
  simp
 ·intro i hi ih
  have hm := hl.2 _ (List.getElem_mem hi)
  refine evSucc ?_
  simp only [laws_toRuleS.l0, laws_toRule.f]
  refine evPos (by omega) (evPos (by omega) ?_)
  rw [rdLRu l i hi]
  refine Ev.bind (a := (l[i].f0, l[i].f1.map cvCond, l[i].f2, l[i].f3)) (Ev.bind (ev_toIntS _ hm.1) (Ev.bind (ev_toCondS _ hm.2) (Ev.now _))) ?_
  refine evPos (by simp; omega) ?_
  rw [w64 (by omega) (by omega), ci, Int.toNat_natCast]
  show Ev (fun k => laws_toRuleS.l0 k l ((((l.take i).map cvRule ++ List.replicate (l.length - i) z53).set i (cvRule l[i]))) _) _
  rw [fillStep cvRule _ l i hi]
  exact ih
 ·refine evSucc ?_
  simp only [laws_toRuleS.l0]
  refine evNeg (by omega) ?_
  simp
  exact Ev.now _
theorem ev_toPolicy (a b d : Int) (l : List S112) (hl : argSmall l) : Ev (fun k => laws_toPolicy.f k a b d l) (a, b, d, l.map cvRule) := by
 simp only [laws_toPolicy.f]
 exact Ev.bind (ev_toRuleS l hl) (Ev.now _)
theorem szInt_cases (l : List Int) (left : Int) (h0 : 0 ≤ left) (h1 : left ≤ 1048576) (hb : l.length ≤ 9223372036854775807) : laws_szIntS.f l left = some (-1) ∨ (laws_szIntS.f l left = some (left - (l.length : Int)) ∧ (l.length : Int) ≤ left) := by
 unfold laws_szIntS.f
 rw [w64 (by omega) (by omega)]
 by_cases h : left - (l.length : Int) < 0
 ·left; rw [if_pos h]
 ·right; rw [if_neg h]; exact ⟨rfl, by omega⟩
theorem szCond_cases (l : List S144) (left : Int) (h0 : 0 ≤ left) (h1 : left ≤ 1048576) (hb : l.length ≤ 9223372036854775807) : laws_szCondS.f l left = some (-1) ∨ (laws_szCondS.f l left = some (left - (l.length : Int)) ∧ (l.length : Int) ≤ left) := by
 unfold laws_szCondS.f
 rw [w64 (by omega) (by omega)]
 by_cases h : left - (l.length : Int) < 0
 ·left; rw [if_pos h]
 ·right; rw [if_neg h]; exact ⟨rfl, by omega⟩
theorem szRule_cases (r : S112) (left : Int) (h0 : 0 ≤ left) (h1 : left ≤ 1048576) (hb : r.f0.length ≤ 9223372036854775807) (hc : r.f1.length ≤ 9223372036854775807) : laws_szRule.f r.f0 r.f1 r.f2 r.f3 left = some (-1) ∨ ∃ s, laws_szRule.f r.f0 r.f1 r.f2 r.f3 left = some s ∧ 0 ≤ s ∧ s ≤ left ∧ r.f0.length ≤ 1048576 ∧ r.f1.length ≤ 1048576 := by
 unfold laws_szRule.f
 rcases szInt_cases r.f0 left h0 h1 hb with e | ⟨e, h2⟩
 ·left; rw [e]; rfl
 ·rw [e]
  simp only [Option.bind_some]
  rw [if_neg (by omega)]
  rcases szCond_cases r.f1 (left - (r.f0.length : Int)) (by omega) (by omega) hc with e2 | ⟨e2, h3⟩
  ·left; rw [e2]; rfl
  ·right
   rw [e2]
   simp only [Option.bind_some]
   rw [if_neg (by omega)]
   exact ⟨_, rfl, by omega, by omega, by omega, by omega⟩
def argBig (l : List S112) : Prop := l.length ≤ 9223372036854775807 ∧ ∀ r ∈ l, r.f0.length ≤ 9223372036854775807 ∧ r.f1.length ≤ 9223372036854775807
theorem ev_szPolicy (a b d : Int) (l : List S112) (hl : argBig l) : ∃ s, Ev (fun k => laws_szPolicy.f k a b d l 1048576) s ∧ (s < 0 ∨ argSmall l) := by
 have hz := hl.1
 have main : ∃ s, Ev (fun k => laws_szRuleS.f k l 1048576) s ∧ (s < 0 ∨ argSmall l) := by
  simp only [laws_szRuleS.f]
  rw [w64 (x := 1048576 - (l.length : Int)) (by omega) (by omega)]
  by_cases h : 1048576 - (l.length : Int) < 0
  ·exact ⟨-1, evPos h (Ev.now _), Or.inl (by omega)⟩
  ·have key : ∀ e i (left : Int), i + e = l.length → 0 ≤ left → left ≤ 1048576 → (∀ r ∈ l.take i, r.f0.length ≤ 1048576 ∧ r.f1.length ≤ 1048576) → ∃ s, Ev (fun k => laws_szRuleS.l0 k l left (i : Int)) s ∧ (s < 0 ∨ argSmall l) := by
    intro e
    induction e with
    | zero =>
     intro i left hi h0 h1 hs
     refine ⟨left, evSucc ?_, Or.inr ⟨by omega, ?_⟩⟩
     ·simp only [laws_szRuleS.l0]
      exact evNeg (by omega) (Ev.now _)
     ·rw [List.take_of_length_le (by omega)] at hs
      exact hs
    | succ e ih =>
     intro i left hi h0 h1 hs
     have hlt : i < l.length := by omega
     have hb := hl.2 _ (List.getElem_mem hlt)
     rcases szRule_cases l[i] left h0 h1 hb.1 hb.2 with e1 | ⟨s1, e1, h2, h3, h4, h5⟩
     ·refine ⟨-1, evSucc ?_, Or.inl (by omega)⟩
      simp only [laws_szRuleS.l0]
      rw [rdLRu l i hlt]
      exact evPos (by omega) (evPos (by omega) (evBindS e1 (evPos (by omega) (Ev.now _))))
     ·obtain ⟨s, hs1, hs2⟩ := ih (i + 1) s1 (by omega) h2 (by omega) (by
       intro r hr
       rw [takeSnoc l i hlt] at hr
       rcases List.mem_append.1 hr with hr | hr
       ·exact hs r hr
       ·rw [List.mem_singleton] at hr; subst hr; exact ⟨h4, h5⟩)
      refine ⟨s, evSucc ?_, hs2⟩
      simp only [laws_szRuleS.l0]
      rw [rdLRu l i hlt, w64 (x := (i : Int) + 1) (by omega) (by omega), ci]
      exact evPos (by omega) (evPos (by omega) (evBindS e1 (evNeg (by omega) hs1)))
   obtain ⟨s, h1, h2⟩ := key l.length 0 (1048576 - (l.length : Int)) (by omega) (by omega) (by omega) (by simp)
   exact ⟨s, evNeg h h1, h2⟩
 obtain ⟨s, h1, h2⟩ := main
 simp only [laws_szPolicy.f]
 by_cases h : s < 0
 ·exact ⟨-1, Ev.bind h1 (evPos h (Ev.now _)), Or.inl (by omega)⟩
 ·exact ⟨s, Ev.bind h1 (evNeg h (Ev.now _)), h2⟩
theorem ev_eqInts (l : List Int) (hl : l.length ≤ 4194304) : Ev (fun k => laws_eqIntS.f k l l) true := by
 have key := evUp (r := true) l.length (fun i k => laws_eqIntS.l0 k l l (i : Int)) ?_ ?_
 ·refine Ev.congr (fun k => ?_) key
  unfold laws_eqIntS.f
  rw [if_pos rfl]
  rfl
 ·intro i hi ih
  refine evSucc ?_
  simp only [laws_eqIntS.l0]
  refine evPos (by omega) (evPos (by omega) (evPos (by omega) (evPos trivial ?_)))
  rw [w64 (by omega) (by omega), ci]
  exact ih
 ·refine evSucc ?_
  simp only [laws_eqIntS.l0]
  exact evNeg (by omega) (Ev.now _)
theorem ev_eqCondS (l : List S100) (hl : l.length ≤ 1048576) : Ev (fun k => laws_eqCondS.f k l l) true := by
 have key := evUp (r := true) l.length (fun i k => laws_eqCondS.l0 k l l (i : Int)) ?_ ?_
 ·refine Ev.congr (fun k => ?_) key
  unfold laws_eqCondS.f
  rw [if_pos rfl]
  rfl
 ·intro i hi ih
  refine evSucc ?_
  simp only [laws_eqCondS.l0]
  refine evPos (by omega) (evPos (by omega) (evPos (by omega) ?_))
  simp only [laws_eqCond.f, laws_eqWide.f, if_true, Option.bind_some]
  rw [w64 (by omega) (by omega), ci]
  exact ih
 ·refine evSucc ?_
  simp only [laws_eqCondS.l0]
  exact evNeg (by omega) (Ev.now _)
theorem ev_eqRuleS (l : List S53) (hl : polSmall l) : Ev (fun k => laws_eqRuleS.f k l l) true := by
 have hz := hl.1
 have key := evUp (r := true) l.length (fun i k => laws_eqRuleS.l0 k l l (i : Int)) ?_ ?_
 ·refine Ev.congr (fun k => ?_) key
  unfold laws_eqRuleS.f
  rw [if_pos rfl]
  rfl
 ·intro i hi ih
  have hm := hl.2 _ (List.getElem_mem hi)
  refine evSucc ?_
  simp only [laws_eqRuleS.l0, laws_eqRule.f]
  rw [rdRu l i hi]
  refine evPos (by omega) (evPos (by omega) (evPos (by omega) (Ev.bind (a := true) (Ev.bind (ev_eqInts _ (by omega)) (evPos rfl (Ev.bind (ev_eqCondS _ hm.2) (evPos rfl (evPos trivial (evPos trivial (Ev.now _))))))) (evPos rfl ?_))))
  rw [w64 (by omega) (by omega), ci]
  exact ih
 ·refine evSucc ?_
  simp only [laws_eqRuleS.l0]
  exact evNeg (by omega) (Ev.now _)
theorem ev_eqPolicy (a b d : Int) (l : List S53) (hl : polSmall l) : Ev (fun k => laws_eqPolicy.f k a b d l a b d l) true := by
 simp only [laws_eqPolicy.f]
 exact evPos trivial (evPos trivial (evPos trivial (Ev.bind (ev_eqRuleS l hl) (evPos rfl (Ev.now _)))))
theorem ev_markInts (l : List Int) (k0 : Int) (h0 : 0 ≤ k0) (h1 : k0 ≤ 1000000000000000) (hl : l.length ≤ 1048576) : ∃ L : List Int, Ev (fun k => laws_markIntS.f k l k0) (k0 + (l.length : Int), L) := by
 simp only [laws_markIntS.f]
 have key : ∀ e i (cur : List Int), i + e = l.length → cur.length = l.length → ∃ L : List Int, Ev (fun k => laws_markIntS.l0 k cur (k0 + (i : Int)) (i : Int)) (k0 + (l.length : Int), L) := by
  intro e
  induction e with
  | zero =>
   intro i cur hi hc
   refine ⟨cur, evSucc ?_⟩
   simp only [laws_markIntS.l0]
   refine evNeg (by omega) (evEq (Ev.now _) ?_)
   rw [show i = l.length by omega]
  | succ e ih =>
   intro i cur hi hc
   obtain ⟨L, hL⟩ := ih (i + 1) (cur.set i (k0 + (i : Int))) (by omega) (by rw [List.length_set]; exact hc)
   refine ⟨L, evSucc ?_⟩
   simp only [laws_markIntS.l0]
   refine evPos (by omega) (evPos (by omega) ?_)
   rw [Int.toNat_natCast, w64 (x := k0 + (i : Int) + 1) (by omega) (by omega), w64 (x := (i : Int) + 1) (by omega) (by omega), ci, show k0 + (i : Int) + 1 = k0 + ((i + 1 : Nat) : Int) by omega]
   exact hL
 have := key l.length 0 l (by omega) rfl
 rw [show k0 + ((0 : Nat) : Int) = k0 by omega] at this
 exact this
theorem ev_markConds (l : List S100) (k0 : Int) (h0 : 0 ≤ k0) (h1 : k0 ≤ 1000000000000000) (hl : l.length ≤ 1048576) : ∃ L : List S100, Ev (fun k => laws_markCondS.f k l k0) (k0 + 6 * (l.length : Int), L) := by
 simp only [laws_markCondS.f]
 have key : ∀ e i (cur : List S100), i + e = l.length → cur.length = l.length → ∃ L : List S100, Ev (fun k => laws_markCondS.l0 k cur (k0 + 6 * (i : Int)) (i : Int)) (k0 + 6 * (l.length : Int), L) := by
  intro e
  induction e with
  | zero =>
   intro i cur hi hc
   refine ⟨cur, evSucc ?_⟩
   simp only [laws_markCondS.l0]
   refine evNeg (by omega) (evEq (Ev.now _) ?_)
   rw [show i = l.length by omega]
  | succ e ih =>
   intro i cur hi hc
   have w6 : wrap64 (wrap64 (wrap64 (wrap64 (wrap64 (wrap64 (k0 + 6 * (i : Int) + 1) + 1) + 1) + 1) + 1) + 1) = k0 + 6 * ((i + 1 : Nat) : Int) := by
    rw [w64 (x := k0 + 6 * (i : Int) + 1) (by omega) (by omega), w64 (x := k0 + 6 * (i : Int) + 1 + 1) (by omega) (by omega), w64 (x := k0 + 6 * (i : Int) + 1 + 1 + 1) (by omega) (by omega), w64 (x := k0 + 6 * (i : Int) + 1 + 1 + 1 + 1) (by omega) (by omega), w64 (x := k0 + 6 * (i : Int) + 1 + 1 + 1 + 1 + 1) (by omega) (by omega), w64 (x := k0 + 6 * (i : Int) + 1 + 1 + 1 + 1 + 1 + 1) (by omega) (by omega)]
    omega
   have any : ∀ cur' : List S100, cur'.length = l.length → ∃ L : List S100, Ev (fun k => laws_markCondS.l0 k cur' (wrap64 (wrap64 (wrap64 (wrap64 (wrap64 (wrap64 (k0 + 6 * (i : Int) + 1) + 1) + 1) + 1) + 1) + 1)) (wrap64 ((i : Int) + 1))) (k0 + 6 * (l.length : Int), L) := by
    intro cur' hc'
    rw [w6, w64 (x := (i : Int) + 1) (by omega) (by omega), ci]
    exact ih (i + 1) cur' (by omega) hc'
   have fin : ∃ L : List S100, Ev (fun k => laws_markCondS.l0 (k + 1) cur (k0 + 6 * (i : Int)) (i : Int)) (k0 + 6 * (l.length : Int), L) := by
    simp only [laws_markCondS.l0, Option.bind_some, Int.toNat_natCast]
    refine Exists.imp (fun L hL => evPos (by omega) (evPos (by omega) hL)) (any _ ?_)
    simp only [List.length_set]
    exact hc
   obtain ⟨L, hL⟩ := fin
   exact ⟨L, evSucc hL⟩
 have := key l.length 0 l (by omega) rfl
 rw [show k0 + 6 * ((0 : Nat) : Int) = k0 by omega] at this
 exact this
theorem rdRuSet (l : List S53) (i : Nat) (x : S53) (hi : i < l.length) : rd_T53 (l.set i x) (i : Int) = x := by simp [rd_T53, hi]
theorem ev_markRules (l : List S53) (hl : polSmall l) : ∃ (c : Int) (L : List S53), Ev (fun k => laws_markRuleS.f k l 1) (c, L) ∧ 0 ≤ c := by
 have hz := hl.1
 simp only [laws_markRuleS.f]
 have key : ∀ e i (cur : List S53) (k0 : Int), i + e = l.length → cur.length = l.length → (∀ j (hj : j < cur.length), i ≤ j → cur[j].f0.length ≤ 1048576 ∧ cur[j].f1.length ≤ 1048576) → 0 ≤ k0 → k0 ≤ 1 + 10000000 * (i : Int) → ∃ (c : Int) (L : List S53), Ev (fun k => laws_markRuleS.l0 k cur k0 (i : Int)) (c, L) ∧ 0 ≤ c := by
  intro e
  induction e with
  | zero =>
   intro i cur k0 hi hc hs h0 h1
   refine ⟨k0, cur, evSucc ?_, h0⟩
   simp only [laws_markRuleS.l0]
   exact evNeg (by omega) (Ev.now _)
  | succ e ih =>
   intro i cur k0 hi hc hs h0 h1
   have hlt : i < cur.length := by omega
   have hm := hs i hlt (Nat.le_refl _)
   obtain ⟨L1, e1⟩ := ev_markInts cur[i].f0 k0 h0 (by omega) hm.1
   obtain ⟨L2, e2⟩ := ev_markConds cur[i].f1 (k0 + (cur[i].f0.length : Int)) (by omega) (by omega) hm.2
   have any : ∀ cur' : List S53, cur'.length = l.length → (∀ j (hj : j < cur'.length), i + 1 ≤ j → cur'[j].f0.length ≤ 1048576 ∧ cur'[j].f1.length ≤ 1048576) → ∃ (c : Int) (L : List S53), Ev (fun k => laws_markRuleS.l0 k cur' (wrap64 (wrap64 (k0 + (cur[i].f0.length : Int) + 6 * (cur[i].f1.length : Int) + 1) + 1)) (wrap64 ((i : Int) + 1))) (c, L) ∧ 0 ≤ c := by
    intro cur' hc' hs'
    rw [w64 (x := k0 + (cur[i].f0.length : Int) + 6 * (cur[i].f1.length : Int) + 1) (by omega) (by omega), w64 (x := k0 + (cur[i].f0.length : Int) + 6 * (cur[i].f1.length : Int) + 1 + 1) (by omega) (by omega), w64 (x := (i : Int) + 1) (by omega) (by omega), ci]
    exact ih (i + 1) cur' _ (by omega) hc' hs' (by omega) (by omega)
   have fin : ∃ (c : Int) (L : List S53), Ev (fun k => laws_markRuleS.l0 (k + 1) cur k0 (i : Int)) (c, L) ∧ 0 ≤ c := by
    simp only [laws_markRuleS.l0]
    obtain ⟨c, L, hL, hc0⟩ := any ((((cur.set i ⟨L1, cur[i].f1, cur[i].f2, cur[i].f3⟩).set i ⟨L1, L2, cur[i].f2, cur[i].f3⟩).set i ⟨L1, L2, k0 + (cur[i].f0.length : Int) + 6 * (cur[i].f1.length : Int), cur[i].f3⟩).set i ⟨L1, L2, k0 + (cur[i].f0.length : Int) + 6 * (cur[i].f1.length : Int), wrap64 (k0 + (cur[i].f0.length : Int) + 6 * (cur[i].f1.length : Int) + 1)⟩) (by simp only [List.length_set]; exact hc) (by
     intro j hj hij
     simp only [List.length_set] at hj
     simp only [List.getElem_set]
     simp only [show ¬ i = j by omega, if_false]
     exact hs j hj (by omega))
    refine ⟨c, L, evPos (by omega) (evPos (by omega) ?_), hc0⟩
    rw [rdRu cur i hlt]
    refine Ev.bind e1 ?_
    simp only [Option.bind_some, Int.toNat_natCast]
    rw [rdRuSet _ _ _ hlt]
    refine Ev.bind e2 ?_
    rw [rdRuSet _ _ _ (by simpa using hlt), rdRuSet _ _ _ (by simpa using hlt)]
    exact hL
   obtain ⟨c, L, hL, hc0⟩ := fin
   exact ⟨c, L, evSucc hL, hc0⟩
 exact key l.length 0 l 1 (by omega) rfl (fun j hj _ => hl.2 _ (List.getElem_mem hj)) (by omega) (by omega)
theorem ev_markPolicy (a b d : Int) (l : List S53) (hl : polSmall l) : ∃ (c : Int) (L : List S53), Ev (fun k => laws_markPolicy.f k a b d l 1) (c, L) ∧ 0 ≤ c := by
 obtain ⟨c, L, h1, h2⟩ := ev_markRules l hl
 simp only [laws_markPolicy.f]
 exact ⟨c, L, Ev.bind h1 (Ev.now _), h2⟩
def mkI (n : Nat) : List Int := (List.range n).map (fun (j : Nat) => 1 + (j : Int))
theorem mkI_len (n : Nat) : (mkI n).length = n := by simp [mkI]
theorem mkI_get (n i : Nat) (h : i < (mkI n).length) : (mkI n)[i] = 1 + (i : Int) := by simp [mkI]
theorem ev_markIntS (l : List Int) (hl : l.length ≤ 1048576) : Ev (fun k => laws_markIntS.f k l 1) (1 + (l.length : Int), mkI l.length) := by
 have key := evUp (r := (1 + (l.length : Int), mkI l.length)) l.length (fun i k => laws_markIntS.l0 k (mkI i ++ l.drop i) (1 + (i : Int)) (i : Int)) ?_ ?_
 ·exact key
 ·intro i hi ih
  refine evSucc ?_
  simp only [laws_markIntS.l0]
  refine evPos (by rw [List.length_append, mkI_len, List.length_drop]; omega) (evPos (by omega) ?_)
  rw [Int.toNat_natCast, w64 (x := 1 + (i : Int) + 1) (by omega) (by omega), w64 (x := (i : Int) + 1) (by omega) (by omega), ci]
  have e : (mkI i ++ l.drop i).set i (1 + (i : Int)) = mkI (i + 1) ++ l.drop (i + 1) := by
   rw [List.set_append_right _ _ (by rw [mkI_len]; omega), mkI_len, Nat.sub_self, List.drop_eq_getElem_cons hi, List.set_cons_zero]
   unfold mkI
   rw [List.range_succ, List.map_append, List.append_assoc]
   rfl
  rw [e, show 1 + (i : Int) + 1 = 1 + ((i + 1 : Nat) : Int) by omega]
  exact ih
 ·refine evSucc ?_
  simp only [laws_markIntS.l0]
  refine evNeg (by rw [List.length_append, mkI_len, List.length_drop]; omega) ?_
  rw [List.drop_of_length_le (Nat.le_refl _), List.append_nil]
  exact Ev.now _
theorem ev_heldIntS (n : Nat) (hn : n ≤ 1048576) : Ev (fun k => laws_heldIntS.f k (mkI n) 1) (1 + (n : Int)) := by
 have key := evUp (r := 1 + (n : Int)) n (fun i k => laws_heldIntS.l0 k (mkI n) (1 + (i : Int)) (i : Int)) ?_ ?_
 ·exact key
 ·intro i hi ih
  have hi' : i < (mkI n).length := by rw [mkI_len]; exact hi
  refine evSucc ?_
  simp only [laws_heldIntS.l0]
  refine evPos (by rw [mkI_len]; omega) (evPos (by omega) ?_)
  rw [rdI _ i hi', mkI_get n i hi', w64 (x := 1 + (i : Int) + 1) (by omega) (by omega), w64 (x := (i : Int) + 1) (by omega) (by omega), ci]
  rw [show 1 + (i : Int) + 1 = 1 + ((i + 1 : Nat) : Int) by omega]
  exact evPos rfl ih
 ·refine evSucc ?_
  simp only [laws_heldIntS.l0]
  exact evNeg (by rw [mkI_len]; omega) (Ev.now _)
theorem FnExactNumsSaid : PureFnExactNumsSaid.Stated := by
 intro c ⟨_, _, _, hb, hb2⟩
 obtain ⟨a, b, d, l⟩ := c
 have hbig : argBig l := ⟨hb2, fun r hr => ⟨(hb r hr).1.2, (hb r hr).2.1.2⟩⟩
 obtain ⟨s, hs, hs2⟩ := ev_szPolicy a b d l hbig
 refine Ev.rounds ?_
 simp only [laws_FnExactNumsSaid.f]
 refine Ev.bind hs ?_
 by_cases h : s < 0
 ·exact evPos h (Ev.now _)
 ·refine evNeg h ?_
  have hl : argSmall l := hs2.resolve_left h
  have hm := cv_small hl
  have hn := numsL_len a b d (l.map cvRule)
  have hn4 := Nat.le_trans hn (show 40 ≤ 4194304 by decide)
  have hn1 := Nat.le_trans hn (show 40 ≤ 1048576 by decide)
  refine Ev.bind (ev_toPolicy a b d l hl) (Ev.bind (ev_spec_NumsSaid a b d _ hm) (Ev.bind (ev_toPolicy a b d l hl) (Ev.bind (ev_impl_NumsSaid a b d _ hm) (Ev.bind (ev_eqInts _ hn4) (evPos rfl (Ev.bind (ev_toPolicy a b d l hl) (Ev.bind (ev_eqPolicy a b d _ hm) (evPos rfl ?_))))))))
  obtain ⟨c, L, hc, hc0⟩ := ev_markPolicy a b d (l.map cvRule) hm
  refine Ev.bind hc (evNeg (by omega) (Ev.bind (ev_eqInts _ hn4) (evSucc ?_)))
  simp only [laws_FnExactNumsSaid.j0]
  refine evNeg (by simp) (Ev.bind (ev_markIntS _ hn1) (Ev.bind (ev_heldIntS _ hn1) (evNeg (by omega) (evPos rfl ?_))))
  refine Ev.bind (ev_toPolicy a b d l hl) (Ev.bind (ev_impl_NumsSaid a b d _ hm) (Ev.bind (ev_eqInts _ hn4) (evPos rfl ?_)))
  exact Ev.bind (ev_heldIntS _ hn1) (evNeg (by omega) (evPos rfl (Ev.now _)))

end Go.Proofs.Ytjfmpodeenidnaa.Pure

namespace Go.Proofs.Ytjfmpodeenidnaa.fnExactNumsSaid
open Go.ChangeShapes Go.WideShapes Go.ChangeAt Go.RowKit Go.Proofs.Ytjfmpodeenidnaa.PB Go.Proofs.Ytjfmpodeenidnaa.PureFnExactNumsSaid Go.Proofs.YtjfmpodeenidnaaW.PrintWords
open Go.ChangeMaps (open_string shut_string)
set_option linter.unusedVariables false
set_option linter.unusedSimpArgs false
theorem own : ownKnob Try.prog.godebug = none := by kernel_rfl
theorem laidOut : laidOutB Try.prog = true := by kernel_rfl
theorem op142 : Op.Opens Try.prog k142 142 ok142 := Op.opStruct Try.underlying142 (by kernel_rfl) (Op.fieldsCons (Op.opInt Try.underlying3 (by kernel_rfl)) rfl (Op.fieldsOne (Op.opInt Try.underlying3 (by kernel_rfl)) rfl)) (fun a => ⟨a.1, a.2⟩) (fun a => rfl) (fun a h => h)
theorem op144 : Op.Opens Try.prog k144 144 ok144 := Op.opStruct Try.underlying144 (by kernel_rfl) (Op.fieldsCons (Op.opInt Try.underlying3 (by kernel_rfl)) rfl (Op.fieldsCons op142 rfl (Op.fieldsCons (Op.opInt Try.underlying3 (by kernel_rfl)) rfl (Op.fieldsOne op142 rfl)))) (fun a => ⟨a.1, a.2.1, a.2.2.1, a.2.2.2⟩) (fun a => rfl) (fun a h => h)
theorem op112 : Op.Opens Try.prog k112 112 ok112 := Op.opStruct Try.underlying112 (by kernel_rfl) (Op.fieldsCons (Op.opSlice Try.underlying32 (by kernel_rfl) 3 (Op.opInt Try.underlying3 (by kernel_rfl))) rfl (Op.fieldsCons (Op.opSlice Try.underlying110 (by kernel_rfl) 144 op144) rfl (Op.fieldsCons (Op.opInt Try.underlying3 (by kernel_rfl)) rfl (Op.fieldsOne (Op.opInt Try.underlying3 (by kernel_rfl)) rfl)))) (fun a => ⟨a.1, a.2.1, a.2.2.1, a.2.2.2⟩) (fun a => rfl) (fun a h => h)
theorem op30 : Op.Opens Try.prog k30 30 ok30 := Op.opStruct Try.underlying30 (by kernel_rfl) (Op.fieldsCons (Op.opInt Try.underlying3 (by kernel_rfl)) rfl (Op.fieldsCons (Op.opInt Try.underlying3 (by kernel_rfl)) rfl (Op.fieldsCons (Op.opInt Try.underlying3 (by kernel_rfl)) rfl (Op.fieldsOne (Op.opSlice Try.underlying28 (by kernel_rfl) 112 op112) rfl)))) (fun a => ⟨a.1, a.2.1, a.2.2.1, a.2.2.2⟩) (fun a => rfl) (fun a h => h)
set_option maxRecDepth 100000 in
theorem lifted (os : Os) (started : os.Started) (H : Type) (enc : TypeId × Value → H) :
 ReturnsInHanded {} Try.checked os 4 .any (Rows.fnExactNumsSaidSpec.pre6 enc Try.prog Try.f4 Rows.fnExactNumsSaidRow.domain false) (Rows.fnExactNumsSaidSpec.post enc Try.prog Try.f4 false true false false) := by
 refine returnsInHanded_of_change_sized (C := Try.checked) own started (by kernel_rfl) Try.func4
  (ChangeSpec.witness6 (enc := enc) (C := Try.checked) false ⟨#[], #[.agg #[.int .i64 0, .int .i64 0, .int .i64 0, .slice none 0 0]], []⟩ 8 (by kernel_rfl) (by kernel_rfl) (by kernel_rfl) (by kernel_rfl)) ?_
 intro W base args ds gs before hval0 hW hcnd hsz0 _
 have hval : ∀ (j : Nat) t v, Try.f4.params[j]? = some t → args[j]? = some v → Value.okWide Try.prog W .any base t v := hval0
 have hW' := hW
 obtain ⟨p, q, hA0, hV, rfl, hfz, hnd⟩ := hW
 have hA : DataW.TrodAll enc Try.prog W 0 (fun _ => true) true Try.f4.params.toList args.toList ds p := hA0
 rw [Try.params4] at hA hval
 obtain ⟨v0, vs0, d0, ds0, p0, q0, hargs, rfl, rfl, h0, r0⟩ := trodAll_cons hA
 obtain ⟨rfl, rfl, rfl⟩ := trodAll_nil r0
 obtain rfl : args = #[v0] := by cases args; simp_all
 obtain ⟨rfl, rfl⟩ := trodVars_none hV
 have k0 := h0
 have lt0 : ∀ x ∈ p0, x.block < W.heap.size := by obtain ⟨m, hm⟩ := k0; exact DataW.trod_lt m _ _ _ hm
 obtain ⟨m0, hm0⟩ := h0
 obtain ⟨cs0, rfl, _⟩ := okWide_struct Try.underlying30 (hval 0 30 v0 rfl rfl)
 obtain ⟨x0, hK0, hG0⟩ := op30.op hm0
 obtain ⟨A0_3, c0_3, hs0, hc0_3, hr0_3⟩ := k30_open hK0
 obtain rfl : cs0 = #[.int .i64 x0.f0, .int .i64 x0.f1, .int .i64 x0.f2, .slice A0_3 x0.f3.length c0_3] := Array.toList_inj.1 hs0
 obtain ⟨k, h⟩ := Pure.FnExactNumsSaid x0 hG0
 refine (laws_FnExactNumsSaid.calls k x0.f0 x0.f1 x0.f2 A0_3 c0_3 x0.f3 true W hr0_3 hc0_3 rfl h).mono fun e W' ⟨he, bel⟩ => ?_
 subst he
 exact ⟨_, rfl, _, _, _, [], _, [], hW', trodAll_mk1 (shut_bool Try.underlying4 _), (trodAll_cons_mk (Below.trod laidOut (by kernel_rfl) (of_decide_eq_true (by kernel_rfl)) k0 bel lt0) trodAll_mk0), rfl, bel.frame _, fun h => by cases h⟩
theorem over : Rows.fnExactNumsSaidRow.holds Try.pinned (OpenSpec.ofChange Rows.fnExactNumsSaidSpec) :=
 OpenClaim.holds_of_wide 4 Try.f4 rfl rfl rfl rfl rfl rfl rfl ⟨rfl, rfl, rfl, rfl, rfl⟩ rfl rfl rfl rfl rfl (by kernel_rfl) Try.func4 (by kernel_rfl)
  (of_decide_eq_true (by kernel_rfl)) (by unfold Func.isWrapper; first | (rw [if_pos (by decide +kernel)]; kernel_rfl) | (rw [if_neg (by decide +kernel)]; exact ⟨rfl, rfl⟩))
  (fun os started H enc _ => lifted os started H enc)
theorem proved : Rows.FnExactNumsSaidSaid := over
#print axioms proved
end Go.Proofs.Ytjfmpodeenidnaa.fnExactNumsSaid
namespace Go.Proofs.Ytjfmpodeenidnaa
theorem fnExactNumsSaid_holds : Rows.FnExactNumsSaidSaid := fnExactNumsSaid.proved
end Go.Proofs.Ytjfmpodeenidnaa
