/- Contracts of functions of the program and of the reference, and plain lemmas on what they compute: a part of the proof of the law FnChainsTold. No condition. -/
import Derived.Test.YtdlapahfmfhbjaaDoorG523dfx0
import Derived.Test.YtdlapahfmfhbjaaDoorG523dfx1
import Derived.Test.YtdlapahfmfhbjaaDoorGe902ex0
import Derived.Test.YtdlapahfmfhbjaaDoorGe902ex1
import Derived.Test.YtdlapahfmfhbjaaDoorGe902ex2
import Derived.Test.YtdlapahfmfhbjaaDoorJFnChainsTold1
import Derived.Test.YtdlapahfmfhbjaaDoorShortV
namespace Go.Proofs.YtdlapahfmfhbjaaDoor.PA
open Go.RowKit Go.Proofs.YtdlapahfmfhbjaaDoor.Short Go.Proofs.YtdlapahfmfhbjaaDoorW.PrintWords Go.Proofs.YtdlapahfmfhbjaaDoorW.PrintLast Go.Proofs.YtdlapahfmfhbjaaDoorW.PrintMore
attribute [local go_sem] max2_int min2_int max_two min_two max_three min_three max_four min_four   -- for this text's walks alone
set_option linter.unusedVariables false
set_option linter.unusedSimpArgs false

/-! ### impl_HeadOf: function 33 -/
def impl_HeadOf.f (k : Nat) (l0 : List (S27)) : Option (ByteArray) := (impl_Digest.f k (⟨#[]⟩ : ByteArray)).bind fun t837 => ((impl_HeadFrom.f k t837 l0).bind fun t838 => (some t838))
theorem impl_HeadOf.mono : ∀ a0 k, LeO (impl_HeadOf.f k a0) (impl_HeadOf.f (k + 1) a0) := by
 intro a0 k
 unfold impl_HeadOf.f
 have m0 := @impl_Digest.mono
 have m1 := @impl_HeadFrom.mono
 exact mo_
set_option maxHeartbeats 8000000 in
set_option maxRecDepth 100000 in
theorem impl_HeadOf.calls (k : Nat) (A0 : Option Addr) (c0 : Nat) (l0 : List (S27)) (r : ByteArray) (w : World) (hr0 : Kd.C k27 w A0 l0.length l0) (hc0 : l0.length ≤ c0) (hT : Tab w) (h : impl_HeadOf.f k l0 = some r) :
 Calls Tryd.prog 33 #[.slice A0 l0.length c0] w fun e w' => e = .returned (.string r) ∧ Below w.heap.size w w' := by
 have HR0 := Aside0.mk hr0
 have HC0 := Aside0.mk hc0
 clear hr0 hc0
 have HT := Aside0.mk hT
 clear hT
 have HB := Aside0.mk (Below.refl w.heap.size w)
 have H : ((impl_Digest.f k (⟨#[]⟩ : ByteArray)).bind fun t837 => ((impl_HeadFrom.f k t837 l0).bind fun t838 => (some t838))) = some r := h
 clear h
 replace H := bs_ H
 obtain ⟨t837, A2, H⟩ := H
 try dsimp only at H
 replace H := bs_ H
 obtain ⟨t838, A3, H⟩ := H
 try dsimp only at H
 obtain rfl := Option.some.inj H
 go_enter Tryd.func33, Tryd.ntmps33
 go_wp2_with (first | ((with_reducible refine gate_callee (f := 66) rfl ?_); refine gs_ (some 3) Tryd.func66 #[.string (⟨#[]⟩ : ByteArray)] ?_; (with_reducible refine (impl_Digest.calls k (⟨#[]⟩ : ByteArray) t837 _ ?side1 A2.out).mono ?_); (case side1 => exact tab_of HT.out bl_); rintro e w4 ⟨rfl, hb⟩; refine ⟨_, rfl, ?_⟩; replace HB := Aside0.mk (below_step bl_ hb); (try clear hb)) | ((with_reducible refine gate_callee (f := 51) rfl ?_); refine gs_ (some 5) Tryd.func51 #[.string t837, .slice A0 l0.length c0] ?_; (with_reducible refine (impl_HeadFrom.calls k t837 _ _ l0 t838 _ ?side1 ?side2 ?side3 A3.out).mono ?_); (case side1 => repeat (first | exact (Kd.C_below HR0.out HB.out) | exact HR0.out | (with_reducible refine Kd.C_alloc ?_ _) | (with_reducible refine Kd.C_drewN ?_ _) | (with_reducible refine Kd.C_drew ?_))); (case side2 => exact HC0.out); (case side3 => exact tab_of HT.out bl_); rintro e w5 ⟨rfl, hb⟩; refine ⟨_, rfl, ?_⟩; replace HB := Aside0.mk (below_step bl_ hb); (try clear hb)))
 go_ret
 exact ⟨er_, bl_⟩


/-! ### impl_Verified: function 36 -/
def impl_Verified.f (k : Nat) (a0 : ByteArray) (a1 : ByteArray) : Option (Bool) := (impl_ReadLog.f k a0).bind fun bt841 => (if bt841.2 = true then ((impl_HeadOf.f k bt841.1).bind fun t845 => (some (t845.toList == a1.toList))) else (some false))
theorem impl_Verified.mono : ∀ a0 a1 k, LeO (impl_Verified.f k a0 a1) (impl_Verified.f (k + 1) a0 a1) := by
 intro a0 a1 k
 unfold impl_Verified.f
 have m0 := @impl_HeadOf.mono
 have m1 := @impl_ReadLog.mono
 exact mo_
set_option maxHeartbeats 8000000 in
set_option maxRecDepth 100000 in
theorem impl_Verified.calls (k : Nat) (a0 : ByteArray) (a1 : ByteArray) (r : Bool) (w : World) (hT : Tab w) (h : impl_Verified.f k a0 a1 = some r) :
 Calls Tryd.prog 36 #[.string a0, .string a1] w fun e w' => e = .returned (.bool r) ∧ Below w.heap.size w w' := by
 have HT := Aside0.mk hT
 clear hT
 have HB := Aside0.mk (Below.refl w.heap.size w)
 have H : ((impl_ReadLog.f k a0).bind fun bt841 => (if bt841.2 = true then ((impl_HeadOf.f k bt841.1).bind fun t845 => (some (t845.toList == a1.toList))) else (some false))) = some r := h
 clear h
 replace H := bs_ H
 obtain ⟨⟨t841, t842⟩, A3, H⟩ := H
 try dsimp only at H
 by_cases c4 : t842 = true
 rotate_left
 ·replace c4 := Bool.eq_false_iff.mpr c4
  subst c4
  rw [if_neg (show ¬ (false = true) by decide)] at H
  obtain rfl := Option.some.inj H
  go_enter Tryd.func36, Tryd.ntmps36
  go_wp2_with (first | ((with_reducible refine gate_callee (f := 28) rfl ?_); refine gs_ (some 9) Tryd.func28 #[.string a0] ?_; (with_reducible refine (impl_ReadLog.calls k a0 t841 false _ A3.out).mono ?_); rintro e w9 ⟨v843, rfl, ho0, hb⟩; refine ⟨_, rfl, ?_⟩; have HO844 := Aside0.mk (Kd.R_lower ho0 (below_size bl_)); replace HB := Aside0.mk (below_step bl_ hb); (try clear hb); (try clear ho0)))
  go_ret
  exact ⟨er_, bl_⟩
 subst c4
 rw [if_pos rfl] at H
 replace H := bs_ H
 obtain ⟨t845, A5, H⟩ := H
 try dsimp only at H
 obtain rfl := Option.some.inj H
 go_enter Tryd.func36, Tryd.ntmps36
 go_wp2_with (first | ((with_reducible refine gate_callee (f := 28) rfl ?_); refine gs_ (some 9) Tryd.func28 #[.string a0] ?_; (with_reducible refine (impl_ReadLog.calls k a0 t841 true _ A3.out).mono ?_); rintro e w6 ⟨v843, rfl, ho0, hb⟩; refine ⟨_, rfl, ?_⟩; have HO844 := Aside0.mk (Kd.R_lower ho0 (below_size bl_)); replace HB := Aside0.mk (below_step bl_ hb); (try clear hb); (try clear ho0); obtain ⟨Ao7, co7, eo7⟩ := Kd.R_slice HO844.out; subst eo7) | (go_at_call 33; (with_reducible refine (impl_HeadOf.calls k _ _ t841 t845 _ ?side1 ?side2 ?side3 A5.out).mono ?_); (case side1 => repeat (first | exact (Kd.R_reads' HO844.out).2.2 | (with_reducible refine Kd.C_alloc ?_ _) | (with_reducible refine Kd.C_drewN ?_ _) | (with_reducible refine Kd.C_drew ?_))); (case side2 => exact (Kd.R_reads' HO844.out).2.1); (case side3 => exact tab_of HT.out bl_); rintro e w8 ⟨rfl, hb⟩; replace HO844 := Aside0.mk (Kd.R_below (ra_ HO844.out) hb); replace HB := Aside0.mk (below_step bl_ hb); (try clear hb)))
 go_ret
 exact ⟨er_, bl_⟩


/-! ### spec_Verified: function 37 -/
def spec_Verified.f (k : Nat) (a0 : ByteArray) (a1 : ByteArray) : Option (Bool) := (spec_ReadLog.f k a0).bind fun bt846 => (if bt846.2 = true then ((spec_HeadOf.f k bt846.1).bind fun t850 => (some (t850.toList == a1.toList))) else (some false))
theorem spec_Verified.mono : ∀ a0 a1 k, LeO (spec_Verified.f k a0 a1) (spec_Verified.f (k + 1) a0 a1) := by
 intro a0 a1 k
 unfold spec_Verified.f
 have m0 := @spec_HeadOf.mono
 have m1 := @spec_ReadLog.mono
 exact mo_
set_option maxHeartbeats 8000000 in
set_option maxRecDepth 100000 in
theorem spec_Verified.calls (k : Nat) (a0 : ByteArray) (a1 : ByteArray) (r : Bool) (w : World) (h : spec_Verified.f k a0 a1 = some r) :
 Calls Tryd.prog 37 #[.string a0, .string a1] w fun e w' => e = .returned (.bool r) ∧ Below w.heap.size w w' := by
 have HB := Aside0.mk (Below.refl w.heap.size w)
 have H : ((spec_ReadLog.f k a0).bind fun bt846 => (if bt846.2 = true then ((spec_HeadOf.f k bt846.1).bind fun t850 => (some (t850.toList == a1.toList))) else (some false))) = some r := h
 clear h
 replace H := bs_ H
 obtain ⟨⟨t846, t847⟩, A3, H⟩ := H
 try dsimp only at H
 by_cases c4 : t847 = true
 rotate_left
 ·replace c4 := Bool.eq_false_iff.mpr c4
  subst c4
  rw [if_neg (show ¬ (false = true) by decide)] at H
  obtain rfl := Option.some.inj H
  go_enter Tryd.func37, Tryd.ntmps37
  go_wp2_with (first | ((with_reducible refine gate_callee (f := 29) rfl ?_); refine gs_ (some 9) Tryd.func29 #[.string a0] ?_; (with_reducible refine (spec_ReadLog.calls k a0 t846 false _ A3.out).mono ?_); rintro e w9 ⟨v848, rfl, ho0, hb⟩; refine ⟨_, rfl, ?_⟩; have HO849 := Aside0.mk (Kd.R_lower ho0 (below_size bl_)); replace HB := Aside0.mk (below_step bl_ hb); (try clear hb); (try clear ho0)))
  go_ret
  exact ⟨er_, bl_⟩
 subst c4
 rw [if_pos rfl] at H
 replace H := bs_ H
 obtain ⟨t850, A5, H⟩ := H
 try dsimp only at H
 obtain rfl := Option.some.inj H
 go_enter Tryd.func37, Tryd.ntmps37
 go_wp2_with (first | ((with_reducible refine gate_callee (f := 29) rfl ?_); refine gs_ (some 9) Tryd.func29 #[.string a0] ?_; (with_reducible refine (spec_ReadLog.calls k a0 t846 true _ A3.out).mono ?_); rintro e w6 ⟨v848, rfl, ho0, hb⟩; refine ⟨_, rfl, ?_⟩; have HO849 := Aside0.mk (Kd.R_lower ho0 (below_size bl_)); replace HB := Aside0.mk (below_step bl_ hb); (try clear hb); (try clear ho0); obtain ⟨Ao7, co7, eo7⟩ := Kd.R_slice HO849.out; subst eo7) | (go_at_call 34; (with_reducible refine (spec_HeadOf.calls k _ _ t846 t850 _ ?side1 ?side2 A5.out).mono ?_); (case side1 => repeat (first | exact (Kd.R_reads' HO849.out).2.2 | (with_reducible refine Kd.C_alloc ?_ _) | (with_reducible refine Kd.C_drewN ?_ _) | (with_reducible refine Kd.C_drew ?_))); (case side2 => exact (Kd.R_reads' HO849.out).2.1); rintro e w8 ⟨rfl, hb⟩; replace HO849 := Aside0.mk (Kd.R_below (ra_ HO849.out) hb); replace HB := Aside0.mk (below_step bl_ hb); (try clear hb)))
 go_ret
 exact ⟨er_, bl_⟩

end Go.Proofs.YtdlapahfmfhbjaaDoor.PA
