/- The law FnExactShowCall: for every input it returns true, and its arguments read behind the call as before. No condition. -/
import Derived.Test.YtdedmdgegcnnpaaRows
import Derived.Test.YtdedmdgegcnnpaaPAx24
import Derived.Test.YtdedmdgegcnnpaaOpen
import Derived.Test.YtdedmdgegcnnpaaStFnExactShowCall
import Derived.Test.YtdedmdgegcnnpaaPureFnExactShowCall
import Derived.WalkKit
import Derived.ProofKit
import Derived.OpenShut
import Derived.ShutString
import Derived.ChangeOld
import Derived.Below
import Derived.SizedLaws
import Derived.Carry
namespace Go.Proofs.Ytdedmdgegcnnpaa.fnExactShowCall
open Go.ChangeShapes Go.WideShapes Go.ChangeAt Go.RowKit Go.Proofs.Ytdedmdgegcnnpaa.PA Go.Proofs.Ytdedmdgegcnnpaa.PureFnExactShowCall Go.Proofs.YtdedmdgegcnnpaaW.PrintWords
open Go.ChangeMaps (open_string shut_string)
set_option linter.unusedVariables false
set_option linter.unusedSimpArgs false
theorem own : ownKnob Try.prog.godebug = none := by kernel_rfl
theorem laidOut : laidOutB Try.prog = true := by kernel_rfl
theorem op104 : Op.Opens Try.prog k104 104 ok104 := Op.opStruct Try.underlying104 (by kernel_rfl) (Op.fieldsCons (Op.opInt Try.underlying3 (by kernel_rfl)) rfl (Op.fieldsOne (Op.opInt Try.underlying3 (by kernel_rfl)) rfl)) (fun a => ⟨a.1, a.2⟩) (fun a => rfl) (fun a h => h)
theorem op24 : Op.Opens Try.prog k24 24 ok24 := Op.opStruct Try.underlying24 (by kernel_rfl) (Op.fieldsCons (Op.opInt Try.underlying3 (by kernel_rfl)) rfl (Op.fieldsCons (Op.opInt Try.underlying3 (by kernel_rfl)) rfl (Op.fieldsOne (Op.opSlice Try.underlying22 (by kernel_rfl) 104 op104) rfl))) (fun a => ⟨a.1, a.2.1, a.2.2⟩) (fun a => rfl) (fun a h => h)
set_option maxRecDepth 100000 in
theorem lifted (os : Os) (started : os.Started) (H : Type) (enc : TypeId × Value → H) :
    ReturnsInHanded {} Try.checked os 3 .any (Rows.fnExactShowCallSpec.pre6 enc Try.prog Try.f3 Rows.fnExactShowCallRow.domain false) (Rows.fnExactShowCallSpec.post enc Try.prog Try.f3 false true false false) := by
  refine returnsInHanded_of_change_sized (C := Try.checked) own started (by kernel_rfl) Try.func3
    (ChangeSpec.witness6 (enc := enc) (C := Try.checked) false ⟨#[], #[.agg #[.int .i64 0, .int .i64 0, .slice none 0 0]], []⟩ 8 (by kernel_rfl) (by kernel_rfl) (by kernel_rfl) (by kernel_rfl)) ?_
  intro W base args ds gs before hval0 hW hcnd hsz0 _
  have hval : ∀ (j : Nat) t v, Try.f3.params[j]? = some t → args[j]? = some v → Value.okWide Try.prog W .any base t v := hval0
  have hW' := hW
  obtain ⟨p, q, hA0, hV, rfl, hfz, hnd⟩ := hW
  have hA : DataW.TrodAll enc Try.prog W 0 (fun _ => true) true Try.f3.params.toList args.toList ds p := hA0
  rw [Try.params3] at hA hval
  obtain ⟨v0, vs0, d0, ds0, p0, q0, hargs, rfl, rfl, h0, r0⟩ := trodAll_cons hA
  obtain ⟨rfl, rfl, rfl⟩ := trodAll_nil r0
  obtain rfl : args = #[v0] := by cases args; simp_all
  obtain ⟨rfl, rfl⟩ := trodVars_none hV
  have k0 := h0
  have lt0 : ∀ x ∈ p0, x.block < W.heap.size := by obtain ⟨m, hm⟩ := k0; exact DataW.trod_lt m _ _ _ hm
  obtain ⟨m0, hm0⟩ := h0
  obtain ⟨cs0, rfl, _⟩ := okWide_struct Try.underlying24 (hval 0 24 v0 rfl rfl)
  obtain ⟨x0, hK0, hG0⟩ := op24.op hm0
  obtain ⟨A0_2, c0_2, hs0, hc0_2, hr0_2⟩ := k24_open hK0
  obtain rfl : cs0 = #[.int .i64 x0.f0, .int .i64 x0.f1, .slice A0_2 x0.f2.length c0_2] := Array.toList_inj.1 hs0
  obtain ⟨k, h⟩ := Pure.FnExactShowCall x0 hG0
  refine (laws_FnExactShowCall.calls k x0.f0 x0.f1 A0_2 c0_2 x0.f2 true W hr0_2 hc0_2 h).mono fun e W' ⟨he, bel⟩ => ?_
  subst he
  exact ⟨_, rfl, _, _, _, [], _, [], hW', trodAll_mk1 (shut_bool Try.underlying4 _), (trodAll_cons_mk (Below.trod laidOut (by kernel_rfl) (of_decide_eq_true (by kernel_rfl)) k0 bel lt0) trodAll_mk0), rfl, bel.frame _, fun h => by cases h⟩
theorem over : Rows.fnExactShowCallRow.holds Try.pinned (OpenSpec.ofChange Rows.fnExactShowCallSpec) :=
  OpenClaim.holds_of_wide 3 Try.f3 rfl rfl rfl rfl rfl rfl rfl ⟨rfl, rfl, rfl, rfl, rfl⟩ rfl rfl rfl rfl rfl (by kernel_rfl) Try.func3 (by kernel_rfl)
    (of_decide_eq_true (by kernel_rfl)) (by unfold Func.isWrapper; first | (rw [if_pos (by decide +kernel)]; kernel_rfl) | (rw [if_neg (by decide +kernel)]; exact ⟨rfl, rfl⟩))
    (fun os started H enc _ => lifted os started H enc)
theorem proved : Rows.FnExactShowCallSaid := over
#print axioms proved
end Go.Proofs.Ytdedmdgegcnnpaa.fnExactShowCall
namespace Go.Proofs.Ytdedmdgegcnnpaa
/-- The row, under a short name, for the claim. -/
theorem fnExactShowCall_holds : Rows.FnExactShowCallSaid := fnExactShowCall.proved
end Go.Proofs.Ytdedmdgegcnnpaa
