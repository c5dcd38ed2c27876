/- The law FnExactShowIns: for every input it returns true, and its arguments read behind the call as before. No condition. -/
import Derived.Test.YtfgkniegbdpanaaRows
import Derived.Test.YtfgkniegbdpanaaPAx60
import Derived.Test.YtfgkniegbdpanaaOpen
import Derived.Test.YtfgkniegbdpanaaStFnExactShowIns
import Derived.Test.YtfgkniegbdpanaaPureFnExactShowIns
import Derived.WalkKit
import Derived.ProofKit
import Derived.OpenShut
import Derived.ShutString
import Derived.ChangeOld
import Derived.Below
import Derived.SizedLaws
import Derived.Carry
namespace Go.Proofs.Ytfgkniegbdpanaa.fnExactShowIns
open Go.ChangeShapes Go.WideShapes Go.ChangeAt Go.RowKit Go.Proofs.Ytfgkniegbdpanaa.PA Go.Proofs.Ytfgkniegbdpanaa.PureFnExactShowIns Go.Proofs.YtfgkniegbdpanaaW.PrintWords
open Go.ChangeMaps (open_string shut_string)
set_option linter.unusedVariables false
set_option linter.unusedSimpArgs false
theorem own : ownKnob Try.prog.godebug = none := by kernel_rfl
theorem laidOut : laidOutB Try.prog = true := by kernel_rfl
theorem op56 : Op.Opens Try.prog k56 56 ok56 := Op.opStruct Try.underlying56 (by kernel_rfl) (Op.fieldsCons (Op.opInt Try.underlying3 (by kernel_rfl)) rfl (Op.fieldsCons (Op.opInt Try.underlying3 (by kernel_rfl)) rfl (Op.fieldsCons (Op.opInt Try.underlying3 (by kernel_rfl)) rfl (Op.fieldsOne (Op.opInt Try.underlying3 (by kernel_rfl)) rfl)))) (fun a => ⟨a.1, a.2.1, a.2.2.1, a.2.2.2⟩) (fun a => rfl) (fun a h => h)
set_option maxRecDepth 100000 in
theorem lifted (os : Os) (started : os.Started) (H : Type) (enc : TypeId × Value → H) :
    ReturnsInHanded {} Try.checked os 8 .any (Rows.fnExactShowInsSpec.pre6 enc Try.prog Try.f8 Rows.fnExactShowInsRow.domain false) (Rows.fnExactShowInsSpec.post enc Try.prog Try.f8 false true false false) := by
  refine returnsInHanded_of_change_sized (C := Try.checked) own started (by kernel_rfl) Try.func8
    (ChangeSpec.witness6 (enc := enc) (C := Try.checked) false ⟨#[], #[.agg #[.int .i64 0, .int .i64 0, .int .i64 0, .int .i64 0]], []⟩ 8 (by kernel_rfl) (by kernel_rfl) (by kernel_rfl) (by kernel_rfl)) ?_
  intro W base args ds gs before hval0 hW hcnd hsz0 _
  have hval : ∀ (j : Nat) t v, Try.f8.params[j]? = some t → args[j]? = some v → Value.okWide Try.prog W .any base t v := hval0
  have hW' := hW
  obtain ⟨p, q, hA0, hV, rfl, hfz, hnd⟩ := hW
  have hA : DataW.TrodAll enc Try.prog W 0 (fun _ => true) true Try.f8.params.toList args.toList ds p := hA0
  rw [Try.params8] at hA hval
  obtain ⟨v0, vs0, d0, ds0, p0, q0, hargs, rfl, rfl, h0, r0⟩ := trodAll_cons hA
  obtain ⟨rfl, rfl, rfl⟩ := trodAll_nil r0
  obtain rfl : args = #[v0] := by cases args; simp_all
  obtain ⟨rfl, rfl⟩ := trodVars_none hV
  have k0 := h0
  have lt0 : ∀ x ∈ p0, x.block < W.heap.size := by obtain ⟨m, hm⟩ := k0; exact DataW.trod_lt m _ _ _ hm
  obtain ⟨m0, hm0⟩ := h0
  obtain ⟨cs0, rfl, _⟩ := okWide_struct Try.underlying56 (hval 0 56 v0 rfl rfl)
  obtain ⟨x0, hK0, hG0⟩ := op56.op hm0
  have hs0 := k56_open hK0
  obtain rfl : cs0 = #[.int .i64 x0.f0, .int .i64 x0.f1, .int .i64 x0.f2, .int .i64 x0.f3] := Array.toList_inj.1 hs0
  obtain ⟨k, h⟩ := Pure.FnExactShowIns x0 hG0
  refine (laws_FnExactShowIns.calls k x0.f0 x0.f1 x0.f2 x0.f3 true W  h).mono fun e W' ⟨he, bel⟩ => ?_
  subst he
  exact ⟨_, rfl, _, _, _, [], _, [], hW', trodAll_mk1 (shut_bool Try.underlying4 _), (trodAll_cons_mk (Below.trod laidOut (by kernel_rfl) (of_decide_eq_true (by kernel_rfl)) k0 bel lt0) trodAll_mk0), rfl, bel.frame _, fun h => by cases h⟩
theorem over : Rows.fnExactShowInsRow.holds Try.pinned (OpenSpec.ofChange Rows.fnExactShowInsSpec) :=
  OpenClaim.holds_of_wide 8 Try.f8 rfl rfl rfl rfl rfl rfl rfl ⟨rfl, rfl, rfl, rfl, rfl⟩ rfl rfl rfl rfl rfl (by kernel_rfl) Try.func8 (by kernel_rfl)
    (of_decide_eq_true (by kernel_rfl)) (by unfold Func.isWrapper; first | (rw [if_pos (by decide +kernel)]; kernel_rfl) | (rw [if_neg (by decide +kernel)]; exact ⟨rfl, rfl⟩))
    (fun os started H enc _ => lifted os started H enc)
theorem proved : Rows.FnExactShowInsSaid := over
#print axioms proved
end Go.Proofs.Ytfgkniegbdpanaa.fnExactShowIns
namespace Go.Proofs.Ytfgkniegbdpanaa
/-- The row, under a short name, for the claim. -/
theorem fnExactShowIns_holds : Rows.FnExactShowInsSaid := fnExactShowIns.proved
end Go.Proofs.Ytfgkniegbdpanaa
