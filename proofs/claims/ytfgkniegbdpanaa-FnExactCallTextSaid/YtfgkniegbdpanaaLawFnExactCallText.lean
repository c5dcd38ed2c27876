/- The law FnExactCallText: for every input it returns true, and its arguments read behind the call as before. No condition. -/
import Derived.Test.YtfgkniegbdpanaaRows
import Derived.Test.YtfgkniegbdpanaaPAx50
import Derived.Test.YtfgkniegbdpanaaOpen
import Derived.Test.YtfgkniegbdpanaaStFnExactCallText
import Derived.Test.YtfgkniegbdpanaaPureFnExactCallText
import Derived.WalkKit
import Derived.ProofKit
import Derived.OpenShut
import Derived.ShutString
import Derived.ChangeOld
import Derived.Below
import Derived.SizedLaws
import Derived.Carry
namespace Go.Proofs.Ytfgkniegbdpanaa.fnExactCallText
open Go.ChangeShapes Go.WideShapes Go.ChangeAt Go.RowKit Go.Proofs.Ytfgkniegbdpanaa.PA Go.Proofs.Ytfgkniegbdpanaa.PureFnExactCallText Go.Proofs.YtfgkniegbdpanaaW.PrintWords
open Go.ChangeMaps (open_string shut_string)
set_option linter.unusedVariables false
set_option linter.unusedSimpArgs false
theorem own : ownKnob Try.prog.godebug = none := by kernel_rfl
theorem laidOut : laidOutB Try.prog = true := by kernel_rfl
theorem op82 : Op.Opens Try.prog k82 82 ok82 := Op.opStruct Try.underlying82 (by kernel_rfl) (Op.fieldsCons (Op.opInt Try.underlying3 (by kernel_rfl)) rfl (Op.fieldsOne (Op.opInt Try.underlying3 (by kernel_rfl)) rfl)) (fun a => ⟨a.1, a.2⟩) (fun a => rfl) (fun a h => h)
theorem op49 : Op.Opens Try.prog k49 49 ok49 := Op.opStruct Try.underlying49 (by kernel_rfl) (Op.fieldsCons (Op.opInt Try.underlying3 (by kernel_rfl)) rfl (Op.fieldsCons (Op.opInt Try.underlying3 (by kernel_rfl)) rfl (Op.fieldsOne (Op.opSlice Try.underlying47 (by kernel_rfl) 82 op82) rfl))) (fun a => ⟨a.1, a.2.1, a.2.2⟩) (fun a => rfl) (fun a h => h)
set_option maxRecDepth 100000 in
theorem lifted (os : Os) (started : os.Started) (H : Type) (enc : TypeId × Value → H) :
    ReturnsInHanded {} Try.checked os 7 .any (Rows.fnExactCallTextSpec.pre6 enc Try.prog Try.f7 Rows.fnExactCallTextRow.domain false) (Rows.fnExactCallTextSpec.post enc Try.prog Try.f7 false true false false) := by
  refine returnsInHanded_of_change_sized (C := Try.checked) own started (by kernel_rfl) Try.func7
    (ChangeSpec.witness6 (enc := enc) (C := Try.checked) false ⟨#[], #[.agg #[.int .i64 0, .int .i64 0, .slice none 0 0]], []⟩ 8 (by kernel_rfl) (by kernel_rfl) (by kernel_rfl) (by kernel_rfl)) ?_
  intro W base args ds gs before hval0 hW hcnd hsz0 _
  have hval : ∀ (j : Nat) t v, Try.f7.params[j]? = some t → args[j]? = some v → Value.okWide Try.prog W .any base t v := hval0
  have hW' := hW
  obtain ⟨p, q, hA0, hV, rfl, hfz, hnd⟩ := hW
  have hA : DataW.TrodAll enc Try.prog W 0 (fun _ => true) true Try.f7.params.toList args.toList ds p := hA0
  rw [Try.params7] at hA hval
  obtain ⟨v0, vs0, d0, ds0, p0, q0, hargs, rfl, rfl, h0, r0⟩ := trodAll_cons hA
  obtain ⟨rfl, rfl, rfl⟩ := trodAll_nil r0
  obtain rfl : args = #[v0] := by cases args; simp_all
  obtain ⟨rfl, rfl⟩ := trodVars_none hV
  have k0 := h0
  have lt0 : ∀ x ∈ p0, x.block < W.heap.size := by obtain ⟨m, hm⟩ := k0; exact DataW.trod_lt m _ _ _ hm
  obtain ⟨m0, hm0⟩ := h0
  obtain ⟨cs0, rfl, _⟩ := okWide_struct Try.underlying49 (hval 0 49 v0 rfl rfl)
  obtain ⟨x0, hK0, hG0⟩ := op49.op hm0
  obtain ⟨A0_2, c0_2, hs0, hc0_2, hr0_2⟩ := k49_open hK0
  obtain rfl : cs0 = #[.int .i64 x0.f0, .int .i64 x0.f1, .slice A0_2 x0.f2.length c0_2] := Array.toList_inj.1 hs0
  obtain ⟨k, h⟩ := Pure.FnExactCallText x0 hG0
  refine (laws_FnExactCallText.calls k x0.f0 x0.f1 A0_2 c0_2 x0.f2 true W hr0_2 hc0_2 h).mono fun e W' ⟨he, bel⟩ => ?_
  subst he
  exact ⟨_, rfl, _, _, _, [], _, [], hW', trodAll_mk1 (shut_bool Try.underlying4 _), (trodAll_cons_mk (Below.trod laidOut (by kernel_rfl) (of_decide_eq_true (by kernel_rfl)) k0 bel lt0) trodAll_mk0), rfl, bel.frame _, fun h => by cases h⟩
theorem over : Rows.fnExactCallTextRow.holds Try.pinned (OpenSpec.ofChange Rows.fnExactCallTextSpec) :=
  OpenClaim.holds_of_wide 7 Try.f7 rfl rfl rfl rfl rfl rfl rfl ⟨rfl, rfl, rfl, rfl, rfl⟩ rfl rfl rfl rfl rfl (by kernel_rfl) Try.func7 (by kernel_rfl)
    (of_decide_eq_true (by kernel_rfl)) (by unfold Func.isWrapper; first | (rw [if_pos (by decide +kernel)]; kernel_rfl) | (rw [if_neg (by decide +kernel)]; exact ⟨rfl, rfl⟩))
    (fun os started H enc _ => lifted os started H enc)
theorem proved : Rows.FnExactCallTextSaid := over
#print axioms proved
end Go.Proofs.Ytfgkniegbdpanaa.fnExactCallText
namespace Go.Proofs.Ytfgkniegbdpanaa
/-- The row, under a short name, for the claim. -/
theorem fnExactCallText_holds : Rows.FnExactCallTextSaid := fnExactCallText.proved
end Go.Proofs.Ytfgkniegbdpanaa
