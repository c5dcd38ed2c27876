/- The plain law FnExactNodeOf. -/
import Derived.Test.YtfbhkglgaehohaaDoorStFnExactNodeOf
import Derived.Test.YtfbhkglgaehohaaDoorDigestEq
namespace Go.Proofs.YtfbhkglgaehohaaDoor.Pure
open Go.RowKit Go.Proofs.YtfbhkglgaehohaaDoorW.PrintWords Go.Proofs.YtfbhkglgaehohaaDoorW.PrintLast Go.Proofs.YtfbhkglgaehohaaDoorW.PrintMore Go.Proofs.YtfbhkglgaehohaaDoor.Kit Go.Proofs.YtfbhkglgaehohaaDoor.PA Go.Proofs.YtfbhkglgaehohaaDoor.DigestEq
set_option linter.unusedVariables false
theorem FnExactNodeOf : PureFnExactNodeOf.Stated := by
  intro a b _ _
  refine Ev.rounds ?_
  simp only [laws_FnExactNodeOf.f]
  by_cases ha : (a.size : Int) > 1048576
  · exact evPos ha (Ev.now _)
  refine evNeg ha ?_
  by_cases hb : (b.size : Int) > 1048576
  · exact evPos hb (Ev.now _)
  refine evNeg hb ?_
  have s0 : ((⟨#[49]⟩ : ByteArray) ++ a).size = 1 + a.size := by rw [ByteArray.size_append]; rfl
  have s1 : (((⟨#[49]⟩ : ByteArray) ++ a) ++ b).size ≤ 1073741824 := by rw [ByteArray.size_append, s0]; omega
  have h1 : spec_NodeOf.f a b = some (dig (((⟨#[49]⟩ : ByteArray) ++ a) ++ b)) := by
    unfold spec_NodeOf.f
    rw [if_pos (by omega), if_pos (by rw [s0]; omega), dig_spec _ s1]
    rfl
  have h2 : Ev (fun k => impl_NodeOf.f k a b) (dig (((⟨#[49]⟩ : ByteArray) ++ a) ++ b)) := by
    simp only [impl_NodeOf.f]
    exact evPos (by omega) (evPos (by rw [s0]; omega) (Ev.bind (dig_impl _ s1) (Ev.now _)))
  exact evBindS h1 (Ev.bind h2 (evPos rfl (Ev.now _)))
end Go.Proofs.YtfbhkglgaehohaaDoor.Pure
