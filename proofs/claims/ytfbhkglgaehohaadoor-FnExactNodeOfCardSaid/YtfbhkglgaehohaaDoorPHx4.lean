/- The functions of the program and of the reference that laws of this seat reach: each is shown to compute a plain Lean function; written by a program of this session. No condition. -/
import Derived.Test.YtfbhkglgaehohaaDoorPHx0
import Derived.Test.YtfbhkglgaehohaaDoorPHx3
namespace Go.Proofs.YtfbhkglgaehohaaDoor.PH
open Go.RowKit Go.Proofs.YtfbhkglgaehohaaDoorW.PrintWords Go.Proofs.YtfbhkglgaehohaaDoorW.PrintLast Go.Proofs.YtfbhkglgaehohaaDoorW.PrintMore
attribute [local go_sem] max2_int min2_int max_two min_two max_three min_three max_four min_four   -- for this text's walks alone
set_option linter.unusedVariables false
set_option linter.unusedSimpArgs false

/-! ### impl_HalfOk: function 52 -/
def impl_HalfOk.f (a0 : Int) : Option (Bool) := (impl_within.f a0 0 4294967295).bind fun t101 => (some t101)
set_option maxHeartbeats 8000000 in
set_option maxRecDepth 100000 in
theorem impl_HalfOk.calls (a0 : Int) (r : Bool) (w : World) (h : impl_HalfOk.f a0 = some r) :
    Calls Tryd.prog 52 #[.int .i64 a0] w fun e w' => e = .returned (.bool r) ∧ Drawn0 w w' := by
  have H : ((impl_within.f a0 0 4294967295).bind fun t101 => (some t101)) = some r := h
  clear h
  replace H := Option.bind_eq_some_iff.mp H
  obtain ⟨t101, A20, H⟩ := H
  replace H : (some t101) = some r := H
  have A2 := Aside0.mk A20
  clear A20
  obtain rfl := Option.some.inj H
  go_enter Tryd.func52, Tryd.ntmps52
  go_wp2_with (first | ((with_reducible refine gate_callee (f := 38) rfl ?_); refine goesL_ (some 4) rfl rfl Tryd.func38 (by kernel_rfl) rfl #[.int .i64 a0, .int .i64 0, .int .i64 4294967295] rfl (by (try simp only [List.map_toArray, List.map_cons, List.map_nil]); first | done | rfl | (simp only [List.length_drop, List.length_take]; rfl)) ?_; (with_reducible refine (impl_within.calls a0 0 4294967295 t101 _ A2.out).mono ?_); rintro e w' ⟨rfl, ⟨nd, rfl⟩⟩; refine ⟨_, rfl, ?_⟩))
  go_ret
  exact ⟨by first | rfl | (simp; done) | (simp [*]; done), by repeat (first | exact Drawn0.refl _ | apply Drawn0.step)⟩

/-- THE ONE PURE STATEMENT of impl_HalfOk: yours. -/
def impl_HalfOk.Pure : Prop := ∀ (a0 : Int), (Lit.int .i64 a0).wf = true → impl_HalfOk.f a0 = some true
theorem impl_HalfOk.walk (P : impl_HalfOk.Pure) (a0 : Int) (w : World) (w0 : (Lit.int .i64 a0).wf = true) :
    Calls Tryd.prog 52 #[.int .i64 a0] w fun e w' => e = .returned (.bool true) ∧ Below w.heap.size w w' := by
  have h := P a0 w0
  refine (impl_HalfOk.calls a0 true w h).mono ?_
  rintro e w' ⟨rfl, hd⟩
  exact ⟨rfl, hd.below⟩

end Go.Proofs.YtfbhkglgaehohaaDoor.PH
