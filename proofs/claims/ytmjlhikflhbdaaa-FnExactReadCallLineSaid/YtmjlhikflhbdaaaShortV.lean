/- Small words of this seat's proofs: goals that are closed in one way everywhere. No condition. -/
import Derived.Test.YtmjlhikflhbdaaaV0
namespace Go.Proofs.Ytmjlhikflhbdaaa.Short
open Go.RowKit Go.Proofs.YtmjlhikflhbdaaaW.PrintWords Go.Proofs.YtmjlhikflhbdaaaW.PrintLast Go.Proofs.YtmjlhikflhbdaaaW.PrintMore
theorem bl_ {P : Prop} (h : P := by repeat (first | (with_reducible first | exact HB.out | apply below_alloc | apply pw_below_drewN | apply below_drew1 | refine below_set ?_ (Aside0.out (by assumption))) | exact HB.out)) : P := h
theorem ra_ {P Q : Prop} (h : P) (f : P → Q := by (intro h_; (with_reducible repeat (first | apply Kd.R_alloc | apply Kd.R_drewN | apply Kd.R_drew)); exact h_)) : Q := f h
theorem bk_ {P Q : Prop} (h : P) (f : P → Q := by (intro h_; (with_reducible repeat (first | refine blk_drewN ?_ _ | refine blk_drew ?_ | refine blk_alloc ?_ _)); exact h_)) : Q := f h
theorem lm_ {P : Prop} (h : P := by (try simp only [List.map_toArray, List.map_cons, List.map_nil]); first | done | rfl | (simp only [List.length_drop, List.length_take]; rfl)) : P := h
theorem as_ {P : Prop} (h : P := by first | (with_reducible assumption) | assumption) : P := h
theorem hz_ {P : Prop} (h : P := by rw [hg]; exact (below_size bl_)) : P := h
end Go.Proofs.Ytmjlhikflhbdaaa.Short
