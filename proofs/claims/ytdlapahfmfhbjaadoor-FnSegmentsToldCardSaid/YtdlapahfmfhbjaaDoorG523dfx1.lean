/- Contracts of functions of the program and of the reference, and plain lemmas on what they compute. No condition. -/
import Derived.Test.YtdlapahfmfhbjaaDoorG523dfx0
import Derived.Test.YtdlapahfmfhbjaaDoorV0
import Derived.Test.YtdlapahfmfhbjaaDoorShortV
set_option maxHeartbeats 8000000
set_option maxRecDepth 100000
namespace Go.Proofs.YtdlapahfmfhbjaaDoor.PA
open Go.RowKit Go.Proofs.YtdlapahfmfhbjaaDoor.Short Go.Proofs.YtdlapahfmfhbjaaDoorW.PrintWords Go.Proofs.YtdlapahfmfhbjaaDoorW.PrintLast Go.Proofs.YtdlapahfmfhbjaaDoorW.PrintMore
attribute [local go_sem] max2_int min2_int max_two min_two max_three min_three max_four min_four   -- for this text's walks alone
set_option linter.unusedVariables false
set_option linter.unusedSimpArgs false

def impl_SumOf.f (k : Nat) (a0 : ByteArray) : Option (Int) := (impl_SumMore.f k 4294967295 a0).bind fun t262 => (some t262)
theorem impl_SumOf.mono : ∀ a0 k, LeO (impl_SumOf.f k a0) (impl_SumOf.f (k + 1) a0) := by
 intro a0 k
 unfold impl_SumOf.f
 have m0 := @impl_SumMore.mono
 exact mo_
theorem impl_SumOf.calls (k : Nat) (a0 : ByteArray) (r : Int) (w : World) (h : impl_SumOf.f k a0 = some r) :
 Calls Tryd.prog 110 #[.string a0] w fun e w' => e = .returned (.int .u32 r) ∧ Drawn0 w w' := by
 have H := h
 unfold impl_SumOf.f at H
 clear h
 replace H := bs_ H
 obtain ⟨t262, A2, H⟩ := H
 try dsimp only at H
 obtain rfl := Option.some.inj H
 go_enter Tryd.func110, Tryd.ntmps110
 go_wp2_with (first | ((with_reducible refine gate_callee (f := 121) rfl ?_); refine gs_ (some 4) Tryd.func121 #[.int .u32 4294967295, .string a0] ?_; (with_reducible refine (impl_SumMore.calls k 4294967295 a0 t262 _ A2.out).mono ?_); rintro e w' ⟨rfl, ⟨nd, rfl⟩⟩; refine ⟨_, rfl, ?_⟩))
 go_ret
 exact ⟨sr_, by repeat (first | exact Drawn0.refl _ | apply Drawn0.step)⟩


def impl_Sealed.f (k : Nat) (a0 : ByteArray) : Option (ByteArray × Bool) := if (a0.size : Int) > 20000 then (some ((⟨#[]⟩ : ByteArray), false)) else ((impl_SumOf.f k a0).bind fun t263 => ((impl_four.f (wrap64 (t263))).bind fun t264 => (if a0.size + t264.size ≤ 9223372036854775807 then (some (a0 ++ t264, true)) else (none))))
theorem impl_Sealed.mono : ∀ a0 k, LeO (impl_Sealed.f k a0) (impl_Sealed.f (k + 1) a0) := by
 intro a0 k
 unfold impl_Sealed.f
 have m0 := @impl_SumOf.mono
 exact mo_
theorem impl_Sealed.calls (k : Nat) (a0 : ByteArray) (r1 : ByteArray) (r2 : Bool) (w : World) (h : impl_Sealed.f k a0 = some (r1, r2)) :
 Calls Tryd.prog 85 #[.string a0] w fun e w' => e = .returned (.tuple #[.string r1, .bool r2]) ∧ Below w.heap.size w w' := by
 have HB := Aside0.mk (Below.refl w.heap.size w)
 have H := h
 unfold impl_Sealed.f at H
 clear h
 by_cases c2 : (a0.size : Int) > 20000
 ·rw [if_pos c2] at H
  have c2b0 := decide_eq_true c2
  have c2b1 : decide (20000 < a0.size) = true := decide_eq_true (by omega)
  clear c2
  simp only [Option.some.injEq, Prod.mk.injEq] at H
  obtain ⟨rfl, rfl⟩ := H
  go_enter Tryd.func85, Tryd.ntmps85
  go_wp2
  go_ret2
  exact ⟨er_, bl_⟩
 rw [if_neg c2] at H
 have c2b0 := decide_eq_false c2
 have c2b1 : decide (20000 < a0.size) = false := decide_eq_false (by omega)
 clear c2
 replace H := bs_ H
 obtain ⟨t263, A3, H⟩ := H
 try dsimp only at H
 replace H := bs_ H
 obtain ⟨t264, A4, H⟩ := H
 try dsimp only at H
 by_cases c5 : a0.size + t264.size ≤ 9223372036854775807
 rotate_left
 ·exact nn_ c5 H
 rw [if_pos c5] at H
 have c5b0 := eq_true c5
 have c5b1 : decide (a0.size + t264.size ≤ 9223372036854775807) = true := decide_eq_true c5
 try have c5b2 : (9223372036854775807 < a0.size + t264.size) = False := eq_false (Nat.not_lt.2 c5)
 simp only [Option.some.injEq, Prod.mk.injEq] at H
 obtain ⟨rfl, rfl⟩ := H
 go_enter Tryd.func85, Tryd.ntmps85
 go_wp2_with (first | ((with_reducible refine gate_callee (f := 110) rfl ?_); refine gs_ (some 9) Tryd.func110 #[.string a0] ?_; (with_reducible refine (impl_SumOf.calls k a0 t263 _ A3.out).mono ?_); rintro e w' ⟨rfl, ⟨nd, rfl⟩⟩; refine ⟨_, rfl, ?_⟩) | ((with_reducible refine gate_callee (f := 102) rfl ?_); refine gs_ (some 11) Tryd.func102 #[.int .i64 (wrap64 (t263))] ?_; (with_reducible refine (impl_four.calls (wrap64 (t263)) t264 _ A4.out).mono ?_); rintro e w6 ⟨rfl, hb⟩; refine ⟨_, rfl, ?_⟩; replace HB := Aside0.mk (below_step bl_ hb); (try clear hb)))
 go_ret2
 exact ⟨er_, bl_⟩

end Go.Proofs.YtdlapahfmfhbjaaDoor.PA

namespace Go.Proofs.YtdlapahfmfhbjaaDoor.RegAny
open Go.RowKit Go.Proofs.YtdlapahfmfhbjaaDoorW.PrintWords Go.Proofs.YtdlapahfmfhbjaaDoorW.PrintLast Go.Proofs.YtdlapahfmfhbjaaDoorW.PrintMore
set_option linter.unusedVariables false
theorem ite_some {α : Type} {c : Prop} [Decidable c] {x : Option α} {r : α} (h : (if c then x else none) = some r) : c ∧ x = some r := by
 by_cases hc : c
 ·rw [if_pos hc] at h; exact ⟨hc, h⟩
 ·rw [if_neg hc] at h; cases h
section
variable {P : Program} {ops : Array Oper} {Q : Exit → Act → World → Prop} {B : List Nat}
def Gives (P : Program) (oi : Oper) (a : Act) (w : World) (V : World → Value → Prop) : Prop :=
 (∃ v w', (execOp a.eval oi).run P w = .ok (.value v) w' ∧ V w' v ∧ Below w.heap.size w w') ∨
 (∃ f args, (execOp a.eval oi).run P w = .ok (.enter f args) w ∧ Calls P f args w fun e w' => ∃ v, e = .returned v ∧ V w' v ∧ Below w.heap.size w w')
abbrev Slots := List (Tmp × (World → Value → Prop))
structure Inv (w0 : World) (a0 : Act) (M : World → Prop) (D : Slots) (b : Nat → Bool) (a : Act) (w : World) : Prop where
 below : Below w0.heap.size w0 w
 mem : M w
 size : a.tmps.size = a0.tmps.size
 defers : a.defers = a0.defers
 old : ∀ t, (D.all fun e => !(e.1 == t)) = true → a.tmps[t]? = a0.tmps[t]?
 done : ∀ i e, D[i]? = some e → b i = true → ∃ v, a.tmps[e.1]? = some v ∧ e.2 w v
def Stays (V : World → Prop) : Prop := ∀ w w', V w → Below w.heap.size w w' → V w'
theorem step_of {w0 : World} {a0 : Act} {M : World → Prop} {D : Slots} {O : List Nat} {i : Nat} (e : Tmp × (World → Value → Prop)) (oi : Oper)
 (hM : Stays M) (hV : ∀ e ∈ D, ∀ v, Stays fun w => e.2 w v) (hnd : (D.map (·.1)).Nodup) (hD : D[i]? = some e) (ho : ops[i]? = some oi) (hd : oi.dst = some e.1) (hg : oi.guard = none) (hlt : e.1 < a0.tmps.size)
 (hO : ∀ j, (B.getD i 0).testBit j = true → O.contains j = true)
 (h : ∀ a w, M w → (∀ t, (D.all fun e => !(e.1 == t)) = true → a.tmps[t]? = a0.tmps[t]?) → (∀ j e', D[j]? = some e' → (B.getD i 0).testBit j = true → ∃ v, a.tmps[e'.1]? = some v ∧ e'.2 w v) → Gives P oi a w e.2) :
 StepAt P ops Q B O (Inv w0 a0 M D) i := by
 intro b a w hI hb hdeps _
 refine ⟨oi, ho, fun K hK => ?_⟩
 have hw : Region.wanted oi (yielded ops a.tmps) = true := by simp [Region.wanted, hg]
 rw [if_pos hw]
 have next : ∀ v w', e.2 w' v → Below w.heap.size w w' → K (a.put oi.dst v) w' := by
  intro v w' hv hb'
  refine hK.out _ _ ⟨below_step hI.below hb', hM _ _ hI.mem hb', ?_, ?_, ?_, ?_⟩
  ·rw [hd]; simp [Act.put, hI.size]
  ·rw [hd]; simp [Act.put, hI.defers]
  ·intro t ht
   have hne : e.1 ≠ t := by
    have := List.all_eq_true.1 ht e (List.mem_of_getElem? hD)
    simpa using this
   rw [hd]
   simp only [Act.put]
   rw [Array.getElem?_setIfInBounds_ne hne]
   exact hI.old t ht
  ·intro j e' hj hbj
   by_cases hij : j = i
   ·subst hij
    obtain rfl : e' = e := Option.some.inj (hj.symm.trans hD)
    refine ⟨v, ?_, hv⟩
    rw [hd]
    simp only [Act.put]
    rw [Array.getElem?_setIfInBounds_self_of_lt (by rw [hI.size]; exact hlt)]
   ·have hbj' : b j = true := by
     unfold up at hbj
     simpa [hij] using hbj
    obtain ⟨v', hv', hV'⟩ := hI.done j e' hj hbj'
    have hne : e.1 ≠ e'.1 := by
     intro he
     have h1 : (D.map (·.1))[i]? = some e.1 := by rw [List.getElem?_map, hD]; rfl
     have h2 : (D.map (·.1))[j]? = some e.1 := by rw [List.getElem?_map, hj]; simp [he]
     have hl1 := (List.getElem?_eq_some_iff.1 h1).1
     have hl2 := (List.getElem?_eq_some_iff.1 h2).1
     exact hij ((List.getElem?_inj hl2 hnd).1 (h2.trans h1.symm))
    refine ⟨v', ?_, hV e' (List.mem_of_getElem? hj) v' _ _ hV' hb'⟩
    rw [hd]
    simp only [Act.put]
    rw [Array.getElem?_setIfInBounds_ne hne]
    exact hv'
 rcases h a w hI.mem hI.old (fun j e' hj hbit => hI.done j e' hj (hdeps j (by rw [hO j hbit, hbit]; rfl))) with ⟨v, w', hr, hv, hb'⟩ | ⟨f, args, hr, hc⟩
 ·unfold Oper.wp
  rw [hr]
  exact next v w' hv hb'
 ·unfold Oper.wp
  rw [hr, Oper.upon_enter]
  refine hc.mono ?_
  rintro e2 w' ⟨v, rfl, hv, hb'⟩
  exact next v w' hv hb'
def Is (x : Value) : World → Value → Prop := fun _ v => v = x
theorem Is_stays (x v : Value) : Stays fun w => Is x w v := fun _ _ h _ => h
theorem gPure {oi : Oper} {a : Act} {w : World} {x : Value} (hr : (execOp a.eval oi).run P w = .ok (.value x) w) : Gives P oi a w (Is x) := .inl ⟨x, w, hr, rfl, Below.refl _ _⟩
theorem within_of {n : Nat} (h : (B.all fun x => decide (x < 2 ^ n)) = true) (i j : Nat) (hb : (B.getD i 0).testBit j = true) : (List.range n).contains j = true := by
 have hlt : B.getD i 0 < 2 ^ n := by
  rw [List.getD_eq_getElem?_getD]
  cases hq : B[i]? with
  | none => simp; exact Nat.two_pow_pos n
  | some x => simpa using List.all_eq_true.1 h x (List.mem_of_getElem? hq)
 rcases Nat.lt_or_ge j n with hj | hj
 ·simpa using hj
 ·exfalso
  have := Nat.testBit_lt_two_pow (Nat.lt_of_lt_of_le hlt (Nat.pow_le_pow_right (by omega) hj))
  rw [hb] at this
  cases this
theorem region_any {id n : Nat} {wb w0 : World} {a0 : Act} {M : World → Prop} {D : Slots} {T : Bool × List (List Nat × List Nat)} (l : Array Bool) (hm : P.follows .mixedOrders = true) (hT : rtab .any ops = T) (hw : waitsOk T.2 B = true) (hk : baseOk T.2 (List.range n) = true) (hn : ops.size = n) (hl : Array.replicate n false = l)
 (hlo : (lof T.2.length (List.range n) (fun _ => false) == l.toList && (List.range n).length == n) = true) (hB : Below wb.heap.size wb w0.drew) (h0 : M w0.drew)
 (hs : ∀ i ∈ List.range n, StepAt P ops Q B (List.range n) (Inv wb a0 M D) i)
 (hend : ∀ a w, Below wb.heap.size wb w → M w → a.tmps.size = a0.tmps.size → a.defers = a0.defers → (∀ t, (D.all fun e => !(e.1 == t)) = true → a.tmps[t]? = a0.tmps[t]?) → (∀ i e, i < n → D[i]? = some e → ∃ v, a.tmps[e.1]? = some v ∧ e.2 w v) → Q .normal a w) :
 (Code.region id ops true).wp P Q a0 w0 := by
 refine start_ (n := n) (S := fun _ => True) (ds := []) l hm hn hl trivial (fun _ => ?_)
 refine inv_ (List.range n) (Inv wb a0 M D) hT hw hk hlo ?_ hs ?_
 ·exact ⟨hB, h0, rfl, rfl, fun _ _ => rfl, fun i e _ h => by cases h⟩
 ·intro b a w hb hI
  exact hend a w hI.below hI.mem hI.size hI.defers hI.old (fun i e hi he => hI.done i e he (hb i (by simp; exact hi)))
end
end Go.Proofs.YtdlapahfmfhbjaaDoor.RegAny

namespace Go.Proofs.YtdlapahfmfhbjaaDoor.PA
open Go.RowKit Go.Proofs.YtdlapahfmfhbjaaDoor.Short Go.Proofs.YtdlapahfmfhbjaaDoorW.PrintWords Go.Proofs.YtdlapahfmfhbjaaDoorW.PrintLast Go.Proofs.YtdlapahfmfhbjaaDoorW.PrintMore
attribute [local go_sem] max2_int min2_int max_two min_two max_three min_three max_four min_four   -- for this text's walks alone
set_option linter.unusedVariables false
set_option linter.unusedSimpArgs false
open Go.Proofs.YtdlapahfmfhbjaaDoor.RegAny

def impl_FrameText.f (k : Nat) (a0_0 : Int) (a0_1 : Int) (a0_2 : Int) (a0_3 : Int) (a0_4 : Int) (a0_5 : Int) (a0_6 : Int) : Option (ByteArray × Bool) := (impl_FrameOk.f k a0_0 a0_1 a0_2 a0_3 a0_4 a0_5 a0_6).bind fun t207 => (if t207 = true then ((impl_VarText.f k a0_2).bind fun bt208 => ((impl_VarText.f k a0_6).bind fun bt210 => ((some (([(a0_0) % 256, (a0_1) % 256] : List Int) : List Int)).bind fun y212 => (if (strOfNums y212).size + bt208.1.size ≤ 9223372036854775807 then ((some (([(a0_3) % 256] : List Int) : List Int)).bind fun y215 => (if ((strOfNums y212) ++ bt208.1).size + (strOfNums y215).size ≤ 9223372036854775807 then ((impl_four.f a0_4).bind fun t218 => (if (((strOfNums y212) ++ bt208.1) ++ (strOfNums y215)).size + t218.size ≤ 9223372036854775807 then ((impl_four.f a0_5).bind fun t219 => (if ((((strOfNums y212) ++ bt208.1) ++ (strOfNums y215)) ++ t218).size + t219.size ≤ 9223372036854775807 then (if (((((strOfNums y212) ++ bt208.1) ++ (strOfNums y215)) ++ t218) ++ t219).size + bt210.1.size ≤ 9223372036854775807 then ((impl_Sealed.f k ((((((strOfNums y212) ++ bt208.1) ++ (strOfNums y215)) ++ t218) ++ t219) ++ bt210.1)).bind fun bt220 => (some (bt220.1, bt220.2))) else (none)) else (none))) else (none))) else (none))) else (none))))) else (some ((⟨#[]⟩ : ByteArray), false)))
theorem impl_FrameText.mono : ∀ a0 a1 a2 a3 a4 a5 a6 k, LeO (impl_FrameText.f k a0 a1 a2 a3 a4 a5 a6) (impl_FrameText.f (k + 1) a0 a1 a2 a3 a4 a5 a6) := by
 intro a0 a1 a2 a3 a4 a5 a6 k
 unfold impl_FrameText.f
 have m0 := @impl_FrameOk.mono
 have m1 := @impl_Sealed.mono
 have m2 := @impl_VarText.mono
 exact mo_
def impl_FrameText.T5 : Bool × List (List Nat × List Nat) := (true, [([], []), ([0], [0]), ([1], [1]), ([], []), ([3], [3]), ([4], [4]), ([2, 5], [2, 5]), ([6], [6]), ([], []), ([7, 8], [7, 8]), ([], []), ([10], [10]), ([11], [11]), ([12], [12]), ([13], [13]), ([14], [14]), ([9, 15], [9, 15]), ([], []), ([17], [17]), ([18], [18]), ([19], [19]), ([16, 20], [16, 20]), ([], []), ([22], [22]), ([23], [23]), ([24, 20], [24]), ([21, 25], [21, 25]), ([], []), ([26, 27], [26, 27]), ([28, 25], [28]), ([29], [29]), ([29], [29]), ([30, 29, 0, 1, 2, 3, 4, 5, 6, 7, 8, 9, 10, 11, 12, 13, 14, 15, 16, 17, 18, 19, 20, 21, 22, 23, 24, 25, 26, 27, 28, 29, 30, 31], [30]), ([31, 32, 0, 1, 2, 3, 4, 5, 6, 7, 8, 9, 10, 11, 12, 13, 14, 15, 16, 17, 18, 19, 20, 21, 22, 23, 24, 25, 26, 27, 28, 29, 30, 31, 32], [31])])
def impl_FrameText.B5 : List Nat := [0, 1, 3, 0, 8, 24, 63, 127, 0, 511, 0, 1024, 3072, 7168, 15360, 31744, 65535, 0, 131072, 393216, 917504, 2097151, 0, 4194304, 12582912, 31326208, 67108863, 0, 268435455, 536870911, 1073741823, 1073741823, 4294967295, 8589934591]
theorem impl_FrameText.tab5 : rtab .any (opsOf Tryd.f79 5) = impl_FrameText.T5 := by kernel_rfl
theorem impl_FrameText.bits5 : waitsOk impl_FrameText.T5.2 impl_FrameText.B5 = true := by kernel_rfl
theorem impl_FrameText.calls (k : Nat) (a0_0 : Int) (a0_1 : Int) (a0_2 : Int) (a0_3 : Int) (a0_4 : Int) (a0_5 : Int) (a0_6 : Int) (r1 : ByteArray) (r2 : Bool) (w : World) (h : impl_FrameText.f k a0_0 a0_1 a0_2 a0_3 a0_4 a0_5 a0_6 = some (r1, r2)) :
 Calls Tryd.prog 79 #[.agg #[.int .i64 a0_0, .int .i64 a0_1, .int .i64 a0_2, .int .i64 a0_3, .int .i64 a0_4, .int .i64 a0_5, .int .i64 a0_6]] w fun e w' => e = .returned (.tuple #[.string r1, .bool r2]) ∧ Below w.heap.size w w' := by
 have hu80 := Tryd.underlying80
 have HB := Aside0.mk (Below.refl w.heap.size w)
 unfold impl_FrameText.f at h
 obtain ⟨t207, A20, h⟩ := Option.bind_eq_some_iff.mp h
 have A2 := Aside0.mk A20
 clear A20
 split at h
 ·rename_i c3
  subst c3
  obtain ⟨⟨t208, t209⟩, A40, h⟩ := Option.bind_eq_some_iff.mp h
  obtain ⟨⟨t210, t211⟩, A50, h⟩ := Option.bind_eq_some_iff.mp h
  have A4 := Aside0.mk A40
  have A5 := Aside0.mk A50
  clear A40 A50
  simp only [Option.bind_some] at h
  obtain ⟨c6, h⟩ := ite_some h
  obtain ⟨c7, h⟩ := ite_some h
  obtain ⟨t218, A80, h⟩ := Option.bind_eq_some_iff.mp h
  have A8 := Aside0.mk A80
  clear A80
  obtain ⟨c9, h⟩ := ite_some h
  obtain ⟨t219, A100, h⟩ := Option.bind_eq_some_iff.mp h
  have A10 := Aside0.mk A100
  clear A100
  obtain ⟨c11, h⟩ := ite_some h
  obtain ⟨c12, h⟩ := ite_some h
  obtain ⟨⟨t220, t221⟩, A130, h⟩ := Option.bind_eq_some_iff.mp h
  have A13 := Aside0.mk A130
  clear A130
  simp only [Option.some.injEq, Prod.mk.injEq] at h
  obtain ⟨rfl, rfl⟩ := h
  have C6 := Aside0.mk c6
  have C7 := Aside0.mk c7
  have C9 := Aside0.mk c9
  have C11 := Aside0.mk c11
  have C12 := Aside0.mk c12
  clear c6 c7 c9 c11 c12
  go_enter Tryd.func79, Tryd.ntmps79
  go_wp2_with (first
   | ((with_reducible refine gate_dst (N := 1) rfl ?_); refine box_event rfl (N := 1) rfl (cs := #[.int .i64 a0_0, .int .i64 a0_1, .int .i64 a0_2, .int .i64 a0_3, .int .i64 a0_4, .int .i64 a0_5, .int .i64 a0_6]) (t := 80) (by kernel_rfl) ?_; intro g hg w1 hbox hb; have BK := Aside0.mk hbox; have GE := Aside0.mk (by rw [hg]; exact below_size HB.out : w.heap.size ≤ g); have n1_ := Aside0.mk (below_step HB.out hb); clear HB; have HB := n1_; clear n1_ hbox hb hg; have z0 : w1.cell? ⟨g, 0, none⟩ = some (.int .i64 a0_0) := (blk_cell BK.out 0).trans rfl; have z1 : w1.cell? ⟨g, 1, none⟩ = some (.int .i64 a0_1) := (blk_cell BK.out 1).trans rfl; have z2 : w1.cell? ⟨g, 2, none⟩ = some (.int .i64 a0_2) := (blk_cell BK.out 2).trans rfl; have z3 : w1.cell? ⟨g, 3, none⟩ = some (.int .i64 a0_3) := (blk_cell BK.out 3).trans rfl; have z4 : w1.cell? ⟨g, 4, none⟩ = some (.int .i64 a0_4) := (blk_cell BK.out 4).trans rfl; have z5 : w1.cell? ⟨g, 5, none⟩ = some (.int .i64 a0_5) := (blk_cell BK.out 5).trans rfl; have z6 : w1.cell? ⟨g, 6, none⟩ = some (.int .i64 a0_6) := (blk_cell BK.out 6).trans rfl)
   | (go_at_call 106; (with_reducible refine (impl_FrameOk.calls k a0_0 a0_1 a0_2 a0_3 a0_4 a0_5 a0_6 true _ A2.out).mono ?_); rintro e w2 ⟨rfl, hb⟩; have n1_ := Aside0.mk (below_step HB.out hb); have n2_ := Aside0.mk (blk_below BK.out hb); clear HB BK z0 z1 z2 z3 z4 z5 z6; have HB := n1_; have BK := n2_; clear n1_ n2_ hb; have z2 : w2.cell? ⟨g, 2, none⟩ = some (.int .i64 a0_2) := (blk_cell BK.out 2).trans rfl)
   | (go_at_call 84; (with_reducible refine (impl_VarText.calls k a0_2 t208 t209 _ A4.out).mono ?_); rintro e w3 ⟨rfl, hb⟩; have n1_ := Aside0.mk (below_step HB.out hb); have n2_ := Aside0.mk (blk_below BK.out hb); clear HB BK z2; have HB := n1_; have BK := n2_; clear n1_ n2_ hb; have z6 : w3.cell? ⟨g, 6, none⟩ = some (.int .i64 a0_6) := (blk_cell BK.out 6).trans rfl)
   | (go_at_call 84; (with_reducible refine (impl_VarText.calls k a0_6 t210 t211 _ A5.out).mono ?_); rintro e w4 ⟨rfl, hb⟩; have n1_ := Aside0.mk (below_step HB.out hb); have n2_ := Aside0.mk (blk_below BK.out hb); clear HB BK z6; have HB := n1_; have BK := n2_; clear n1_ n2_ hb))
  obtain ⟨D, hD⟩ : ∃ D : Slots, D = [(24, Is (.pointer (some ⟨g, 0, none⟩))), (25, Is (.int .i64 a0_0)), (26, Is (.int .u8 (a0_0 % 256))), (27, Is (.pointer (some ⟨g, 1, none⟩))), (28, Is (.int .i64 a0_1)), (29, Is (.int .u8 (a0_1 % 256))), (30, fun w_ v_ => Kd.R (Kd.int .u8) 5 w_ w.heap.size (fun _ => True) v_ [a0_0 % 256, a0_1 % 256]), (31, Is (.string (strOfNums [a0_0 % 256, a0_1 % 256]))), (32, Is (.string (t208))), (33, Is (.string (strOfNums [a0_0 % 256, a0_1 % 256] ++ t208))), (34, Is (.pointer (some ⟨g, 3, none⟩))), (35, Is (.pointer (some ⟨g, 3, none⟩))), (36, Is (.int .i64 a0_3)), (37, Is (.int .u8 (a0_3 % 256))), (38, fun w_ v_ => Kd.R (Kd.int .u8) 5 w_ w.heap.size (fun _ => True) v_ [a0_3 % 256]), (39, Is (.string (strOfNums [a0_3 % 256]))), (40, Is (.string ((strOfNums [a0_0 % 256, a0_1 % 256] ++ t208) ++ strOfNums [a0_3 % 256]))), (41, Is (.pointer (some ⟨g, 3, none⟩))), (42, Is (.pointer (some ⟨g, 4, none⟩))), (43, Is (.int .i64 a0_4)), (44, Is (.string (t218))), (45, Is (.string (((strOfNums [a0_0 % 256, a0_1 % 256] ++ t208) ++ strOfNums [a0_3 % 256]) ++ t218))), (46, Is (.pointer (some ⟨g, 3, none⟩))), (47, Is (.pointer (some ⟨g, 5, none⟩))), (48, Is (.int .i64 a0_5)), (49, Is (.string (t219))), (50, Is (.string ((((strOfNums [a0_0 % 256, a0_1 % 256] ++ t208) ++ strOfNums [a0_3 % 256]) ++ t218) ++ t219))), (51, Is (.string (t210))), (52, Is (.string (((((strOfNums [a0_0 % 256, a0_1 % 256] ++ t208) ++ strOfNums [a0_3 % 256]) ++ t218) ++ t219) ++ t210))), (53, Is (.tuple #[.string t220, .bool t221])), (54, Is (.string (t220))), (55, Is (.bool t221)), (2, Is (.string (t220))), (3, Is (.bool t221))] := ⟨_, rfl⟩
  have hM : Stays fun w' => w'.heap[g]? = some (.cells #[.int .i64 a0_0, .int .i64 a0_1, .int .i64 a0_2, .int .i64 a0_3, .int .i64 a0_4, .int .i64 a0_5, .int .i64 a0_6] 80 (0, 0)) ∧ Below w.heap.size w w' := fun _ _ h hb => ⟨blk_below h.1 hb, below_step h.2 hb⟩
  have hV : ∀ e ∈ D, ∀ v, Stays fun w => e.2 w v := by
   rw [hD]
   repeat' first | exact List.forall_mem_nil _ | refine List.forall_mem_cons.2 ⟨?_, ?_⟩
   all_goals first | exact fun v => Is_stays _ v | exact fun v w1 w2 h hb => Kd.R_below h hb
  have hnd : (D.map (·.1)).Nodup := by rw [hD]; exact of_decide_eq_true rfl
  refine region_any (n := 34) (wb := w) (M := fun w' => w'.heap[g]? = some (.cells #[.int .i64 a0_0, .int .i64 a0_1, .int .i64 a0_2, .int .i64 a0_3, .int .i64 a0_4, .int .i64 a0_5, .int .i64 a0_6] 80 (0, 0)) ∧ Below w.heap.size w w') (D := D) (Array.replicate 34 false) (by kernel_rfl) impl_FrameText.tab5 impl_FrameText.bits5 (by kernel_rfl) rfl rfl (by kernel_rfl) (below_drew1 HB.out) ⟨blk_drew BK.out, below_drew1 HB.out⟩ ?_ ?_
  ·show ∀ i ∈ [0, 1, 2, 3, 4, 5, 6, 7, 8, 9, 10, 11, 12, 13, 14, 15, 16, 17, 18, 19, 20, 21, 22, 23, 24, 25, 26, 27, 28, 29, 30, 31, 32, 33], _
   refine steps_cons ?_ (steps_cons ?_ (steps_cons ?_ (steps_cons ?_ (steps_cons ?_ (steps_cons ?_ (steps_cons ?_ (steps_cons ?_ (steps_cons ?_ (steps_cons ?_ (steps_cons ?_ (steps_cons ?_ (steps_cons ?_ (steps_cons ?_ (steps_cons ?_ (steps_cons ?_ (steps_cons ?_ (steps_cons ?_ (steps_cons ?_ (steps_cons ?_ (steps_cons ?_ (steps_cons ?_ (steps_cons ?_ (steps_cons ?_ (steps_cons ?_ (steps_cons ?_ (steps_cons ?_ (steps_cons ?_ (steps_cons ?_ (steps_cons ?_ (steps_cons ?_ (steps_cons ?_ (steps_cons ?_ (steps_cons ?_ (steps_nil))))))))))))))))))))))))))))))))))
   ·refine step_of _ _ hM hV hnd (by rw [hD]; rfl) rfl rfl rfl (of_decide_eq_true rfl) (within_of (by kernel_rfl) _) ?_
    intro a w9 hm hold hdep
    have e0 := eval_of ((hold 1 (by rw [hD]; rfl)).trans rfl)
    exact gPure (by first | (go_simp; done) | (go_simp; rfl))
   ·refine step_of _ _ hM hV hnd (by rw [hD]; rfl) rfl rfl rfl (of_decide_eq_true rfl) (within_of (by kernel_rfl) _) ?_
    intro a w9 hm hold hdep
    obtain ⟨_, h0, rfl⟩ := hdep 0 _ (by rw [hD]; rfl) (by rfl)
    have e0 := eval_of h0
    have z := (blk_cell hm.1 0).trans rfl
    exact gPure (by first | (go_simp; done) | (go_simp; rfl))
   ·refine step_of _ _ hM hV hnd (by rw [hD]; rfl) rfl rfl rfl (of_decide_eq_true rfl) (within_of (by kernel_rfl) _) ?_
    intro a w9 hm hold hdep
    obtain ⟨_, h0, rfl⟩ := hdep 1 _ (by rw [hD]; rfl) (by rfl)
    have e0 := eval_of h0
    exact gPure (by first | (go_simp; done) | (go_simp; rfl))
   ·refine step_of _ _ hM hV hnd (by rw [hD]; rfl) rfl rfl rfl (of_decide_eq_true rfl) (within_of (by kernel_rfl) _) ?_
    intro a w9 hm hold hdep
    have e0 := eval_of ((hold 1 (by rw [hD]; rfl)).trans rfl)
    exact gPure (by first | (go_simp; done) | (go_simp; rfl))
   ·refine step_of _ _ hM hV hnd (by rw [hD]; rfl) rfl rfl rfl (of_decide_eq_true rfl) (within_of (by kernel_rfl) _) ?_
    intro a w9 hm hold hdep
    obtain ⟨_, h0, rfl⟩ := hdep 3 _ (by rw [hD]; rfl) (by rfl)
    have e0 := eval_of h0
    have z := (blk_cell hm.1 1).trans rfl
    exact gPure (by first | (go_simp; done) | (go_simp; rfl))
   ·refine step_of _ _ hM hV hnd (by rw [hD]; rfl) rfl rfl rfl (of_decide_eq_true rfl) (within_of (by kernel_rfl) _) ?_
    intro a w9 hm hold hdep
    obtain ⟨_, h0, rfl⟩ := hdep 4 _ (by rw [hD]; rfl) (by rfl)
    have e0 := eval_of h0
    exact gPure (by first | (go_simp; done) | (go_simp; rfl))
   ·refine step_of _ _ hM hV hnd (by rw [hD]; rfl) rfl rfl rfl (of_decide_eq_true rfl) (within_of (by kernel_rfl) _) ?_
    intro a w9 hm hold hdep
    obtain ⟨_, h0, rfl⟩ := hdep 2 _ (by rw [hD]; rfl) (by rfl)
    have e0 := eval_of h0
    obtain ⟨_, h1, rfl⟩ := hdep 5 _ (by rw [hD]; rfl) (by rfl)
    have e1 := eval_of h1
    refine .inl ⟨.slice (some ⟨w9.heap.size, 0, none⟩) 2 2, w9.alloc (.cells #[.int .u8 (a0_0 % 256), .int .u8 (a0_1 % 256)] 5 (0, 0)), (by first | (go_simp; done) | (go_simp; rfl)), ?_, below_alloc (Below.refl _ _) _⟩
    have h2 := World.ownsRow_lit (base := w.heap.size) (e := 5) (size := 1) w9 #[.int .u8 (a0_0 % 256), .int .u8 (a0_1 % 256)] 2 (below_size hm.2) (by decide) (by rfl)
    exact Kd.R_of_own (enc := Value.int .u8) (h1 := fun _ => rfl) (by simpa [encs] using h2) (fun _ _ => trivial)
   ·refine step_of _ _ hM hV hnd (by rw [hD]; rfl) rfl rfl rfl (of_decide_eq_true rfl) (within_of (by kernel_rfl) _) ?_
    intro a w9 hm hold hdep
    obtain ⟨v0, h0, r0⟩ := hdep 6 _ (by rw [hD]; rfl) (by rfl)
    have e0 := eval_of h0
    obtain ⟨A, c, rfl, _, hC⟩ := Kd.R_reads r0
    have kc : (convert 22 9 (.slice A 2 c)).run Tryd.prog w9 = _ := Kd.C_string (P := Tryd.prog) (c := c) Tryd.underlying22 Tryd.underlying5 Tryd.underlying9 hC
    exact gPure (by first | (go_simp; done) | (go_simp; rfl))
   ·refine step_of _ _ hM hV hnd (by rw [hD]; rfl) rfl rfl rfl (of_decide_eq_true rfl) (within_of (by kernel_rfl) _) ?_
    intro a w9 hm hold hdep
    have e0 := eval_of ((hold 4 (by rw [hD]; rfl)).trans rfl)
    exact gPure (by first | (go_simp; done) | (go_simp; rfl))
   ·refine step_of _ _ hM hV hnd (by rw [hD]; rfl) rfl rfl rfl (of_decide_eq_true rfl) (within_of (by kernel_rfl) _) ?_
    intro a w9 hm hold hdep
    obtain ⟨_, h0, rfl⟩ := hdep 7 _ (by rw [hD]; rfl) (by rfl)
    have e0 := eval_of h0
    obtain ⟨_, h1, rfl⟩ := hdep 8 _ (by rw [hD]; rfl) (by rfl)
    have e1 := eval_of h1
    have c := C6.out
    try simp only [ByteArray.size_append] at c
    exact gPure (by first | (go_simp; done) | (go_simp; rfl) | (go_simp; exact c))
   ·refine step_of _ _ hM hV hnd (by rw [hD]; rfl) rfl rfl rfl (of_decide_eq_true rfl) (within_of (by kernel_rfl) _) ?_
    intro a w9 hm hold hdep
    have e0 := eval_of ((hold 1 (by rw [hD]; rfl)).trans rfl)
    exact gPure (by first | (go_simp; done) | (go_simp; rfl))
   ·refine step_of _ _ hM hV hnd (by rw [hD]; rfl) rfl rfl rfl (of_decide_eq_true rfl) (within_of (by kernel_rfl) _) ?_
    intro a w9 hm hold hdep
    obtain ⟨_, h0, rfl⟩ := hdep 10 _ (by rw [hD]; rfl) (by rfl)
    have e0 := eval_of h0
    exact gPure (by first | (go_simp; done) | (go_simp; rfl))
   ·refine step_of _ _ hM hV hnd (by rw [hD]; rfl) rfl rfl rfl (of_decide_eq_true rfl) (within_of (by kernel_rfl) _) ?_
    intro a w9 hm hold hdep
    obtain ⟨_, h0, rfl⟩ := hdep 11 _ (by rw [hD]; rfl) (by rfl)
    have e0 := eval_of h0
    have z := (blk_cell hm.1 3).trans rfl
    exact gPure (by first | (go_simp; done) | (go_simp; rfl))
   ·refine step_of _ _ hM hV hnd (by rw [hD]; rfl) rfl rfl rfl (of_decide_eq_true rfl) (within_of (by kernel_rfl) _) ?_
    intro a w9 hm hold hdep
    obtain ⟨_, h0, rfl⟩ := hdep 12 _ (by rw [hD]; rfl) (by rfl)
    have e0 := eval_of h0
    exact gPure (by first | (go_simp; done) | (go_simp; rfl))
   ·refine step_of _ _ hM hV hnd (by rw [hD]; rfl) rfl rfl rfl (of_decide_eq_true rfl) (within_of (by kernel_rfl) _) ?_
    intro a w9 hm hold hdep
    obtain ⟨_, h0, rfl⟩ := hdep 13 _ (by rw [hD]; rfl) (by rfl)
    have e0 := eval_of h0
    refine .inl ⟨.slice (some ⟨w9.heap.size, 0, none⟩) 1 1, w9.alloc (.cells #[.int .u8 (a0_3 % 256)] 5 (0, 0)), (by first | (go_simp; done) | (go_simp; rfl)), ?_, below_alloc (Below.refl _ _) _⟩
    have h2 := World.ownsRow_lit (base := w.heap.size) (e := 5) (size := 1) w9 #[.int .u8 (a0_3 % 256)] 1 (below_size hm.2) (by decide) (by rfl)
    exact Kd.R_of_own (enc := Value.int .u8) (h1 := fun _ => rfl) (by simpa [encs] using h2) (fun _ _ => trivial)
   ·refine step_of _ _ hM hV hnd (by rw [hD]; rfl) rfl rfl rfl (of_decide_eq_true rfl) (within_of (by kernel_rfl) _) ?_
    intro a w9 hm hold hdep
    obtain ⟨v0, h0, r0⟩ := hdep 14 _ (by rw [hD]; rfl) (by rfl)
    have e0 := eval_of h0
    obtain ⟨A, c, rfl, _, hC⟩ := Kd.R_reads r0
    have kc : (convert 22 9 (.slice A 1 c)).run Tryd.prog w9 = _ := Kd.C_string (P := Tryd.prog) (c := c) Tryd.underlying22 Tryd.underlying5 Tryd.underlying9 hC
    exact gPure (by first | (go_simp; done) | (go_simp; rfl))
   ·refine step_of _ _ hM hV hnd (by rw [hD]; rfl) rfl rfl rfl (of_decide_eq_true rfl) (within_of (by kernel_rfl) _) ?_
    intro a w9 hm hold hdep
    obtain ⟨_, h0, rfl⟩ := hdep 9 _ (by rw [hD]; rfl) (by rfl)
    have e0 := eval_of h0
    obtain ⟨_, h1, rfl⟩ := hdep 15 _ (by rw [hD]; rfl) (by rfl)
    have e1 := eval_of h1
    have c := C7.out
    try simp only [ByteArray.size_append] at c
    exact gPure (by first | (go_simp; done) | (go_simp; rfl) | (go_simp; exact c))
   ·refine step_of _ _ hM hV hnd (by rw [hD]; rfl) rfl rfl rfl (of_decide_eq_true rfl) (within_of (by kernel_rfl) _) ?_
    intro a w9 hm hold hdep
    have e0 := eval_of ((hold 1 (by rw [hD]; rfl)).trans rfl)
    exact gPure (by first | (go_simp; done) | (go_simp; rfl))
   ·refine step_of _ _ hM hV hnd (by rw [hD]; rfl) rfl rfl rfl (of_decide_eq_true rfl) (within_of (by kernel_rfl) _) ?_
    intro a w9 hm hold hdep
    obtain ⟨_, h0, rfl⟩ := hdep 17 _ (by rw [hD]; rfl) (by rfl)
    have e0 := eval_of h0
    exact gPure (by first | (go_simp; done) | (go_simp; rfl))
   ·refine step_of _ _ hM hV hnd (by rw [hD]; rfl) rfl rfl rfl (of_decide_eq_true rfl) (within_of (by kernel_rfl) _) ?_
    intro a w9 hm hold hdep
    obtain ⟨_, h0, rfl⟩ := hdep 18 _ (by rw [hD]; rfl) (by rfl)
    have e0 := eval_of h0
    have z := (blk_cell hm.1 4).trans rfl
    exact gPure (by first | (go_simp; done) | (go_simp; rfl))
   ·refine step_of _ _ hM hV hnd (by rw [hD]; rfl) rfl rfl rfl (of_decide_eq_true rfl) (within_of (by kernel_rfl) _) ?_
    intro a w9 hm hold hdep
    obtain ⟨_, h0, rfl⟩ := hdep 19 _ (by rw [hD]; rfl) (by rfl)
    have e0 := eval_of h0
    refine .inr ⟨102, #[.int .i64 a0_4], (by first | (go_simp; done) | (go_simp; rfl)), (impl_four.calls a0_4 t218 _ A8.out).mono ?_⟩
    rintro e w2 ⟨rfl, hb⟩
    exact ⟨_, rfl, rfl, hb⟩
   ·refine step_of _ _ hM hV hnd (by rw [hD]; rfl) rfl rfl rfl (of_decide_eq_true rfl) (within_of (by kernel_rfl) _) ?_
    intro a w9 hm hold hdep
    obtain ⟨_, h0, rfl⟩ := hdep 16 _ (by rw [hD]; rfl) (by rfl)
    have e0 := eval_of h0
    obtain ⟨_, h1, rfl⟩ := hdep 20 _ (by rw [hD]; rfl) (by rfl)
    have e1 := eval_of h1
    have c := C9.out
    try simp only [ByteArray.size_append] at c
    exact gPure (by first | (go_simp; done) | (go_simp; rfl) | (go_simp; exact c))
   ·refine step_of _ _ hM hV hnd (by rw [hD]; rfl) rfl rfl rfl (of_decide_eq_true rfl) (within_of (by kernel_rfl) _) ?_
    intro a w9 hm hold hdep
    have e0 := eval_of ((hold 1 (by rw [hD]; rfl)).trans rfl)
    exact gPure (by first | (go_simp; done) | (go_simp; rfl))
   ·refine step_of _ _ hM hV hnd (by rw [hD]; rfl) rfl rfl rfl (of_decide_eq_true rfl) (within_of (by kernel_rfl) _) ?_
    intro a w9 hm hold hdep
    obtain ⟨_, h0, rfl⟩ := hdep 22 _ (by rw [hD]; rfl) (by rfl)
    have e0 := eval_of h0
    exact gPure (by first | (go_simp; done) | (go_simp; rfl))
   ·refine step_of _ _ hM hV hnd (by rw [hD]; rfl) rfl rfl rfl (of_decide_eq_true rfl) (within_of (by kernel_rfl) _) ?_
    intro a w9 hm hold hdep
    obtain ⟨_, h0, rfl⟩ := hdep 23 _ (by rw [hD]; rfl) (by rfl)
    have e0 := eval_of h0
    have z := (blk_cell hm.1 5).trans rfl
    exact gPure (by first | (go_simp; done) | (go_simp; rfl))
   ·refine step_of _ _ hM hV hnd (by rw [hD]; rfl) rfl rfl rfl (of_decide_eq_true rfl) (within_of (by kernel_rfl) _) ?_
    intro a w9 hm hold hdep
    obtain ⟨_, h0, rfl⟩ := hdep 24 _ (by rw [hD]; rfl) (by rfl)
    have e0 := eval_of h0
    refine .inr ⟨102, #[.int .i64 a0_5], (by first | (go_simp; done) | (go_simp; rfl)), (impl_four.calls a0_5 t219 _ A10.out).mono ?_⟩
    rintro e w2 ⟨rfl, hb⟩
    exact ⟨_, rfl, rfl, hb⟩
   ·refine step_of _ _ hM hV hnd (by rw [hD]; rfl) rfl rfl rfl (of_decide_eq_true rfl) (within_of (by kernel_rfl) _) ?_
    intro a w9 hm hold hdep
    obtain ⟨_, h0, rfl⟩ := hdep 21 _ (by rw [hD]; rfl) (by rfl)
    have e0 := eval_of h0
    obtain ⟨_, h1, rfl⟩ := hdep 25 _ (by rw [hD]; rfl) (by rfl)
    have e1 := eval_of h1
    have c := C11.out
    try simp only [ByteArray.size_append] at c
    exact gPure (by first | (go_simp; done) | (go_simp; rfl) | (go_simp; exact c))
   ·refine step_of _ _ hM hV hnd (by rw [hD]; rfl) rfl rfl rfl (of_decide_eq_true rfl) (within_of (by kernel_rfl) _) ?_
    intro a w9 hm hold hdep
    have e0 := eval_of ((hold 6 (by rw [hD]; rfl)).trans rfl)
    exact gPure (by first | (go_simp; done) | (go_simp; rfl))
   ·refine step_of _ _ hM hV hnd (by rw [hD]; rfl) rfl rfl rfl (of_decide_eq_true rfl) (within_of (by kernel_rfl) _) ?_
    intro a w9 hm hold hdep
    obtain ⟨_, h0, rfl⟩ := hdep 26 _ (by rw [hD]; rfl) (by rfl)
    have e0 := eval_of h0
    obtain ⟨_, h1, rfl⟩ := hdep 27 _ (by rw [hD]; rfl) (by rfl)
    have e1 := eval_of h1
    have c := C12.out
    try simp only [ByteArray.size_append] at c
    exact gPure (by first | (go_simp; done) | (go_simp; rfl) | (go_simp; exact c))
   ·refine step_of _ _ hM hV hnd (by rw [hD]; rfl) rfl rfl rfl (of_decide_eq_true rfl) (within_of (by kernel_rfl) _) ?_
    intro a w9 hm hold hdep
    obtain ⟨_, h0, rfl⟩ := hdep 28 _ (by rw [hD]; rfl) (by rfl)
    have e0 := eval_of h0
    refine .inr ⟨85, #[.string (((((strOfNums [a0_0 % 256, a0_1 % 256] ++ t208) ++ strOfNums [a0_3 % 256]) ++ t218) ++ t219) ++ t210)], (by first | (go_simp; done) | (go_simp; rfl)), (impl_Sealed.calls k _ t220 t221 _ A13.out).mono ?_⟩
    rintro e w2 ⟨rfl, hb⟩
    exact ⟨_, rfl, rfl, hb⟩
   ·refine step_of _ _ hM hV hnd (by rw [hD]; rfl) rfl rfl rfl (of_decide_eq_true rfl) (within_of (by kernel_rfl) _) ?_
    intro a w9 hm hold hdep
    obtain ⟨_, h0, rfl⟩ := hdep 29 _ (by rw [hD]; rfl) (by rfl)
    have e0 := eval_of h0
    exact gPure (by first | (go_simp; done) | (go_simp; rfl))
   ·refine step_of _ _ hM hV hnd (by rw [hD]; rfl) rfl rfl rfl (of_decide_eq_true rfl) (within_of (by kernel_rfl) _) ?_
    intro a w9 hm hold hdep
    obtain ⟨_, h0, rfl⟩ := hdep 29 _ (by rw [hD]; rfl) (by rfl)
    have e0 := eval_of h0
    exact gPure (by first | (go_simp; done) | (go_simp; rfl))
   ·refine step_of _ _ hM hV hnd (by rw [hD]; rfl) rfl rfl rfl (of_decide_eq_true rfl) (within_of (by kernel_rfl) _) ?_
    intro a w9 hm hold hdep
    obtain ⟨_, h0, rfl⟩ := hdep 30 _ (by rw [hD]; rfl) (by rfl)
    have e0 := eval_of h0
    exact gPure (by first | (go_simp; done) | (go_simp; rfl))
   ·refine step_of _ _ hM hV hnd (by rw [hD]; rfl) rfl rfl rfl (of_decide_eq_true rfl) (within_of (by kernel_rfl) _) ?_
    intro a w9 hm hold hdep
    obtain ⟨_, h0, rfl⟩ := hdep 31 _ (by rw [hD]; rfl) (by rfl)
    have e0 := eval_of h0
    exact gPure (by first | (go_simp; done) | (go_simp; rfl))
  ·intro a w9 hB9 hM9 hsz hdf hold hdone
   rename_i K hK
   obtain ⟨_, h2, rfl⟩ := hdone 32 _ (by decide) (by rw [hD]; rfl)
   obtain ⟨_, h3, rfl⟩ := hdone 33 _ (by decide) (by rw [hD]; rfl)
   show K a w9
   refine hK _ _ ?_
   go_wp2
   refine bodyPost_ret (results_list (rs := [.tmp 2, .tmp 3]) rfl (by simp) (.tmp (.tmp .nil))) (hdf.trans rfl) ⟨?_, hB9⟩
   simp only [Array.getD_eq_getD_getElem?]
   rw [h2, h3]
   rfl
 ·rename_i c3
  have c4 : t207 = false := by simpa using c3
  subst c4
  simp only [Option.some.injEq, Prod.mk.injEq] at h
  obtain ⟨rfl, rfl⟩ := h
  go_enter Tryd.func79, Tryd.ntmps79
  go_wp2_with (first
   | ((with_reducible refine gate_dst (N := 1) rfl ?_); refine box_event rfl (N := 1) rfl (cs := #[.int .i64 a0_0, .int .i64 a0_1, .int .i64 a0_2, .int .i64 a0_3, .int .i64 a0_4, .int .i64 a0_5, .int .i64 a0_6]) (t := 80) (by kernel_rfl) ?_; intro g hg w1 hbox hb; have BK := Aside0.mk hbox; have GE := Aside0.mk (by rw [hg]; exact below_size HB.out : w.heap.size ≤ g); have n1_ := Aside0.mk (below_step HB.out hb); clear HB; have HB := n1_; clear n1_ hbox hb hg; have z0 : w1.cell? ⟨g, 0, none⟩ = some (.int .i64 a0_0) := (blk_cell BK.out 0).trans rfl; have z1 : w1.cell? ⟨g, 1, none⟩ = some (.int .i64 a0_1) := (blk_cell BK.out 1).trans rfl; have z2 : w1.cell? ⟨g, 2, none⟩ = some (.int .i64 a0_2) := (blk_cell BK.out 2).trans rfl; have z3 : w1.cell? ⟨g, 3, none⟩ = some (.int .i64 a0_3) := (blk_cell BK.out 3).trans rfl; have z4 : w1.cell? ⟨g, 4, none⟩ = some (.int .i64 a0_4) := (blk_cell BK.out 4).trans rfl; have z5 : w1.cell? ⟨g, 5, none⟩ = some (.int .i64 a0_5) := (blk_cell BK.out 5).trans rfl; have z6 : w1.cell? ⟨g, 6, none⟩ = some (.int .i64 a0_6) := (blk_cell BK.out 6).trans rfl)
   | (go_at_call 106; (with_reducible refine (impl_FrameOk.calls k a0_0 a0_1 a0_2 a0_3 a0_4 a0_5 a0_6 false _ A2.out).mono ?_); rintro e w2 ⟨rfl, hb⟩; have n1_ := Aside0.mk (below_step HB.out hb); clear HB; have HB := n1_; clear n1_ hb))
  refine bodyPost_ret (results_list (rs := [.tmp 2, .tmp 3]) rfl (by simp) (.tmp (.tmp .nil))) rfl ⟨rfl, HB.out⟩
end Go.Proofs.YtdlapahfmfhbjaaDoor.PA

namespace Go.Proofs.YtdlapahfmfhbjaaDoor.PA
open Go.RowKit Go.Proofs.YtdlapahfmfhbjaaDoor.Short Go.Proofs.YtdlapahfmfhbjaaDoorW.PrintWords Go.Proofs.YtdlapahfmfhbjaaDoorW.PrintLast Go.Proofs.YtdlapahfmfhbjaaDoorW.PrintMore
attribute [local go_sem] max2_int min2_int max_two min_two max_three min_three max_four min_four   -- for this text's walks alone
set_option linter.unusedVariables false
set_option linter.unusedSimpArgs false

def impl_EntryText.f (k : Nat) (a0_0 : Int) (a0_1 : Int) (a0_2 : Int) (a0_3 : Int) (a0_4 : Int) (a0_5 : Int) : Option (ByteArray) := (impl_FrameText.f k 1 a0_0 a0_1 a0_2 a0_3 a0_4 a0_5).bind fun bt292 => (some bt292.1)
theorem impl_EntryText.mono : ∀ a0 a1 a2 a3 a4 a5 k, LeO (impl_EntryText.f k a0 a1 a2 a3 a4 a5) (impl_EntryText.f (k + 1) a0 a1 a2 a3 a4 a5) := by
 intro a0 a1 a2 a3 a4 a5 k
 unfold impl_EntryText.f
 have m0 := @impl_FrameText.mono
 exact mo_
theorem impl_EntryText.calls (k : Nat) (a0_0 : Int) (a0_1 : Int) (a0_2 : Int) (a0_3 : Int) (a0_4 : Int) (a0_5 : Int) (r : ByteArray) (w : World) (h : impl_EntryText.f k a0_0 a0_1 a0_2 a0_3 a0_4 a0_5 = some r) :
 Calls Tryd.prog 31 #[.agg #[.int .i64 a0_0, .int .i64 a0_1, .int .i64 a0_2, .int .i64 a0_3, .int .i64 a0_4, .int .i64 a0_5]] w fun e w' => e = .returned (.string r) ∧ Below w.heap.size w w' := by
 have hu27 := Tryd.underlying27
 have hu25 := Tryd.underlying25
 have hu80 := Tryd.underlying80
 have HB := Aside0.mk (Below.refl w.heap.size w)
 have H := h
 unfold impl_EntryText.f at H
 clear h
 replace H := bs_ H
 obtain ⟨⟨t292, t293⟩, A2, H⟩ := H
 try dsimp only at H
 obtain rfl := Option.some.inj H
 go_enter Tryd.func31, Tryd.ntmps31
 go_wp2_with (first | ((with_reducible refine gate_dst (N := 1) rfl ?_); refine bx_ 1 27 #[.int .i64 a0_0, .int .i64 a0_1, .int .i64 a0_2, .int .i64 a0_3, .int .i64 a0_4, .int .i64 a0_5] ?_; intro gb291 hg w3 hbox hb; have BK291 := Aside0.mk (hbox); have GW291 := Aside0.mk ((hz_ : w.heap.size ≤ gb291)); have GE291 := Aside0.mk ((hz_ : w.heap.size ≤ gb291)); replace HB := Aside0.mk (below_step bl_ hb); clear hb hbox hg; obtain ⟨hcz4_0, hcz4_1, hcz4_2, hcz4_3, hcz4_4, hcz4_5, hfz4_0, hfz4_1, hfz4_2, hfz4_3, hfz4_4, hfz4_5⟩ := cf6_ BK291.out) | ((with_reducible refine gate_callee (f := 79) rfl ?_); refine gs_ (some 13) Tryd.func79 #[.agg #[.int .i64 1, .int .i64 a0_0, .int .i64 a0_1, .int .i64 a0_2, .int .i64 a0_3, .int .i64 a0_4, .int .i64 a0_5]] ?_; (with_reducible refine (impl_FrameText.calls k 1 a0_0 a0_1 a0_2 a0_3 a0_4 a0_5 t292 t293 _ A2.out).mono ?_); rintro e w5 ⟨rfl, hb⟩; refine ⟨_, rfl, ?_⟩; replace BK291 := Aside0.mk (blk_below (bn0_ BK291.out) hb); replace HB := Aside0.mk (below_step bl_ hb); (try clear hb)))
 go_ret
 exact ⟨er_, bl_⟩


def impl_PadText.f (a0 : ByteArray) : Option (ByteArray) := if a0.size + 1 ≤ 9223372036854775807 then (if 0 ≤ (Int.tmod (wrap64 (64 - (Int.tmod (wrap64 ((a0.size : Int) + 9)) 64))) 64) then (if (Int.tmod (wrap64 (64 - (Int.tmod (wrap64 ((a0.size : Int) + 9)) 64))) 64 : Int).toNat ≤ 281474976710656 then ((some (List.replicate (Int.tmod (wrap64 (64 - (Int.tmod (wrap64 ((a0.size : Int) + 9)) 64))) 64 : Int).toNat 0 : List Int)).bind fun y294 => (if (a0 ++ (⟨#[128]⟩ : ByteArray)).size + (strOfNums y294).size ≤ 9223372036854775807 then ((impl_four.f ((wrap64 (8 * (a0.size : Int))) / 4294967296)).bind fun t297 => (if ((a0 ++ (⟨#[128]⟩ : ByteArray)) ++ (strOfNums y294)).size + t297.size ≤ 9223372036854775807 then ((impl_four.f (wrap64 (8 * (a0.size : Int)))).bind fun t298 => (if (((a0 ++ (⟨#[128]⟩ : ByteArray)) ++ (strOfNums y294)) ++ t297).size + t298.size ≤ 9223372036854775807 then (some ((((a0 ++ (⟨#[128]⟩ : ByteArray)) ++ (strOfNums y294)) ++ t297) ++ t298)) else (none))) else (none))) else (none))) else (none)) else (none)) else (none)
def impl_PadText.T3 : Bool × List (List Nat × List Nat) := (true, [([], []), ([0], [0]), ([], []), ([2, 2], [2]), ([3], [3]), ([1, 4], [1, 4]), ([], []), ([6], [6]), ([7], [7]), ([5, 8], [5, 8]), ([], []), ([10, 8], [10]), ([9, 11], [9, 11]), ([12, 11, 0, 1, 2, 3, 4, 5, 6, 7, 8, 9, 10, 11, 12], [12])])
def impl_PadText.B3 : List Nat := [0, 1, 0, 4, 12, 31, 0, 64, 192, 511, 0, 1472, 4095, 8191]
theorem impl_PadText.tab3 : rtab .any (opsOf Tryd.f99 3) = impl_PadText.T3 := by kernel_rfl
theorem impl_PadText.bits3 : waitsOk impl_PadText.T3.2 impl_PadText.B3 = true := by kernel_rfl
theorem impl_PadText.calls (a0 : ByteArray) (r : ByteArray) (w : World) (h : impl_PadText.f a0 = some r) :
 Calls Tryd.prog 99 #[.string a0] w fun e w' => e = .returned (.string r) ∧ Below w.heap.size w w' := by
 have HB := Aside0.mk (Below.refl w.heap.size w)
 have H := h
 unfold impl_PadText.f at H
 clear h
 by_cases c2 : a0.size + 1 ≤ 9223372036854775807
 rotate_left
 ·exact nn_ c2 H
 rw [if_pos c2] at H
 have c2b0 := eq_true c2
 have c2b1 : decide (a0.size + 1 ≤ 9223372036854775807) = true := decide_eq_true c2
 try have c2b2 : (9223372036854775807 < a0.size + 1) = False := eq_false (Nat.not_lt.2 c2)
 obtain ⟨ji3, hji3⟩ : ∃ j_ : Int, (Int.tmod (wrap64 (64 - (Int.tmod (wrap64 ((a0.size : Int) + 9)) 64))) 64) = j_ := ⟨_, rfl⟩
 replace H : (if 0 ≤ (ji3) then (if (ji3 : Int).toNat ≤ 281474976710656 then ((some (List.replicate (ji3 : Int).toNat 0 : List Int)).bind fun y294 => (if (a0 ++ (⟨#[128]⟩ : ByteArray)).size + (strOfNums y294).size ≤ 9223372036854775807 then ((impl_four.f ((wrap64 (8 * (a0.size : Int))) / 4294967296)).bind fun t297 => (if ((a0 ++ (⟨#[128]⟩ : ByteArray)) ++ (strOfNums y294)).size + t297.size ≤ 9223372036854775807 then ((impl_four.f (wrap64 (8 * (a0.size : Int)))).bind fun t298 => (if (((a0 ++ (⟨#[128]⟩ : ByteArray)) ++ (strOfNums y294)) ++ t297).size + t298.size ≤ 9223372036854775807 then (some ((((a0 ++ (⟨#[128]⟩ : ByteArray)) ++ (strOfNums y294)) ++ t297) ++ t298)) else (none))) else (none))) else (none))) else (none)) else (none)) = some r := by first | (rw [hji3] at H; exact H) | (simp only [hji3] at H ⊢; exact H)
 by_cases c4 : 0 ≤ (ji3)
 rotate_left
 ·exact nn_ c4 H
 rw [if_pos c4] at H
 have c4b0 := eq_true c4
 have c4b1 : decide (0 ≤ (ji3)) = true := decide_eq_true c4
 clear c4
 by_cases c5 : (ji3 : Int).toNat ≤ 281474976710656
 rotate_left
 ·exact nn_ c5 H
 rw [if_pos c5] at H
 have c5b0 := eq_true c5
 have c5b1 : decide ((ji3 : Int).toNat ≤ 281474976710656) = true := decide_eq_true c5
 clear c5
 obtain ⟨y294, hy294⟩ : ∃ y_ : List Int, y_ = (List.replicate (ji3 : Int).toNat 0) := ⟨_, rfl⟩
 replace H : (if (a0 ++ (⟨#[128]⟩ : ByteArray)).size + (strOfNums y294).size ≤ 9223372036854775807 then ((impl_four.f ((wrap64 (8 * (a0.size : Int))) / 4294967296)).bind fun t297 => (if ((a0 ++ (⟨#[128]⟩ : ByteArray)) ++ (strOfNums y294)).size + t297.size ≤ 9223372036854775807 then ((impl_four.f (wrap64 (8 * (a0.size : Int)))).bind fun t298 => (if (((a0 ++ (⟨#[128]⟩ : ByteArray)) ++ (strOfNums y294)) ++ t297).size + t298.size ≤ 9223372036854775807 then (some ((((a0 ++ (⟨#[128]⟩ : ByteArray)) ++ (strOfNums y294)) ++ t297) ++ t298)) else (none))) else (none))) else (none)) = some r := rp_ H hy294
 have Ny294 := Aside0.mk hy294
 clear hy294
 by_cases c6 : (a0 ++ (⟨#[128]⟩ : ByteArray)).size + (strOfNums y294).size ≤ 9223372036854775807
 rotate_left
 ·exact nn_ c6 H
 rw [if_pos c6] at H
 have c6b0 := eq_true c6
 have c6b1 : decide ((a0 ++ (⟨#[128]⟩ : ByteArray)).size + (strOfNums y294).size ≤ 9223372036854775807) = true := decide_eq_true c6
 try have c6b2 : (9223372036854775807 < (a0 ++ (⟨#[128]⟩ : ByteArray)).size + (strOfNums y294).size) = False := eq_false (Nat.not_lt.2 c6)
 try have c6b3 : (9223372036854775807 < a0.size + 1 + (strOfNums y294).size) = False := eq_false (by have h_ := c6; (repeat rw [ByteArray.size_append] at h_); exact Nat.not_lt.2 h_)
 replace H := bs_ H
 obtain ⟨t297, A7, H⟩ := H
 try dsimp only at H
 by_cases c8 : ((a0 ++ (⟨#[128]⟩ : ByteArray)) ++ (strOfNums y294)).size + t297.size ≤ 9223372036854775807
 rotate_left
 ·exact nn_ c8 H
 rw [if_pos c8] at H
 have c8b0 := eq_true c8
 have c8b1 : decide (((a0 ++ (⟨#[128]⟩ : ByteArray)) ++ (strOfNums y294)).size + t297.size ≤ 9223372036854775807) = true := decide_eq_true c8
 try have c8b2 : (9223372036854775807 < ((a0 ++ (⟨#[128]⟩ : ByteArray)) ++ (strOfNums y294)).size + t297.size) = False := eq_false (Nat.not_lt.2 c8)
 try have c8b3 : (9223372036854775807 < a0.size + 1 + (strOfNums y294).size + t297.size) = False := eq_false (by have h_ := c8; (repeat rw [ByteArray.size_append] at h_); exact Nat.not_lt.2 h_)
 replace H := bs_ H
 obtain ⟨t298, A9, H⟩ := H
 try dsimp only at H
 by_cases c10 : (((a0 ++ (⟨#[128]⟩ : ByteArray)) ++ (strOfNums y294)) ++ t297).size + t298.size ≤ 9223372036854775807
 rotate_left
 ·exact nn_ c10 H
 rw [if_pos c10] at H
 have c10b0 := eq_true c10
 have c10b1 : decide ((((a0 ++ (⟨#[128]⟩ : ByteArray)) ++ (strOfNums y294)) ++ t297).size + t298.size ≤ 9223372036854775807) = true := decide_eq_true c10
 try have c10b2 : (9223372036854775807 < (((a0 ++ (⟨#[128]⟩ : ByteArray)) ++ (strOfNums y294)) ++ t297).size + t298.size) = False := eq_false (Nat.not_lt.2 c10)
 try have c10b3 : (9223372036854775807 < a0.size + 1 + (strOfNums y294).size + t297.size + t298.size) = False := eq_false (by have h_ := c10; (repeat rw [ByteArray.size_append] at h_); exact Nat.not_lt.2 h_)
 obtain rfl := Option.some.inj H
 go_enter Tryd.func99, Tryd.ntmps99
 try go_wp2
 have n0_ := Aside0.mk (below_drew1 HB.out)
 clear HB
 have HB := n0_
 clear n0_
 refine start_ (n := 14) (S := fun w' => True) (ds := []) #[false, false, false, false, false, false, false, false, false, false, false, false, false, false] (by kernel_rfl) rfl rfl trivial (fun hHeld => ?_); refine with_tabW impl_PadText.tab3 impl_PadText.bits3 (fun HT_ HW_ => ?_)
 generalize w.drew = w11 at HB hHeld ⊢
 refine pu_ 0 14 HT_ ?_
 refine pu_ 1 15 HT_ ?_
 refine pu_ 2 16 HT_ ?_
 refine pu_ 6 20 HT_ ?_
 refine pu_ 7 21 HT_ ?_
 refine pu_ 10 24 HT_ ?_
 refine join_ (σ := Value) 2 #[true, true, true, true, true, true, true, true, true, true, true, true, false, false] (fun s_ => [(17, s_), (18, .string (strOfNums y294)), (22, .string t297), (25, .string t298), (19, .string ((a0 ++ (⟨#[128]⟩ : ByteArray)) ++ (strOfNums y294))), (23, .string (((a0 ++ (⟨#[128]⟩ : ByteArray)) ++ (strOfNums y294)) ++ t297))]) (fun s_ w' => (Kd.R (Kd.int .u8) 5 w' w.heap.size (fun _ => True) s_ y294) ∧ (Below w.heap.size w w')) ?_ ?_
 rotate_left
 ·intro hJ3_4_8_11
  refine join_ (σ := Value) 3 #[true, true, true, true, true, true, true, true, true, true, true, false, false, false] (fun s_ => [(17, s_), (18, .string (strOfNums y294)), (22, .string t297), (19, .string ((a0 ++ (⟨#[128]⟩ : ByteArray)) ++ (strOfNums y294))), (23, .string (((a0 ++ (⟨#[128]⟩ : ByteArray)) ++ (strOfNums y294)) ++ t297))]) (fun s_ w' => (Kd.R (Kd.int .u8) 5 w' w.heap.size (fun _ => True) s_ y294) ∧ (Below w.heap.size w w')) ?_ ?_
  rotate_left
  ·intro hJ3_4_8
   refine join_ (σ := Value) 5 #[true, true, true, true, false, false, true, true, true, false, true, true, false, false] (fun s_ => [(17, s_), (22, .string t297), (25, .string t298)]) (fun s_ w' => (Kd.R (Kd.int .u8) 5 w' w.heap.size (fun _ => True) s_ y294) ∧ (Below w.heap.size w w')) ?_ ?_
   rotate_left
   ·intro hJ3_8_11
    refine join_ (σ := Value) 5 #[true, true, true, true, true, true, true, true, false, false, true, false, false, false] (fun s_ => [(17, s_), (18, .string (strOfNums y294)), (19, .string ((a0 ++ (⟨#[128]⟩ : ByteArray)) ++ (strOfNums y294)))]) (fun s_ w' => (Kd.R (Kd.int .u8) 5 w' w.heap.size (fun _ => True) s_ y294) ∧ (Below w.heap.size w w')) ?_ ?_
    rotate_left
    ·intro hJ3_4
     refine join_ (σ := Value) 6 #[true, true, true, true, false, false, true, true, true, false, true, false, false, false] (fun s_ => [(17, s_), (22, .string t297)]) (fun s_ w' => (Kd.R (Kd.int .u8) 5 w' w.heap.size (fun _ => True) s_ y294) ∧ (Below w.heap.size w w')) ?_ ?_
     rotate_left
     ·intro hJ3_8
      refine join_ (σ := Unit) 6 #[true, true, true, false, false, false, true, true, true, false, true, true, false, false] (fun s_ => [(22, .string t297), (25, .string t298)]) (fun s_ w' => (Below w.heap.size w w')) ?_ ?_
      rotate_left
      ·intro hJ8_11
       refine join_ (σ := Value) 7 #[true, true, true, true, false, false, true, true, false, false, true, false, false, false] (fun s_ => [(17, s_)]) (fun s_ w' => (Kd.R (Kd.int .u8) 5 w' w.heap.size (fun _ => True) s_ y294) ∧ (Below w.heap.size w w')) ?_ ?_
       rotate_left
       ·intro hJ3
        refine join_ (σ := Unit) 7 #[true, true, true, false, false, false, true, true, true, false, true, false, false, false] (fun s_ => [(22, .string t297)]) (fun s_ w' => (Below w.heap.size w w')) ?_ ?_
        rotate_left
        ·intro hJ8
         refine two_ (i := 3) (j := 8) (Ni := some 17) (Nj := some 22) #[true, true, true, true, false, false, true, true, false, false, true, false, false, false] #[true, true, true, false, false, false, true, true, true, false, true, false, false, false] rfl rfl rfl rfl (two_of HT_.out (by kernel_rfl)) (by decide) (by decide) (fun K hK => ?_) (fun K hK => ?_)
         ·skip
          refine Kd.R_make_step (Kd.int .u8) _ 5 (by rfl) (N := 17) rfl 22 _ _ rfl ji3 rfl rfl Tryd.underlying22 (.int .u8 0) 1 info5 rfl (by decide) (by omega) 0 (ok := fun _ => True) (okp := fun _ => True) rfl (fun _ hk => hk) trivial (of_decide_eq_true as_) (Nat.le_trans (Nat.mul_le_mul_right _ (of_decide_eq_true as_ : ji3.toNat ≤ 281474976710656)) (by omega)) (Below.refl _ _) (Nat.le_refl _) ?_
          intro v295 w12 ho13 hb hg_ hnew_
          clear hg_ hnew_
          (first | rw [← Ny294.out] at ho13 | (simp only [Int.reduceToNat] at ho13; rw [← Ny294.out] at ho13))
          have n0_ := Aside0.mk (Kd.R_lower ho13 (below_size bl_))
          have n1_ := Aside0.mk (below_step bl_ hb)
          clear HB
          have HO296 := n0_
          have HB := n1_
          clear n0_ n1_
          clear hb ho13
          refine hK.out _ _ trivial (fun hHeld => ?_)
          clear hK K
          refine norm_ (a' := ?_) ?_ ?_
          rotate_left
          ·show Act.put _ (some 17) _ = _
           simp only [Act.put, List.setIfInBounds_toArray, List.set_cons_zero, List.set_cons_succ, i64_w, i32_w]
           rfl
          exact norm_ (by first | (simp only [putAll, Act.put, List.setIfInBounds_toArray, List.set_cons_zero, List.set_cons_succ]; done) | (simp only [putAll, Act.put, List.setIfInBounds_toArray, List.set_cons_zero, List.set_cons_succ]; rfl)) (hJ3 (v295) _ ⟨(ra_ HO296.out), bl_⟩)
         ·skip
          refine goes_ Tryd.func102 (by kernel_rfl) rfl #[.int .i64 ((wrap64 (8 * (a0.size : Int))) / 4294967296)] (by rfl) rfl rfl lm_ ?_
          with_reducible refine (impl_four.calls ((wrap64 (8 * (a0.size : Int))) / 4294967296) t297 _ A7.out).mono ?_
          rintro e w12 ⟨rfl, hb⟩
          refine ⟨_, rfl, ?_⟩
          have n0_ := Aside0.mk (below_step bl_ hb)
          clear HB
          have HB := n0_
          clear n0_
          (try clear hb)
          (try clear hb2)
          (try clear hk)
          (try clear hi)
          refine hK.out _ _ trivial (fun hHeld => ?_)
          clear hK K
          refine norm_ (a' := ?_) ?_ ?_
          rotate_left
          ·show Act.put _ (some 22) _ = _
           simp only [Act.put, List.setIfInBounds_toArray, List.set_cons_zero, List.set_cons_succ, i64_w, i32_w]
           rfl
          exact norm_ (by first | (simp only [putAll, Act.put, List.setIfInBounds_toArray, List.set_cons_zero, List.set_cons_succ]; done) | (simp only [putAll, Act.put, List.setIfInBounds_toArray, List.set_cons_zero, List.set_cons_succ]; rfl)) (hJ8 () _ bl_)
        ·skip
         rintro _ w13 h0_
         have n0_ : Aside0 (Below w.heap.size w w13) := ⟨h0_⟩
         clear HB
         clear h0_
         have HB := n0_
         clear n0_
         have hHeld := trivial
         refine norm_ (a' := ?_) ?_ ?_
         rotate_left
         ·simp only [putAll, Act.put, List.setIfInBounds_toArray, List.set_cons_zero, List.set_cons_succ]
          rfl
         refine two_ (i := 3) (j := 11) (Ni := some 17) (Nj := some 25) #[true, true, true, true, false, false, true, true, true, false, true, false, false, false] #[true, true, true, false, false, false, true, true, true, false, true, true, false, false] rfl rfl rfl rfl (two_of HT_.out (by kernel_rfl)) (by decide) (by decide) (fun K hK => ?_) (fun K hK => ?_)
         ·skip
          refine Kd.R_make_step (Kd.int .u8) _ 5 (by rfl) (N := 17) rfl 22 _ _ rfl ji3 rfl rfl Tryd.underlying22 (.int .u8 0) 1 info5 rfl (by decide) (by omega) 0 (ok := fun _ => True) (okp := fun _ => True) rfl (fun _ hk => hk) trivial (of_decide_eq_true as_) (Nat.le_trans (Nat.mul_le_mul_right _ (of_decide_eq_true as_ : ji3.toNat ≤ 281474976710656)) (by omega)) (Below.refl _ _) (Nat.le_refl _) ?_
          intro v295 w14 ho15 hb hg_ hnew_
          clear hg_ hnew_
          (first | rw [← Ny294.out] at ho15 | (simp only [Int.reduceToNat] at ho15; rw [← Ny294.out] at ho15))
          have n0_ := Aside0.mk (Kd.R_lower ho15 (below_size bl_))
          have n1_ := Aside0.mk (below_step bl_ hb)
          clear HB
          have HO296 := n0_
          have HB := n1_
          clear n0_ n1_
          clear hb ho15
          refine hK.out _ _ trivial (fun hHeld => ?_)
          clear hK K
          refine norm_ (a' := ?_) ?_ ?_
          rotate_left
          ·show Act.put _ (some 17) _ = _
           simp only [Act.put, List.setIfInBounds_toArray, List.set_cons_zero, List.set_cons_succ, i64_w, i32_w]
           rfl
          exact norm_ (by first | (simp only [putAll, Act.put, List.setIfInBounds_toArray, List.set_cons_zero, List.set_cons_succ]; done) | (simp only [putAll, Act.put, List.setIfInBounds_toArray, List.set_cons_zero, List.set_cons_succ]; rfl)) (hJ3_8 (v295) _ ⟨(ra_ HO296.out), bl_⟩)
         ·skip
          refine goes_ Tryd.func102 (by kernel_rfl) rfl #[.int .i64 (wrap64 (8 * (a0.size : Int)))] (by rfl) rfl rfl lm_ ?_
          with_reducible refine (impl_four.calls (wrap64 (8 * (a0.size : Int))) t298 _ A9.out).mono ?_
          rintro e w14 ⟨rfl, hb⟩
          refine ⟨_, rfl, ?_⟩
          have n0_ := Aside0.mk (below_step bl_ hb)
          clear HB
          have HB := n0_
          clear n0_
          (try clear hb)
          (try clear hb2)
          (try clear hk)
          (try clear hi)
          refine hK.out _ _ trivial (fun hHeld => ?_)
          clear hK K
          refine norm_ (a' := ?_) ?_ ?_
          rotate_left
          ·show Act.put _ (some 25) _ = _
           simp only [Act.put, List.setIfInBounds_toArray, List.set_cons_zero, List.set_cons_succ, i64_w, i32_w]
           rfl
          exact norm_ (by first | (simp only [putAll, Act.put, List.setIfInBounds_toArray, List.set_cons_zero, List.set_cons_succ]; done) | (simp only [putAll, Act.put, List.setIfInBounds_toArray, List.set_cons_zero, List.set_cons_succ]; rfl)) (hJ8_11 () _ bl_)
       ·skip
        rintro v295 w14 ⟨h0_, h1_⟩
        have n0_ : Aside0 (Kd.R (Kd.int .u8) 5 w14 w.heap.size (fun _ => True) v295 y294) := ⟨h0_⟩
        have n1_ : Aside0 (Below w.heap.size w w14) := ⟨h1_⟩
        clear HB
        clear h0_ h1_
        have HO296 := n0_
        have HB := n1_
        clear n0_ n1_
        have hHeld := trivial
        refine norm_ (a' := ?_) ?_ ?_
        rotate_left
        ·simp only [putAll, Act.put, List.setIfInBounds_toArray, List.set_cons_zero, List.set_cons_succ]
         rfl
        refine two_ (i := 4) (j := 8) (Ni := some 18) (Nj := some 22) #[true, true, true, true, true, false, true, true, false, false, true, false, false, false] #[true, true, true, true, false, false, true, true, true, false, true, false, false, false] rfl rfl rfl rfl (two_of HT_.out (by kernel_rfl)) (by decide) (by decide) (fun K hK => ?_) (fun K hK => ?_)
        ·skip
         have hcv15 := own_string (P := Tryd.prog) Tryd.underlying22 Tryd.underlying5 Tryd.underlying9 (Kd.own_of_R HO296.out)
         refine value_ (w1 := ?_) (v := ?_) (by rfl) rfl ?_ ?_
         rotate_left 2
         ·go_simp
          constructor
          ·rfl
          ·rfl
         clear hcv15
         refine hK.out _ _ trivial (fun hHeld => ?_)
         clear hK K
         refine norm_ (a' := ?_) ?_ ?_
         rotate_left
         ·show Act.put _ (some 18) _ = _
          simp only [Act.put, List.setIfInBounds_toArray, List.set_cons_zero, List.set_cons_succ, i64_w, i32_w]
          rfl
         refine pu_ 5 19 HT_ ?_
         exact norm_ (by first | (simp only [putAll, Act.put, List.setIfInBounds_toArray, List.set_cons_zero, List.set_cons_succ]; done) | (simp only [putAll, Act.put, List.setIfInBounds_toArray, List.set_cons_zero, List.set_cons_succ]; rfl)) (hJ3_4 (v295) _ ⟨(ra_ HO296.out), bl_⟩)
        ·skip
         refine goes_ Tryd.func102 (by kernel_rfl) rfl #[.int .i64 ((wrap64 (8 * (a0.size : Int))) / 4294967296)] (by rfl) rfl rfl lm_ ?_
         with_reducible refine (impl_four.calls ((wrap64 (8 * (a0.size : Int))) / 4294967296) t297 _ A7.out).mono ?_
         rintro e w15 ⟨rfl, hb⟩
         refine ⟨_, rfl, ?_⟩
         have n0_ := Aside0.mk (Kd.R_below (ra_ HO296.out) hb)
         have n1_ := Aside0.mk (below_step bl_ hb)
         clear HO296
         clear HB
         have HO296 := n0_
         have HB := n1_
         clear n0_ n1_
         (try clear hb)
         (try clear hb2)
         (try clear hk)
         (try clear hi)
         refine hK.out _ _ trivial (fun hHeld => ?_)
         clear hK K
         refine norm_ (a' := ?_) ?_ ?_
         rotate_left
         ·show Act.put _ (some 22) _ = _
          simp only [Act.put, List.setIfInBounds_toArray, List.set_cons_zero, List.set_cons_succ, i64_w, i32_w]
          rfl
         exact norm_ (by first | (simp only [putAll, Act.put, List.setIfInBounds_toArray, List.set_cons_zero, List.set_cons_succ]; done) | (simp only [putAll, Act.put, List.setIfInBounds_toArray, List.set_cons_zero, List.set_cons_succ]; rfl)) (hJ3_8 (v295) _ ⟨(ra_ HO296.out), bl_⟩)
      ·skip
       rintro _ w14 h0_
       have n0_ : Aside0 (Below w.heap.size w w14) := ⟨h0_⟩
       clear HB
       clear h0_
       have HB := n0_
       clear n0_
       have hHeld := trivial
       refine norm_ (a' := ?_) ?_ ?_
       rotate_left
       ·simp only [putAll, Act.put, List.setIfInBounds_toArray, List.set_cons_zero, List.set_cons_succ]
        rfl
       refine on_ 3 17 HT_ (fun K hK => ?_)
       refine Kd.R_make_step (Kd.int .u8) _ 5 (by rfl) (N := 17) rfl 22 _ _ rfl ji3 rfl rfl Tryd.underlying22 (.int .u8 0) 1 info5 rfl (by decide) (by omega) 0 (ok := fun _ => True) (okp := fun _ => True) rfl (fun _ hk => hk) trivial (of_decide_eq_true as_) (Nat.le_trans (Nat.mul_le_mul_right _ (of_decide_eq_true as_ : ji3.toNat ≤ 281474976710656)) (by omega)) (Below.refl _ _) (Nat.le_refl _) ?_
       intro v295 w15 ho16 hb hg_ hnew_
       clear hg_ hnew_
       (first | rw [← Ny294.out] at ho16 | (simp only [Int.reduceToNat] at ho16; rw [← Ny294.out] at ho16))
       have n0_ := Aside0.mk (Kd.R_lower ho16 (below_size bl_))
       have n1_ := Aside0.mk (below_step bl_ hb)
       clear HB
       have HO296 := n0_
       have HB := n1_
       clear n0_ n1_
       clear hb ho16
       refine hK.out _ _ trivial (fun hHeld => ?_)
       clear hK K
       refine norm_ (a' := ?_) ?_ ?_
       rotate_left
       ·show Act.put _ (some 17) _ = _
        simp only [Act.put, List.setIfInBounds_toArray, List.set_cons_zero, List.set_cons_succ, i64_w, i32_w]
        rfl
       exact norm_ (by first | (simp only [putAll, Act.put, List.setIfInBounds_toArray, List.set_cons_zero, List.set_cons_succ]; done) | (simp only [putAll, Act.put, List.setIfInBounds_toArray, List.set_cons_zero, List.set_cons_succ]; rfl)) (hJ3_8_11 (v295) _ ⟨(ra_ HO296.out), bl_⟩)
     ·skip
      rintro v295 w15 ⟨h0_, h1_⟩
      have n0_ : Aside0 (Kd.R (Kd.int .u8) 5 w15 w.heap.size (fun _ => True) v295 y294) := ⟨h0_⟩
      have n1_ : Aside0 (Below w.heap.size w w15) := ⟨h1_⟩
      clear HB
      clear h0_ h1_
      have HO296 := n0_
      have HB := n1_
      clear n0_ n1_
      have hHeld := trivial
      refine norm_ (a' := ?_) ?_ ?_
      rotate_left
      ·simp only [putAll, Act.put, List.setIfInBounds_toArray, List.set_cons_zero, List.set_cons_succ]
       rfl
      refine two_ (i := 4) (j := 11) (Ni := some 18) (Nj := some 25) #[true, true, true, true, true, false, true, true, true, false, true, false, false, false] #[true, true, true, true, false, false, true, true, true, false, true, true, false, false] rfl rfl rfl rfl (two_of HT_.out (by kernel_rfl)) (by decide) (by decide) (fun K hK => ?_) (fun K hK => ?_)
      ·skip
       have hcv16 := own_string (P := Tryd.prog) Tryd.underlying22 Tryd.underlying5 Tryd.underlying9 (Kd.own_of_R HO296.out)
       refine value_ (w1 := ?_) (v := ?_) (by rfl) rfl ?_ ?_
       rotate_left 2
       ·go_simp
        constructor
        ·rfl
        ·rfl
       clear hcv16
       refine hK.out _ _ trivial (fun hHeld => ?_)
       clear hK K
       refine norm_ (a' := ?_) ?_ ?_
       rotate_left
       ·show Act.put _ (some 18) _ = _
        simp only [Act.put, List.setIfInBounds_toArray, List.set_cons_zero, List.set_cons_succ, i64_w, i32_w]
        rfl
       refine pu_ 5 19 HT_ ?_
       refine pu_ 9 23 HT_ ?_
       exact norm_ (by first | (simp only [putAll, Act.put, List.setIfInBounds_toArray, List.set_cons_zero, List.set_cons_succ]; done) | (simp only [putAll, Act.put, List.setIfInBounds_toArray, List.set_cons_zero, List.set_cons_succ]; rfl)) (hJ3_4_8 (v295) _ ⟨(ra_ HO296.out), bl_⟩)
      ·skip
       refine goes_ Tryd.func102 (by kernel_rfl) rfl #[.int .i64 (wrap64 (8 * (a0.size : Int)))] (by rfl) rfl rfl lm_ ?_
       with_reducible refine (impl_four.calls (wrap64 (8 * (a0.size : Int))) t298 _ A9.out).mono ?_
       rintro e w16 ⟨rfl, hb⟩
       refine ⟨_, rfl, ?_⟩
       have n0_ := Aside0.mk (Kd.R_below (ra_ HO296.out) hb)
       have n1_ := Aside0.mk (below_step bl_ hb)
       clear HO296
       clear HB
       have HO296 := n0_
       have HB := n1_
       clear n0_ n1_
       (try clear hb)
       (try clear hb2)
       (try clear hk)
       (try clear hi)
       refine hK.out _ _ trivial (fun hHeld => ?_)
       clear hK K
       refine norm_ (a' := ?_) ?_ ?_
       rotate_left
       ·show Act.put _ (some 25) _ = _
        simp only [Act.put, List.setIfInBounds_toArray, List.set_cons_zero, List.set_cons_succ, i64_w, i32_w]
        rfl
       exact norm_ (by first | (simp only [putAll, Act.put, List.setIfInBounds_toArray, List.set_cons_zero, List.set_cons_succ]; done) | (simp only [putAll, Act.put, List.setIfInBounds_toArray, List.set_cons_zero, List.set_cons_succ]; rfl)) (hJ3_8_11 (v295) _ ⟨(ra_ HO296.out), bl_⟩)
    ·skip
     rintro v295 w15 ⟨h0_, h1_⟩
     have n0_ : Aside0 (Kd.R (Kd.int .u8) 5 w15 w.heap.size (fun _ => True) v295 y294) := ⟨h0_⟩
     have n1_ : Aside0 (Below w.heap.size w w15) := ⟨h1_⟩
     clear HB
     clear h0_ h1_
     have HO296 := n0_
     have HB := n1_
     clear n0_ n1_
     have hHeld := trivial
     refine norm_ (a' := ?_) ?_ ?_
     rotate_left
     ·simp only [putAll, Act.put, List.setIfInBounds_toArray, List.set_cons_zero, List.set_cons_succ]
      rfl
     refine on_ 8 22 HT_ (fun K hK => ?_)
     refine goes_ Tryd.func102 (by kernel_rfl) rfl #[.int .i64 ((wrap64 (8 * (a0.size : Int))) / 4294967296)] (by rfl) rfl rfl lm_ ?_
     with_reducible refine (impl_four.calls ((wrap64 (8 * (a0.size : Int))) / 4294967296) t297 _ A7.out).mono ?_
     rintro e w16 ⟨rfl, hb⟩
     refine ⟨_, rfl, ?_⟩
     have n0_ := Aside0.mk (Kd.R_below (ra_ HO296.out) hb)
     have n1_ := Aside0.mk (below_step bl_ hb)
     clear HO296
     clear HB
     have HO296 := n0_
     have HB := n1_
     clear n0_ n1_
     (try clear hb)
     (try clear hb2)
     (try clear hk)
     (try clear hi)
     refine hK.out _ _ trivial (fun hHeld => ?_)
     clear hK K
     refine norm_ (a' := ?_) ?_ ?_
     rotate_left
     ·show Act.put _ (some 22) _ = _
      simp only [Act.put, List.setIfInBounds_toArray, List.set_cons_zero, List.set_cons_succ, i64_w, i32_w]
      rfl
     refine pu_ 9 23 HT_ ?_
     exact norm_ (by first | (simp only [putAll, Act.put, List.setIfInBounds_toArray, List.set_cons_zero, List.set_cons_succ]; done) | (simp only [putAll, Act.put, List.setIfInBounds_toArray, List.set_cons_zero, List.set_cons_succ]; rfl)) (hJ3_4_8 (v295) _ ⟨(ra_ HO296.out), bl_⟩)
   ·skip
    rintro v295 w16 ⟨h0_, h1_⟩
    have n0_ : Aside0 (Kd.R (Kd.int .u8) 5 w16 w.heap.size (fun _ => True) v295 y294) := ⟨h0_⟩
    have n1_ : Aside0 (Below w.heap.size w w16) := ⟨h1_⟩
    clear HB
    clear h0_ h1_
    have HO296 := n0_
    have HB := n1_
    clear n0_ n1_
    have hHeld := trivial
    refine norm_ (a' := ?_) ?_ ?_
    rotate_left
    ·simp only [putAll, Act.put, List.setIfInBounds_toArray, List.set_cons_zero, List.set_cons_succ]
     rfl
    refine on_ 4 18 HT_ (fun K hK => ?_)
    have hcv17 := own_string (P := Tryd.prog) Tryd.underlying22 Tryd.underlying5 Tryd.underlying9 (Kd.own_of_R HO296.out)
    refine value_ (w1 := ?_) (v := ?_) (by rfl) rfl ?_ ?_
    rotate_left 2
    ·go_simp
     constructor
     ·rfl
     ·rfl
    clear hcv17
    refine hK.out _ _ trivial (fun hHeld => ?_)
    clear hK K
    refine norm_ (a' := ?_) ?_ ?_
    rotate_left
    ·show Act.put _ (some 18) _ = _
     simp only [Act.put, List.setIfInBounds_toArray, List.set_cons_zero, List.set_cons_succ, i64_w, i32_w]
     rfl
    refine pu_ 5 19 HT_ ?_
    refine pu_ 9 23 HT_ ?_
    exact norm_ (by first | (simp only [putAll, Act.put, List.setIfInBounds_toArray, List.set_cons_zero, List.set_cons_succ]; done) | (simp only [putAll, Act.put, List.setIfInBounds_toArray, List.set_cons_zero, List.set_cons_succ]; rfl)) (hJ3_4_8_11 (v295) _ ⟨(ra_ HO296.out), bl_⟩)
  ·skip
   rintro v295 w16 ⟨h0_, h1_⟩
   have n0_ : Aside0 (Kd.R (Kd.int .u8) 5 w16 w.heap.size (fun _ => True) v295 y294) := ⟨h0_⟩
   have n1_ : Aside0 (Below w.heap.size w w16) := ⟨h1_⟩
   clear HB
   clear h0_ h1_
   have HO296 := n0_
   have HB := n1_
   clear n0_ n1_
   have hHeld := trivial
   refine norm_ (a' := ?_) ?_ ?_
   rotate_left
   ·simp only [putAll, Act.put, List.setIfInBounds_toArray, List.set_cons_zero, List.set_cons_succ]
    rfl
   refine on_ 11 25 HT_ (fun K hK => ?_)
   refine goes_ Tryd.func102 (by kernel_rfl) rfl #[.int .i64 (wrap64 (8 * (a0.size : Int)))] (by rfl) rfl rfl lm_ ?_
   with_reducible refine (impl_four.calls (wrap64 (8 * (a0.size : Int))) t298 _ A9.out).mono ?_
   rintro e w17 ⟨rfl, hb⟩
   refine ⟨_, rfl, ?_⟩
   have n0_ := Aside0.mk (Kd.R_below (ra_ HO296.out) hb)
   have n1_ := Aside0.mk (below_step bl_ hb)
   clear HO296
   clear HB
   have HO296 := n0_
   have HB := n1_
   clear n0_ n1_
   (try clear hb)
   (try clear hb2)
   (try clear hk)
   (try clear hi)
   refine hK.out _ _ trivial (fun hHeld => ?_)
   clear hK K
   refine norm_ (a' := ?_) ?_ ?_
   rotate_left
   ·show Act.put _ (some 25) _ = _
    simp only [Act.put, List.setIfInBounds_toArray, List.set_cons_zero, List.set_cons_succ, i64_w, i32_w]
    rfl
   exact norm_ (by first | (simp only [putAll, Act.put, List.setIfInBounds_toArray, List.set_cons_zero, List.set_cons_succ]; done) | (simp only [putAll, Act.put, List.setIfInBounds_toArray, List.set_cons_zero, List.set_cons_succ]; rfl)) (hJ3_4_8_11 (v295) _ ⟨(ra_ HO296.out), bl_⟩)
 rintro v295 w17 ⟨h0_, h1_⟩
 have n0_ : Aside0 (Kd.R (Kd.int .u8) 5 w17 w.heap.size (fun _ => True) v295 y294) := ⟨h0_⟩
 have n1_ : Aside0 (Below w.heap.size w w17) := ⟨h1_⟩
 clear HB
 clear h0_ h1_
 have HO296 := n0_
 have HB := n1_
 clear n0_ n1_
 have hHeld := trivial
 refine norm_ (a' := ?_) ?_ ?_
 rotate_left
 ·simp only [putAll, Act.put, List.setIfInBounds_toArray, List.set_cons_zero, List.set_cons_succ]
  rfl
 refine pu_ 12 26 HT_ ?_
 refine pu_ 13 2 HT_ ?_
 refine done_ (done_of HT_.out (by kernel_rfl)) ?_
 try go_wp2
 go_ret
 exact ⟨by first | rfl | (simp [errW_none, errW_some] <;> rfl) | (simp only [← hji3]; first | rfl | (simp [errW_none, errW_some] <;> rfl)) | (simp [*, errW_none, errW_some] <;> rfl) | exact False.elim (Bool.noConfusion ((decide_eq_true (of_eq_true (by assumption))).symm.trans (by assumption))), bl_⟩


def impl_ShaStart.f  : Option (List Int) := some (([1779033703, 3144134277, 1013904242, 2773480762, 1359893119, 2600822924, 528734635, 1541459225] : List Int))
theorem impl_ShaStart.calls  (r : List Int) (w : World) (h : impl_ShaStart.f  = some r) :
 Calls Tryd.prog 100 #[] w fun e w' => ∃ v0_ : Value, e = .returned (v0_) ∧ Kd.R (Kd.int .i64) 3 w' w.heap.size (fun _ => True) v0_ r ∧ Below w.heap.size w w' := by
 have HB := Aside0.mk (Below.refl w.heap.size w)
 have H : (some (([1779033703, 3144134277, 1013904242, 2773480762, 1359893119, 2600822924, 528734635, 1541459225] : List Int))) = some r := h
 clear h
 obtain ⟨y299, hy299⟩ : ∃ y_ : List Int, y_ = (([1779033703, 3144134277, 1013904242, 2773480762, 1359893119, 2600822924, 528734635, 1541459225] : List Int)) := ⟨_, rfl⟩
 replace H : (some y299) = some r := rp_ H hy299
 have Ny299 := Aside0.mk hy299
 clear hy299
 obtain rfl := Option.some.inj H
 go_enter Tryd.func100, Tryd.ntmps100
 go_wp2_with (first | ((with_reducible refine gate_dst (N := 1) rfl ?_); refine Kd.R_lit (Kd.int .i64) _ 3 ?hg (N := 1) ?hd (xs := ([1779033703, 3144134277, 1013904242, 2773480762, 1359893119, 2600822924, 528734635, 1541459225] : List Int)) (inner := [.int .i64 1779033703, .int .i64 3144134277, .int .i64 1013904242, .int .i64 2773480762, .int .i64 1359893119, .int .i64 2600822924, .int .i64 528734635, .int .i64 1541459225]) (ok := fun _ => True) (okp := fun _ => True) ?hr ?hp (fun _ hk => hk) trivial (Below.refl _ _) (Nat.le_refl _) (by simp) ?_; (case hd => rfl); (case hg => rfl); (case hr => first | (go_simp; done) | (go_simp; rfl)); (case hp => exact (Reps.one (show Kd.M (Kd.int .i64) _ _ _ 1779033703 [.int .i64 1779033703] from rfl) (Reps.one (show Kd.M (Kd.int .i64) _ _ _ 3144134277 [.int .i64 3144134277] from rfl) (Reps.one (show Kd.M (Kd.int .i64) _ _ _ 1013904242 [.int .i64 1013904242] from rfl) (Reps.one (show Kd.M (Kd.int .i64) _ _ _ 2773480762 [.int .i64 2773480762] from rfl) (Reps.one (show Kd.M (Kd.int .i64) _ _ _ 1359893119 [.int .i64 1359893119] from rfl) (Reps.one (show Kd.M (Kd.int .i64) _ _ _ 2600822924 [.int .i64 2600822924] from rfl) (Reps.one (show Kd.M (Kd.int .i64) _ _ _ 528734635 [.int .i64 528734635] from rfl) (Reps.one (show Kd.M (Kd.int .i64) _ _ _ 1541459225 [.int .i64 1541459225] from rfl) (Reps.none _ _)))))))))); intro v300 w1 ho2 hb hg_ hnew_; clear hg_ hnew_; (first | rw [← Ny299.out] at ho2 | (simp only [Int.reduceToNat] at ho2; rw [← Ny299.out] at ho2)); have HO301 := Aside0.mk (Kd.R_lower ho2 (below_size bl_)); replace HB := Aside0.mk (below_step bl_ hb); clear hb ho2))
 go_ret
 exact ⟨_, er_, ra_ HO301.out, bl_⟩


mutual
def impl_Digest.l0 : Nat → ByteArray → List Int → Int → Option (ByteArray)
 | 0, _, _, _ => none
 | k + 1, x3, x4, x5 => if x5 < (x3.size : Int) then (if 0 ≤ x5 then (if x5 ≤ (wrap64 (x5 + 64)) then (if (wrap64 (x5 + 64)) ≤ (x3.size : Int) then ((impl_ShaBlock.f x4 (x3.extract (x5 : Int).toNat ((wrap64 (x5 + 64)) : Int).toNat)).bind fun t306 => (impl_Digest.l0 k x3 t306 (wrap64 (x5 + 64)))) else (none)) else (none)) else (none)) else (impl_Digest.l1 k (⟨#[]⟩ : ByteArray) x4 (x4.length : Int) 0)
def impl_Digest.l1 : Nat → ByteArray → List Int → Int → Int → Option (ByteArray)
 | 0, _, _, _, _ => none
 | k + 1, x6, x25, x26, x27 => if x27 < x26 then (if 0 ≤ x27 then (if x27 < (x25.length : Int) then ((impl_four.f (rd x25 x27)).bind fun t310 => (if x6.size + t310.size ≤ 9223372036854775807 then (impl_Digest.l1 k (x6 ++ t310) x25 x26 (wrap64 (x27 + 1))) else (none))) else (none)) else (none)) else (some x6)
end
def impl_Digest.f (k : Nat) (a0 : ByteArray) : Option (ByteArray) := (impl_PadText.f a0).bind fun t302 => ((impl_ShaStart.f).bind fun t303 => (impl_Digest.l0 k t302 t303 0))
theorem impl_Digest.mono_l : ∀ k, (∀ y0 y1 y2, LeO (impl_Digest.l0 k y0 y1 y2) (impl_Digest.l0 (k + 1) y0 y1 y2)) ∧ (∀ y0 y1 y2 y3, LeO (impl_Digest.l1 k y0 y1 y2 y3) (impl_Digest.l1 (k + 1) y0 y1 y2 y3))
 | 0 => ⟨fun _ _ _ r h => by simp [impl_Digest.l0] at h, fun _ _ _ _ r h => by simp [impl_Digest.l1] at h⟩
 | k + 1 => by
  obtain ⟨ih0, ih1⟩ := impl_Digest.mono_l k
  refine ⟨?_, ?_⟩
  ·intro y0 y1 y2
   unfold impl_Digest.l0
   exact mo_
  ·intro y0 y1 y2 y3
   unfold impl_Digest.l1
   exact mo_
theorem impl_Digest.mono : ∀ a0 k, LeO (impl_Digest.f k a0) (impl_Digest.f (k + 1) a0) := by
 intro a0 k
 obtain ⟨ih0, ih1⟩ := impl_Digest.mono_l k
 unfold impl_Digest.f
 exact mo_
theorem impl_Digest.calls (k : Nat) (a0 : ByteArray) (r : ByteArray) (w : World) (hT : Tab w) (h : impl_Digest.f k a0 = some r) :
 Calls Tryd.prog 66 #[.string a0] w fun e w' => e = .returned (.string r) ∧ Below w.heap.size w w' := by
 have HT := Aside0.mk hT
 clear hT
 have HB := Aside0.mk (Below.refl w.heap.size w)
 have H := h
 unfold impl_Digest.f at H
 clear h
 replace H := bs_ H
 obtain ⟨t302, A2, H⟩ := H
 try dsimp only at H
 replace H := bs_ H
 obtain ⟨t303, A3, H⟩ := H
 try dsimp only at H
 have H' := Aside0.mk H
 clear H
 go_enter Tryd.func66, Tryd.ntmps66
 go_wp2_with (first | ((with_reducible refine gate_callee (f := 99) rfl ?_); refine gs_ (some 10) Tryd.func99 #[.string a0] ?_; (with_reducible refine (impl_PadText.calls a0 t302 _ A2.out).mono ?_); rintro e w4 ⟨rfl, hb⟩; refine ⟨_, rfl, ?_⟩; replace HB := Aside0.mk (below_step bl_ hb); (try clear hb)) | ((with_reducible refine gate_callee (f := 100) rfl ?_); refine gs_ (some 11) Tryd.func100 #[] ?_; (with_reducible refine (impl_ShaStart.calls  t303 _ A3.out).mono ?_); rintro e w5 ⟨v304, rfl, ho0, hb⟩; refine ⟨_, rfl, ?_⟩; have HO305 := Aside0.mk (Kd.R_lower ho0 (below_size bl_)); replace HB := Aside0.mk (below_step bl_ hb); (try clear hb); (try clear ho0)))
 go_loopg [4, 5] k (fun kq v4 v5 w' => ∃ (x4_1 : List Int) (x5_1 : Int), v5 = .int .i64 x5_1 ∧ Aside0 (impl_Digest.l0 kq t302 x4_1 x5_1 = some r) ∧ Aside0 (kq ≤ k) ∧ Aside0 (Kd.R (Kd.int .i64) 3 w' w.heap.size (fun _ => True) v4 x4_1) ∧ Aside0 (Below w.heap.size w w'))
 case atStart => exact ⟨(t303), (0), (sr_), H', ⟨Nat.le_refl _⟩, ⟨ra_ HO305.out⟩, ⟨bl_⟩⟩
 clear H'
 obtain ⟨x4_1, x5_1, rfl, HA, HK1, HO_4, HB⟩ := hrel
 cases gk with
 | zero => exact absurd HA.out (by simp [impl_Digest.l0])
 | succ k1 => ?_
 have H := HA.out
 clear HA
 simp only [impl_Digest.l0] at H
 by_cases c6 : x5_1 < (t302.size : Int)
 ·rw [if_pos c6] at H
  have c6b0 := decide_eq_true c6
  clear c6
  by_cases c7 : 0 ≤ x5_1
  rotate_left
  ·exact nn_ c7 H
  rw [if_pos c7] at H
  have c7b0 := eq_true c7
  have c7b1 : decide (0 ≤ x5_1) = true := decide_eq_true c7
  clear c7
  by_cases c8 : x5_1 ≤ (wrap64 (x5_1 + 64))
  rotate_left
  ·exact nn_ c8 H
  rw [if_pos c8] at H
  have c8b0 := eq_true c8
  have c8b1 : decide (x5_1 ≤ (wrap64 (x5_1 + 64))) = true := decide_eq_true c8
  by_cases c9 : (wrap64 (x5_1 + 64)) ≤ (t302.size : Int)
  rotate_left
  ·exact nn_ c9 H
  rw [if_pos c9] at H
  have c9b0 := eq_true c9
  have c9b1 : decide ((wrap64 (x5_1 + 64)) ≤ (t302.size : Int)) = true := decide_eq_true c9
  replace H := bs_ H
  obtain ⟨t306, A10, H⟩ := H
  try dsimp only at H
  have H' := Aside0.mk H
  clear H
  obtain ⟨Ao11, co11, eo11⟩ := Kd.R_slice HO_4.out
  subst eo11
  go_wp2_with (first | ((with_reducible refine gate_callee (f := 101) rfl ?_); refine gs_ (some 24) Tryd.func101 #[.slice Ao11 x4_1.length co11, .string (t302.extract (x5_1 : Int).toNat ((wrap64 (x5_1 + 64)) : Int).toNat)] ?_; (with_reducible refine (impl_ShaBlock.calls _ _ x4_1 (t302.extract (x5_1 : Int).toNat ((wrap64 (x5_1 + 64)) : Int).toNat) t306 _ ?side1 ?side2 ?side3 A10.out).mono ?_); (case side1 => exact cs_ ((Kd.R_reads' HO_4.out).2.2)); (case side2 => exact (Kd.R_reads' HO_4.out).2.1); (case side3 => exact tab_of HT.out bl_); rintro e w12 ⟨v307, rfl, ho0, hb⟩; refine ⟨_, rfl, ?_⟩; have HO308 := Aside0.mk (Kd.R_lower (Kd.R_new' ho0 (Kd.R_lt (ra_ HO_4.out))) (below_size bl_)); replace HO_4 := Aside0.mk (Kd.R_elder' (ra_ HO_4.out) (Kd.R_base ho0) hb); replace HB := Aside0.mk (below_step bl_ hb); (try clear hb); (try clear ho0)))
  go_roundg k1
  case measure => have := HK1.out; omega
  case rel => exact ⟨(t306), (wrap64 (x5_1 + 64)), (sr_), H', ⟨by have := HK1.out; omega⟩, ⟨by (with_reducible repeat (first | apply Kd.R_alloc | apply Kd.R_drewN | apply Kd.R_drew)); exact Kd.R_mono HO308.out (fun _ hk => trivial)⟩, ⟨bl_⟩⟩
 rw [if_neg c6] at H
 have c6b0 := decide_eq_false c6
 clear c6
 have H' := Aside0.mk H
 clear H
 obtain ⟨Ao13, co13, eo13⟩ := Kd.R_slice HO_4.out
 subst eo13
 go_wp2
 go_loopg [6, 27] k1 (fun kq v6 v27 w' => ∃ (x6_2 : ByteArray) (x27_2 : Int), v6 = .string x6_2 ∧ v27 = .int .i64 x27_2 ∧ Aside0 (impl_Digest.l1 kq x6_2 x4_1 (x4_1.length : Int) x27_2 = some r) ∧ Aside0 (kq ≤ k1) ∧ Aside0 (Kd.R (Kd.int .i64) 3 w' w.heap.size (fun _ => True) (.slice Ao13 x4_1.length co13) x4_1) ∧ Aside0 (Below w.heap.size w w'))
 case atStart => exact ⟨((⟨#[]⟩ : ByteArray)), (0), (sr_), (sr_), H', ⟨Nat.le_refl _⟩, ⟨ra_ HO_4.out⟩, ⟨bl_⟩⟩
 clear H'
 try clear c6
 try clear c6b0
 obtain ⟨x6_2, x27_2, rfl, rfl, HA, HK2, HO_25, HB⟩ := hrel
 cases gk with
 | zero => exact absurd HA.out (by simp [impl_Digest.l1])
 | succ k2 => ?_
 have H := HA.out
 clear HA
 simp only [impl_Digest.l1] at H
 by_cases c14 : x27_2 < (x4_1.length : Int)
 rotate_left
 ·rw [if_neg c14] at H
  have c14b0 := decide_eq_false c14
  clear c14
  obtain rfl := Option.some.inj H
  go_wp2
  go_ret
  exact ⟨er_, bl_⟩
 rw [if_pos c14] at H
 have c14b0 := decide_eq_true c14
 clear c14
 by_cases c15 : 0 ≤ x27_2
 rotate_left
 ·exact nn_ c15 H
 rw [if_pos c15] at H
 have c15b0 := decide_eq_true c15
 clear c15
 by_cases c16 : x27_2 < (x4_1.length : Int)
 rotate_left
 ·exact nn_ c16 H
 rw [if_pos c16] at H
 have c16b0 := decide_eq_true c16
 clear c16
 replace H := bs_ H
 obtain ⟨t310, A17, H⟩ := H
 try dsimp only at H
 by_cases c18 : x6_2.size + t310.size ≤ 9223372036854775807
 rotate_left
 ·exact nn_ c18 H
 rw [if_pos c18] at H
 have c18b0 := eq_true c18
 have c18b1 : decide (x6_2.size + t310.size ≤ 9223372036854775807) = true := decide_eq_true c18
 try have c18b2 : (9223372036854775807 < x6_2.size + t310.size) = False := eq_false (Nat.not_lt.2 c18)
 have H' := Aside0.mk H
 clear H
 have p309 : 0 ≤ (x27_2 : Int) := of_decide_eq_true as_
 have q309 : x27_2 < (x4_1.length : Int) := of_decide_eq_true as_
 obtain ⟨ad309, e309, hx309_0⟩ := Kd.at_int (Kd.R_reads' HO_25.out).2.2 x27_2 p309 q309
 cases e309
 replace p309 := eq_true p309
 replace q309 := eq_true q309
 go_wp2_with (first | ((with_reducible refine gate_callee (f := 102) rfl ?_); refine gs_ (some 33) Tryd.func102 #[.int .i64 (rd x4_1 x27_2)] ?_; (with_reducible refine (impl_four.calls (rd x4_1 x27_2) t310 _ A17.out).mono ?_); rintro e w19 ⟨rfl, hb⟩; refine ⟨_, rfl, ?_⟩; replace HO_25 := Aside0.mk (Kd.R_below (ra_ HO_25.out) hb); replace HB := Aside0.mk (below_step bl_ hb); (try clear hb)))
 go_roundg k2
 case measure => have := HK1.out; have := HK2.out; omega
 case rel => exact ⟨(x6_2 ++ t310), (wrap64 (x27_2 + 1)), (sr_), (sr_), H', ⟨by have := HK1.out; have := HK2.out; omega⟩, ⟨ra_ HO_25.out⟩, ⟨bl_⟩⟩


def IsS100 (w0 W : World) (g : Nat) (f0 : List Int) (f1 : Int) (f2 : Int) : Prop := ∃ A0 c0, W.heap[g]? = some (.cells #[.slice A0 f0.length c0, .int .i64 f1, .int .i64 f2] 100 (0, 0)) ∧ w0.heap.size ≤ g ∧ Kd.C (Kd.int .u8) w0 A0 f0.length f0
theorem IsS100.grown {w0 W : World} {g : Nat} {f0 : List Int} {f1 : Int} {f2 : Int} {W1 : World} {row : Option Nat} (h : IsS100 w0 W g f0 f1 f2) (hw : W.grownBy W1 row) (hne : some g ≠ row) : IsS100 w0 W1 g f0 f1 f2 := by
 obtain ⟨A0, c0, hb, hg, hr0⟩ := h
 exact ⟨A0, c0, blk_grown hb hw hne, hg, hr0⟩
theorem IsS100.own_neN {w0 W : World} {g : Nat} {f0 : List Int} {f1 : Int} {f2 : Int} {α : Type} {d : Kd α} {e : Nat} {base : Nat} {ok : Nat → Prop} {v : Value} {xs : List α} (h : IsS100 w0 W g f0 f1 f2) (ho : Kd.N d e W base ok v xs) (ht : e ≠ 100) : some g ≠ v.ownBlock := by
 obtain ⟨A0, c0, hb, hg, hr0⟩ := h
 exact Kd.N_ne ho hb ht
theorem IsS100.fresh {w0 W : World} {g : Nat} {f0 : List Int} {f1 : Int} {f2 : Int} (h : IsS100 w0 W g f0 f1 f2) : ∀ k, W.heap.size ≤ k → k ≠ g := by
 obtain ⟨A0, c0, hb, hg, hr0⟩ := h
 exact Kd.freshB hb
theorem IsS100.kept {w0 W : World} {g : Nat} {f0 : List Int} {f1 : Int} {f2 : Int} {W1 : World} {S : Nat → Prop} (h : IsS100 w0 W g f0 f1 f2) (hk : Kept W W1 S) (hne : ¬ S g) : IsS100 w0 W1 g f0 f1 f2 := by
 obtain ⟨A0, c0, hb, hg, hr0⟩ := h
 exact ⟨A0, c0, blk_kept hb hk hne, hg, hr0⟩
theorem IsS100.below {w0 W : World} {g : Nat} {f0 : List Int} {f1 : Int} {f2 : Int} {W1 : World} (h : IsS100 w0 W g f0 f1 f2) (hw : Below W.heap.size W W1) : IsS100 w0 W1 g f0 f1 f2 := h.grown (grown_of_below hw none) (by simp)
theorem IsS100.alloc {w0 W : World} {g : Nat} {f0 : List Int} {f1 : Int} {f2 : Int} (h : IsS100 w0 W g f0 f1 f2) (o : Obj) : IsS100 w0 (W.alloc o) g f0 f1 f2 := h.below (below_alloc (Below.refl _ _) o)
theorem IsS100.drewN {w0 W : World} {g : Nat} {f0 : List Int} {f1 : Int} {f2 : Int} (h : IsS100 w0 W g f0 f1 f2) (m : Nat) : IsS100 w0 (W.drewN m) g f0 f1 f2 := h
theorem IsS100.drew {w0 W : World} {g : Nat} {f0 : List Int} {f1 : Int} {f2 : Int} (h : IsS100 w0 W g f0 f1 f2) : IsS100 w0 W.drew g f0 f1 f2 := h
theorem IsS100.at_ {w0 W : World} {g : Nat} {f0 : List Int} {f1 : Int} {f2 : Int} {w' : World} {m : Nat} (hq : W.drewN m = w') (h : IsS100 w0 W g f0 f1 f2) : IsS100 w0 w' g f0 f1 f2 := by subst hq; exact IsS100.drewN h m
theorem IsS100.apart {w0 W : World} {g : Nat} {f0 : List Int} {f1 : Int} {f2 : Int} {α : Type} {d : Kd α} {e : Nat} {base : Nat} {ok : Nat → Prop} {v : Value} {xs : List α} (h : IsS100 w0 W g f0 f1 f2) (ho : d.R e W base ok v xs) (ht : ∀ q, q ∈ e :: d.E → q ≠ 100) : d.R e W base (fun k => ok k ∧ k ≠ g) v xs := by
 obtain ⟨A0, c0, hb, hg, hr0⟩ := h
 exact Kd.R_types ho hb ht
theorem IsS100.own_ne {w0 W : World} {g : Nat} {f0 : List Int} {f1 : Int} {f2 : Int} {α : Type} {d : Kd α} {e : Nat} {base : Nat} {ok : Nat → Prop} {v : Value} {xs : List α} (h : IsS100 w0 W g f0 f1 f2) (ho : d.R e W base ok v xs) (ht : e ≠ 100) : some g ≠ v.ownBlock := by
 obtain ⟨A0, c0, hb, hg, hr0⟩ := h
 exact Kd.R_ne ho hb ht
theorem IsS100.apartQ {w0 W : World} {g : Nat} {f0 : List Int} {f1 : Int} {f2 : Int} {α : Type} {d : Kd α} {e : Nat} {base : Nat} {ok : Nat → Prop} {v : Value} {xs : List α} (h : IsS100 w0 W g f0 f1 f2) (ho : d.Q e W base ok v xs) (ht : ∀ q, q ∈ e :: d.E → q ≠ 100) : d.Q e W base (fun k => ok k ∧ k ≠ g) v xs := by
 obtain ⟨A0, c0, hb, hg, hr0⟩ := h
 exact Kd.Q_types ho hb ht
theorem IsS100.own_neQ {w0 W : World} {g : Nat} {f0 : List Int} {f1 : Int} {f2 : Int} {α : Type} {d : Kd α} {e : Nat} {base : Nat} {ok : Nat → Prop} {v : Value} {xs : List α} (h : IsS100 w0 W g f0 f1 f2) (ho : d.Q e W base ok v xs) (ht : e ≠ 100) : some g ≠ v.ownBlock := by
 obtain ⟨A0, c0, hb, hg, hr0⟩ := h
 exact Kd.Q_ne ho hb ht
theorem IsS100.apartS {w0 W : World} {g : Nat} {f0 : List Int} {f1 : Int} {f2 : Int} {α : Type} {d : Kd α} {e : Nat} {base : Nat} {ok : Nat → Prop} {v : Value} {xs : List α} (h : IsS100 w0 W g f0 f1 f2) (ho : d.S e W base ok v xs) (ht : ∀ q, q ∈ e :: d.E → q ≠ 100) : d.S e W base (fun k => ok k ∧ k ≠ g) v xs := by
 obtain ⟨A0, c0, hb, hg, hr0⟩ := h
 exact Kd.S_types ho hb ht
theorem IsS100.own_neS {w0 W : World} {g : Nat} {f0 : List Int} {f1 : Int} {f2 : Int} {α : Type} {d : Kd α} {e : Nat} {base : Nat} {ok : Nat → Prop} {v : Value} {xs : List α} (h : IsS100 w0 W g f0 f1 f2) (ho : d.S e W base ok v xs) (ht : e ≠ 100) : some g ≠ v.ownBlock := by
 obtain ⟨A0, c0, hb, hg, hr0⟩ := h
 exact Kd.S_ne ho hb ht
theorem IsS100.lt {w0 W : World} {g : Nat} {f0 : List Int} {f1 : Int} {f2 : Int} (h : IsS100 w0 W g f0 f1 f2) : g < W.heap.size := by
 obtain ⟨A0, c0, hb, hg, hr0⟩ := h
 exact blk_lt hb
theorem IsS100.ge {w0 W : World} {g : Nat} {f0 : List Int} {f1 : Int} {f2 : Int} (h : IsS100 w0 W g f0 f1 f2) : w0.heap.size ≤ g := by
 obtain ⟨A0, c0, hb, hg, hr0⟩ := h
 exact hg
theorem IsS100.ne_blk {w0 W : World} {g : Nat} {f0 : List Int} {f1 : Int} {f2 : Int} {a : Nat} {cs : Array Value} {t : TypeId} {fr : Nat × Nat} (h : IsS100 w0 W g f0 f1 f2) (hb2 : W.heap[a]? = some (.cells cs t fr)) (ht : t ≠ 100) : g ≠ a := by
 obtain ⟨A0, c0, hb, hg, hr0⟩ := h
 rintro rfl
 rw [hb] at hb2
 injection hb2 with hb2
 injection hb2 with _ ht2
 exact ht ht2.symm
theorem IsS100.far {w0 W : World} {g : Nat} {f0 : List Int} {f1 : Int} {f2 : Int} {p : Addr} (h : IsS100 w0 W g f0 f1 f2) (hne : g ≠ p.block) (u : Value) : IsS100 w0 (W.setCell p u) g f0 f1 f2 := by
 obtain ⟨A0, c0, hb, hg, hr0⟩ := h
 exact ⟨A0, c0, blk_far hb hne u, hg, hr0⟩
theorem cellS100_0 {W : World} {g : Nat} {A0 : Option Addr} {c0 : Nat} {f0 : List Int} {f1 : Int} {f2 : Int} (h : W.heap[g]? = some (.cells #[.slice A0 f0.length c0, .int .i64 f1, .int .i64 f2] 100 (0, 0))) : W.cell? ⟨g, 0, none⟩ = some (.slice A0 f0.length c0) := (blk_cell h 0).trans rfl
theorem cellS100_1 {W : World} {g : Nat} {A0 : Option Addr} {c0 : Nat} {f0 : List Int} {f1 : Int} {f2 : Int} (h : W.heap[g]? = some (.cells #[.slice A0 f0.length c0, .int .i64 f1, .int .i64 f2] 100 (0, 0))) : W.cell? ⟨g, 1, none⟩ = some (.int .i64 f1) := (blk_cell h 1).trans rfl
theorem IsS100.set_1 {w0 W : World} {g : Nat} {f0 : List Int} {f1 : Int} {f2 : Int} (h : IsS100 w0 W g f0 f1 f2) (x : Int) : IsS100 w0 (W.setCell ⟨g, 1, none⟩ (.int .i64 x)) g f0 x f2 := by
 obtain ⟨A0, c0, hb, hg, hr0⟩ := h
 exact ⟨A0, c0, by simpa using blk_set hb 1 (.int .i64 x), hg, hr0⟩
theorem cellS100_2 {W : World} {g : Nat} {A0 : Option Addr} {c0 : Nat} {f0 : List Int} {f1 : Int} {f2 : Int} (h : W.heap[g]? = some (.cells #[.slice A0 f0.length c0, .int .i64 f1, .int .i64 f2] 100 (0, 0))) : W.cell? ⟨g, 2, none⟩ = some (.int .i64 f2) := (blk_cell h 2).trans rfl
theorem IsS100.set_2 {w0 W : World} {g : Nat} {f0 : List Int} {f1 : Int} {f2 : Int} (h : IsS100 w0 W g f0 f1 f2) (x : Int) : IsS100 w0 (W.setCell ⟨g, 2, none⟩ (.int .i64 x)) g f0 f1 x := by
 obtain ⟨A0, c0, hb, hg, hr0⟩ := h
 exact ⟨A0, c0, by simpa using blk_set hb 2 (.int .i64 x), hg, hr0⟩
theorem IsS100.new (w0 W : World) (A0 : Option Addr) (c0 : Nat) (f0 : List Int) (f1 : Int) (f2 : Int) (hB : Below w0.heap.size w0 W) (hr0 : Kd.C (Kd.int .u8) w0 A0 f0.length f0) : IsS100 w0 (W.alloc (.cells #[.slice A0 f0.length c0, .int .i64 f1, .int .i64 f2] 100)) W.heap.size f0 f1 f2 := ⟨A0, c0, by simpa using heap_alloc_new W _, hB.size, hr0⟩

def spec_l01New.l0 : Nat → List Int → Int → Int → Option (List Int × Int × Int)
 | 0, _, _, _ => none
 | k + 1, x0, x3, x4 => if x4 < (x0.length : Int) then (if x4 < 4000 then (if 0 ≤ x4 then (spec_l01New.l0 k x0 (Go.bits .and .i64 (wrap64 ((wrap64 ((wrap64 (x3 * 131)) + (wrap64 (rd x0 x4)))) + 7)) 1073741823) (wrap64 (x4 + 1))) else (none)) else (some (x0, 0, x3))) else (some (x0, 0, x3))
def spec_l01New.f (k : Nat) (l0 : List Int) : Option (List Int × Int × Int) := spec_l01New.l0 k l0 (wrap64 (78801 + (l0.length : Int))) 0
theorem spec_l01New.mono_l : ∀ k, (∀ y0 y1 y2, LeO (spec_l01New.l0 k y0 y1 y2) (spec_l01New.l0 (k + 1) y0 y1 y2))
 | 0 => fun _ _ _ r h => by simp [spec_l01New.l0] at h
 | k + 1 => by
  have ih0 := spec_l01New.mono_l k
  ·intro y0 y1 y2
   unfold spec_l01New.l0
   exact mo_
theorem spec_l01New.mono : ∀ a0 k, LeO (spec_l01New.f k a0) (spec_l01New.f (k + 1) a0) := by
 intro a0 k
 have ih0 := spec_l01New.mono_l k
 unfold spec_l01New.f
 exact mo_
theorem spec_l01New.calls (k : Nat) (A0 : Option Addr) (c0 : Nat) (l0 : List Int) (r1 : List Int) (r2 : Int) (r3 : Int) (w0 w : World) (hB : Below w0.heap.size w0 w) (hr0 : Kd.C (Kd.int .u8) w0 A0 l0.length l0) (hc0 : l0.length ≤ c0) (h : spec_l01New.f k l0 = some (r1, r2, r3)) :
 Calls Tryd.prog 58 #[.slice A0 l0.length c0] w fun e w' => ∃ g_ : Nat, e = .returned (.pointer (some ⟨g_, 0, none⟩)) ∧ IsS100 w0 w' g_ r1 r2 r3 ∧ Below w0.heap.size w0 w' ∧ Below w.heap.size w w' := by
 have hu100 := Tryd.underlying100
 have HR0 := Aside0.mk hr0
 have HC0 := Aside0.mk hc0
 clear hr0 hc0
 have HBW := Aside0.mk (Below.refl w.heap.size w)
 have HW0 := Aside0.mk hB.size
 have HB := Aside0.mk hB
 clear hB
 have H := h
 unfold spec_l01New.f at H
 clear h
 have H' := Aside0.mk H
 clear H
 go_enter Tryd.func58, Tryd.ntmps58
 go_wp2
 go_loopg [3, 4] k (fun kq v3 v4 w' => ∃ (x3_1 : Int) (x4_1 : Int), v3 = .int .i64 x3_1 ∧ v4 = .int .i64 x4_1 ∧ Aside0 (spec_l01New.l0 kq l0 x3_1 x4_1 = some (r1, r2, r3)) ∧ Aside0 (kq ≤ k) ∧ Aside0 (Below w0.heap.size w0 w') ∧ Aside0 (Below w.heap.size w w'))
 case atStart => exact ⟨(wrap64 (78801 + (l0.length : Int))), (0), (sr_), (sr_), H', ⟨Nat.le_refl _⟩, ⟨bl_⟩, ⟨by repeat (first | (with_reducible first | exact HBW.out | apply below_alloc | apply pw_below_drewN | apply below_drew1) | exact HBW.out)⟩⟩
 clear H'
 obtain ⟨x3_1, x4_1, rfl, rfl, HA, HK1, HB, HBW⟩ := hrel
 cases gk with
 | zero => exact absurd HA.out (by simp [spec_l01New.l0])
 | succ k1 => ?_
 have H := HA.out
 clear HA
 simp only [spec_l01New.l0] at H
 by_cases c2 : x4_1 < (l0.length : Int)
 rotate_left
 ·rw [if_neg c2] at H
  have c2b0 := decide_eq_false c2
  clear c2
  simp only [Option.some.injEq, Prod.mk.injEq] at H
  obtain ⟨rfl, rfl, rfl⟩ := H
  go_wp2_with (first | ((with_reducible refine gate_dst (N := 31) rfl ?_); refine bx_ 31 100 #[.slice A0 l0.length c0, .int .i64 0, .int .i64 x3_1] ?_; intro gb103 hg w6 hbox hb; replace HB := Aside0.mk (below_step bl_ hb); have BK103 := Aside0.mk (hbox); have GW103 := Aside0.mk ((by rw [hg]; exact (below_size (by repeat (first | (with_reducible first | exact HBW.out | apply below_alloc | apply pw_below_drewN | apply below_drew1) | exact HBW.out))) : w.heap.size ≤ gb103)); have GE103 := Aside0.mk ((Nat.le_trans HW0.out (by rw [hg]; exact (below_size (by repeat (first | (with_reducible first | exact HBW.out | apply below_alloc | apply pw_below_drewN | apply below_drew1) | exact HBW.out))) : w.heap.size ≤ gb103) : w0.heap.size ≤ gb103)); replace HBW := Aside0.mk (below_step HBW.out hb); clear hb hbox hg))
  go_ret
  exact ⟨_, rfl, (show IsS100 w0 _ gb103 l0 0 x3_1 from ⟨_, _, bk_ BK103.out, GE103.out, HR0.out⟩), bl_, by repeat (first | (with_reducible first | exact HBW.out | apply below_alloc | apply pw_below_drewN | apply below_drew1 | refine below_set ?_ GW103.out) | exact HBW.out)⟩
 rw [if_pos c2] at H
 have c2b0 := decide_eq_true c2
 clear c2
 by_cases c3 : x4_1 < 4000
 rotate_left
 ·rw [if_neg c3] at H
  have c3b0 := decide_eq_false c3
  clear c3
  simp only [Option.some.injEq, Prod.mk.injEq] at H
  obtain ⟨rfl, rfl, rfl⟩ := H
  go_wp2_with (first | ((with_reducible refine gate_dst (N := 31) rfl ?_); refine bx_ 31 100 #[.slice A0 l0.length c0, .int .i64 0, .int .i64 x3_1] ?_; intro gb102 hg w5 hbox hb; replace HB := Aside0.mk (below_step bl_ hb); have BK102 := Aside0.mk (hbox); have GW102 := Aside0.mk ((by rw [hg]; exact (below_size (by repeat (first | (with_reducible first | exact HBW.out | apply below_alloc | apply pw_below_drewN | apply below_drew1) | exact HBW.out))) : w.heap.size ≤ gb102)); have GE102 := Aside0.mk ((Nat.le_trans HW0.out (by rw [hg]; exact (below_size (by repeat (first | (with_reducible first | exact HBW.out | apply below_alloc | apply pw_below_drewN | apply below_drew1) | exact HBW.out))) : w.heap.size ≤ gb102) : w0.heap.size ≤ gb102)); replace HBW := Aside0.mk (below_step HBW.out hb); clear hb hbox hg))
  go_ret
  exact ⟨_, rfl, (show IsS100 w0 _ gb102 l0 0 x3_1 from ⟨_, _, bk_ BK102.out, GE102.out, HR0.out⟩), bl_, by repeat (first | (with_reducible first | exact HBW.out | apply below_alloc | apply pw_below_drewN | apply below_drew1 | refine below_set ?_ GW102.out) | exact HBW.out)⟩
 rw [if_pos c3] at H
 have c3b0 := decide_eq_true c3
 clear c3
 by_cases c4 : 0 ≤ x4_1
 rotate_left
 ·exact nn_ c4 H
 rw [if_pos c4] at H
 have c4b0 := decide_eq_true c4
 clear c4
 have H' := Aside0.mk H
 clear H
 have p101 : 0 ≤ (x4_1 : Int) := of_decide_eq_true as_
 have q101 : x4_1 < (l0.length : Int) := of_decide_eq_true as_
 obtain ⟨ad101, e101, hx101_0⟩ := Kd.at_int HR0.out x4_1 p101 q101
 cases e101
 replace hx101_0 := pw_cell_below HB.out hx101_0
 replace p101 := eq_true p101
 replace q101 := eq_true q101
 go_wp2
 go_roundg k1
 case measure => have := HK1.out; omega
 case rel => exact ⟨(Go.bits .and .i64 (wrap64 ((wrap64 ((wrap64 (x3_1 * 131)) + (wrap64 (rd l0 x4_1)))) + 7)) 1073741823), (wrap64 (x4_1 + 1)), (sr_), (sr_), H', ⟨by have := HK1.out; omega⟩, ⟨bl_⟩, ⟨by repeat (first | (with_reducible first | exact HBW.out | apply below_alloc | apply pw_below_drewN | apply below_drew1) | exact HBW.out)⟩⟩


def spec_l01Byte.f (s0_0 : List Int) (s0_1 : Int) (s0_2 : Int) : Option (Int × Int × Int) := if s0_1 < (s0_0.length : Int) then (if 0 ≤ s0_1 then (some (Go.bits .and .i64 (wrap64 ((Go.bits .and .i64 (Go.bits .xor .i64 ((wrap64 ((wrap64 (s0_2 * 6364136223846793005)) + 1442695040888963407)) / 8589934592) ((wrap64 ((wrap64 (s0_2 * 6364136223846793005)) + 1442695040888963407)) / 35184372088832)) 255) + (wrap64 (rd s0_0 s0_1)))) 255, wrap64 (s0_1 + 1), wrap64 ((wrap64 (s0_2 * 6364136223846793005)) + 1442695040888963407))) else (none)) else (some (Go.bits .and .i64 (Go.bits .xor .i64 ((wrap64 ((wrap64 (s0_2 * 6364136223846793005)) + 1442695040888963407)) / 8589934592) ((wrap64 ((wrap64 (s0_2 * 6364136223846793005)) + 1442695040888963407)) / 35184372088832)) 255, s0_1, wrap64 ((wrap64 (s0_2 * 6364136223846793005)) + 1442695040888963407)))
theorem spec_l01Byte.calls (g : Nat) (s0_0 : List Int) (s0_1 : Int) (s0_2 : Int) (r1 : Int) (r2 : Int) (r3 : Int) (w0 w : World) (hI : IsS100 w0 w g s0_0 s0_1 s0_2) (hB : Below w0.heap.size w0 w) (h : spec_l01Byte.f s0_0 s0_1 s0_2 = some (r1, r2, r3)) :
 Calls Tryd.prog 94 #[.pointer (some ⟨g, 0, none⟩)] w fun e w' => e = .returned (.int .i64 r1) ∧ IsS100 w0 w' g s0_0 r2 r3 ∧ Below w0.heap.size w0 w' ∧ KeepBut w w' g none := by
 have HI0 := Aside0.mk hI
 have HK := Aside0.mk (KeepBut.refl w g none)
 have HL := Aside0.mk hB.size
 clear hI
 have HW0 := Aside0.mk hB.size
 have HB := Aside0.mk hB
 clear hB
 have H := h
 unfold spec_l01Byte.f at H
 clear h
 by_cases c2 : s0_1 < (s0_0.length : Int)
 rotate_left
 ·rw [if_neg c2] at H
  have c2b0 := decide_eq_false c2
  clear c2
  simp only [Option.some.injEq, Prod.mk.injEq] at H
  obtain ⟨rfl, rfl, rfl⟩ := H
  obtain ⟨ASz5_0, cSz5_0, HGz5, hgz5, HSz5_0⟩ := HI0.out
  have hcz5_0 := cellS100_0 HGz5
  have hcz5_1 := cellS100_1 HGz5
  have hcz5_2 := cellS100_2 HGz5
  have hfz5_1 := blk_frozen HGz5 1
  have hfz5_2 := blk_frozen HGz5 2
  clear HGz5 hgz5
  go_enter Tryd.func94, Tryd.ntmps94
  go_wp2
  repeat (go_quiet (fail); try go_wp2)
  go_ret
  exact ⟨er_, is0_, bi0_, hkx_⟩
 rw [if_pos c2] at H
 have c2b0 := decide_eq_true c2
 clear c2
 by_cases c3 : 0 ≤ s0_1
 rotate_left
 ·exact nn_ c3 H
 rw [if_pos c3] at H
 have c3b0 := decide_eq_true c3
 clear c3
 simp only [Option.some.injEq, Prod.mk.injEq] at H
 obtain ⟨rfl, rfl, rfl⟩ := H
 obtain ⟨ASz4_0, cSz4_0, HGz4, hgz4, HSz4_0⟩ := HI0.out
 have hcz4_0 := cellS100_0 HGz4
 have hcz4_1 := cellS100_1 HGz4
 have hcz4_2 := cellS100_2 HGz4
 have hfz4_1 := blk_frozen HGz4 1
 have hfz4_2 := blk_frozen HGz4 2
 clear HGz4 hgz4
 have p104 : 0 ≤ (s0_1 : Int) := of_decide_eq_true as_
 have q104 : s0_1 < (s0_0.length : Int) := of_decide_eq_true as_
 obtain ⟨ad104, e104, hx104_0⟩ := Kd.at_int HSz4_0 s0_1 p104 q104
 cases e104
 have hn104_0 : ad104.block ≠ g := Nat.ne_of_lt (Nat.lt_of_lt_of_le (by have := World.block_lt_of_cell? _ _ hx104_0; first | rwa [add_block] at this | exact this) (IsS100.ge HI0.out))
 replace hx104_0 := pw_cell_below HB.out hx104_0
 replace hx104_0 := (cell_far (p := ⟨g, 2, none⟩) (by first | (rw [add_block]; exact hn104_0) | (show (Addr.add _ _).block ≠ _; rw [add_block]; exact hn104_0) | exact hn104_0) (.int .i64 (wrap64 ((wrap64 (s0_2 * 6364136223846793005)) + 1442695040888963407)))).trans hx104_0
 (try have hy104_0 := fun (n_ : Nat) => (show (((w.drewN n_).setCell ⟨g, 2, none⟩ (.int .i64 (wrap64 ((wrap64 (s0_2 * 6364136223846793005)) + 1442695040888963407))))).cell? _ = some _ from hx104_0))
 clear hn104_0
 replace p104 := eq_true p104
 replace q104 := eq_true q104
 go_enter Tryd.func94, Tryd.ntmps94
 go_wp2
 repeat (go_quiet (fail); try go_wp2)
 go_ret
 exact ⟨er_, is0_, bi0_, hkx_⟩


def spec_l01Below.f (s0_0 : List Int) (s0_1 : Int) (s0_2 : Int) (a1 : Int) : Option (Int × Int × Int) := if a1 ≤ 0 then (some (0, s0_1, s0_2)) else (if a1 ≤ 256 then ((spec_l01Byte.f s0_0 s0_1 s0_2).bind fun bt105 => (if a1 = 0 then (none) else (some (Int.tmod bt105.1 a1, bt105.2.1, bt105.2.2)))) else ((spec_l01Byte.f s0_0 s0_1 s0_2).bind fun bt108 => ((spec_l01Byte.f s0_0 bt108.2.1 bt108.2.2).bind fun bt111 => ((spec_l01Byte.f s0_0 bt111.2.1 bt111.2.2).bind fun bt114 => ((spec_l01Byte.f s0_0 bt114.2.1 bt114.2.2).bind fun bt117 => (if a1 = 0 then (none) else (some (Int.tmod (wrap64 ((wrap64 ((wrap64 ((wrap64 (bt108.1 * 16777216)) + (wrap64 (bt111.1 * 65536)))) + (wrap64 (bt114.1 * 256)))) + bt117.1)) a1, bt117.2.1, bt117.2.2))))))))
theorem spec_l01Below.calls (g : Nat) (s0_0 : List Int) (s0_1 : Int) (s0_2 : Int) (a1 : Int) (r1 : Int) (r2 : Int) (r3 : Int) (w0 w : World) (hI : IsS100 w0 w g s0_0 s0_1 s0_2) (hB : Below w0.heap.size w0 w) (h : spec_l01Below.f s0_0 s0_1 s0_2 a1 = some (r1, r2, r3)) :
 Calls Tryd.prog 64 #[.pointer (some ⟨g, 0, none⟩), .int .i64 a1] w fun e w' => e = .returned (.int .i64 r1) ∧ IsS100 w0 w' g s0_0 r2 r3 ∧ Below w0.heap.size w0 w' ∧ KeepBut w w' g none := by
 have HI0 := Aside0.mk hI
 have HK := Aside0.mk (KeepBut.refl w g none)
 have HL := Aside0.mk hB.size
 clear hI
 have HW0 := Aside0.mk hB.size
 have HB := Aside0.mk hB
 clear hB
 have H := h
 unfold spec_l01Below.f at H
 clear h
 by_cases c3 : a1 ≤ 0
 ·rw [if_pos c3] at H
  have c3b0 := decide_eq_true c3
  clear c3
  simp only [Option.some.injEq, Prod.mk.injEq] at H
  obtain ⟨rfl, rfl, rfl⟩ := H
  go_enter Tryd.func64, Tryd.ntmps64
  go_wp2
  go_ret
  exact ⟨er_, is0_, bi0_, hkx_⟩
 rw [if_neg c3] at H
 have c3b0 := decide_eq_false c3
 clear c3
 by_cases c4 : a1 ≤ 256
 ·rw [if_pos c4] at H
  have c4b0 := decide_eq_true c4
  clear c4
  replace H := bs_ H
  obtain ⟨⟨t105, t106, t107⟩, A5, H⟩ := H
  try dsimp only at H
  by_cases c6 : a1 = 0
  ·exact np_ c6 H
  rw [if_neg c6] at H
  have c6b0 : (a1 == 0) = false := beq_eq_false_iff_ne.mpr c6
  have c6b1 : (a1 != 0) = true := bne_iff_ne.mpr c6
  simp only [Option.some.injEq, Prod.mk.injEq] at H
  obtain ⟨rfl, rfl, rfl⟩ := H
  go_enter Tryd.func64, Tryd.ntmps64
  go_wp2_with (first | ((with_reducible refine gate_callee (f := 94) rfl ?_); refine gs_ (some 14) Tryd.func94 #[.pointer (some ⟨g, 0, none⟩)] ?_; (with_reducible refine (spec_l01Byte.calls g s0_0 s0_1 s0_2 t105 t106 t107 w0 _ ?side1 ?side2 A5.out).mono ?_); (case side1 => exact is0_); (case side2 => exact bi0_); rintro e w7 ⟨rfl, hi, hb, hk⟩; refine ⟨_, rfl, ?_⟩; replace HK := Aside0.mk (KeepBut.trans hkx_ hk (.inl rfl)); replace HB := Aside0.mk (hb); replace HI0 := Aside0.mk (hi); (try clear hb); (try clear hk); (try clear hi)))
  go_ret
  exact ⟨er_, is0_, bi0_, hkx_⟩
 rw [if_neg c4] at H
 have c4b0 := decide_eq_false c4
 clear c4
 replace H := bs_ H
 obtain ⟨⟨t108, t109, t110⟩, A8, H⟩ := H
 try dsimp only at H
 replace H := bs_ H
 obtain ⟨⟨t111, t112, t113⟩, A9, H⟩ := H
 try dsimp only at H
 replace H := bs_ H
 obtain ⟨⟨t114, t115, t116⟩, A10, H⟩ := H
 try dsimp only at H
 replace H := bs_ H
 obtain ⟨⟨t117, t118, t119⟩, A11, H⟩ := H
 try dsimp only at H
 by_cases c12 : a1 = 0
 ·exact np_ c12 H
 rw [if_neg c12] at H
 have c12b0 : (a1 == 0) = false := beq_eq_false_iff_ne.mpr c12
 have c12b1 : (a1 != 0) = true := bne_iff_ne.mpr c12
 simp only [Option.some.injEq, Prod.mk.injEq] at H
 obtain ⟨rfl, rfl, rfl⟩ := H
 go_enter Tryd.func64, Tryd.ntmps64
 go_wp2_with (first | ((with_reducible refine gate_callee (f := 94) rfl ?_); refine gs_ (some 18) Tryd.func94 #[.pointer (some ⟨g, 0, none⟩)] ?_; (with_reducible refine (spec_l01Byte.calls g s0_0 s0_1 s0_2 t108 t109 t110 w0 _ ?side1 ?side2 A8.out).mono ?_); (case side1 => exact is0_); (case side2 => exact bi0_); rintro e w13 ⟨rfl, hi, hb, hk⟩; refine ⟨_, rfl, ?_⟩; replace HK := Aside0.mk (KeepBut.trans hkx_ hk (.inl rfl)); replace HB := Aside0.mk (hb); replace HI0 := Aside0.mk (hi); (try clear hb); (try clear hk); (try clear hi)) | ((with_reducible refine gate_callee (f := 94) rfl ?_); refine gs_ (some 20) Tryd.func94 #[.pointer (some ⟨g, 0, none⟩)] ?_; (with_reducible refine (spec_l01Byte.calls g s0_0 t109 t110 t111 t112 t113 w0 _ ?side1 ?side2 A9.out).mono ?_); (case side1 => exact is0_); (case side2 => exact bi0_); rintro e w14 ⟨rfl, hi, hb, hk⟩; refine ⟨_, rfl, ?_⟩; replace HK := Aside0.mk (KeepBut.trans hkx_ hk (.inl rfl)); replace HB := Aside0.mk (hb); replace HI0 := Aside0.mk (hi); (try clear hb); (try clear hk); (try clear hi)) | ((with_reducible refine gate_callee (f := 94) rfl ?_); refine gs_ (some 22) Tryd.func94 #[.pointer (some ⟨g, 0, none⟩)] ?_; (with_reducible refine (spec_l01Byte.calls g s0_0 t112 t113 t114 t115 t116 w0 _ ?side1 ?side2 A10.out).mono ?_); (case side1 => exact is0_); (case side2 => exact bi0_); rintro e w15 ⟨rfl, hi, hb, hk⟩; refine ⟨_, rfl, ?_⟩; replace HK := Aside0.mk (KeepBut.trans hkx_ hk (.inl rfl)); replace HB := Aside0.mk (hb); replace HI0 := Aside0.mk (hi); (try clear hb); (try clear hk); (try clear hi)) | ((with_reducible refine gate_callee (f := 94) rfl ?_); refine gs_ (some 24) Tryd.func94 #[.pointer (some ⟨g, 0, none⟩)] ?_; (with_reducible refine (spec_l01Byte.calls g s0_0 t115 t116 t117 t118 t119 w0 _ ?side1 ?side2 A11.out).mono ?_); (case side1 => exact is0_); (case side2 => exact bi0_); rintro e w16 ⟨rfl, hi, hb, hk⟩; refine ⟨_, rfl, ?_⟩; replace HK := Aside0.mk (KeepBut.trans hkx_ hk (.inl rfl)); replace HB := Aside0.mk (hb); replace HI0 := Aside0.mk (hi); (try clear hb); (try clear hk); (try clear hi)))
 go_ret
 exact ⟨er_, is0_, bi0_, hkx_⟩


def spec_l01Once.f (s0_0 : List Int) (s0_1 : Int) (s0_2 : Int) (a1 : Int) : Option (Bool × Int × Int) := (spec_l01Below.f s0_0 s0_1 s0_2 a1).bind fun bt120 => (some ((bt120.1 == 0), bt120.2.1, bt120.2.2))
theorem spec_l01Once.calls (g : Nat) (s0_0 : List Int) (s0_1 : Int) (s0_2 : Int) (a1 : Int) (r1 : Bool) (r2 : Int) (r3 : Int) (w0 w : World) (hI : IsS100 w0 w g s0_0 s0_1 s0_2) (hB : Below w0.heap.size w0 w) (h : spec_l01Once.f s0_0 s0_1 s0_2 a1 = some (r1, r2, r3)) :
 Calls Tryd.prog 87 #[.pointer (some ⟨g, 0, none⟩), .int .i64 a1] w fun e w' => e = .returned (.bool r1) ∧ IsS100 w0 w' g s0_0 r2 r3 ∧ Below w0.heap.size w0 w' ∧ KeepBut w w' g none := by
 have HI0 := Aside0.mk hI
 have HK := Aside0.mk (KeepBut.refl w g none)
 have HL := Aside0.mk hB.size
 clear hI
 have HW0 := Aside0.mk hB.size
 have HB := Aside0.mk hB
 clear hB
 have H := h
 unfold spec_l01Once.f at H
 clear h
 replace H := bs_ H
 obtain ⟨⟨t120, t121, t122⟩, A3, H⟩ := H
 try dsimp only at H
 simp only [Option.some.injEq, Prod.mk.injEq] at H
 obtain ⟨rfl, rfl, rfl⟩ := H
 go_enter Tryd.func87, Tryd.ntmps87
 go_wp2_with (first | ((with_reducible refine gate_callee (f := 64) rfl ?_); refine gs_ (some 7) Tryd.func64 #[.pointer (some ⟨g, 0, none⟩), .int .i64 a1] ?_; (with_reducible refine (spec_l01Below.calls g s0_0 s0_1 s0_2 a1 t120 t121 t122 w0 _ ?side1 ?side2 A3.out).mono ?_); (case side1 => exact is0_); (case side2 => exact bi0_); rintro e w4 ⟨rfl, hi, hb, hk⟩; refine ⟨_, rfl, ?_⟩; replace HK := Aside0.mk (KeepBut.trans hkx_ hk (.inl rfl)); replace HB := Aside0.mk (hb); replace HI0 := Aside0.mk (hi); (try clear hb); (try clear hk); (try clear hi)))
 go_ret
 exact ⟨er_, is0_, bi0_, hkx_⟩


def spec_l01PickInt.f (s0_0 : List Int) (s0_1 : Int) (s0_2 : Int) (l1 : List Int) : Option (Int × Int × Int) := (spec_l01Below.f s0_0 s0_1 s0_2 (l1.length : Int)).bind fun bt123 => (if 0 ≤ bt123.1 then (if bt123.1 < (l1.length : Int) then (some (rd l1 bt123.1, bt123.2.1, bt123.2.2)) else (none)) else (none))
theorem spec_l01PickInt.calls (g : Nat) (s0_0 : List Int) (s0_1 : Int) (s0_2 : Int) (A1 : Option Addr) (c1 : Nat) (l1 : List Int) (r1 : Int) (r2 : Int) (r3 : Int) (w0 w : World) (hI : IsS100 w0 w g s0_0 s0_1 s0_2) (hB : Below w0.heap.size w0 w) (hr1 : Kd.C (Kd.int .i64) w A1 l1.length l1) (hc1 : l1.length ≤ c1) (hf1 : ∀ ad, A1 = some ad → 0 < l1.length → ad.block ≠ g) (h : spec_l01PickInt.f s0_0 s0_1 s0_2 l1 = some (r1, r2, r3)) :
 Calls Tryd.prog 81 #[.pointer (some ⟨g, 0, none⟩), .slice A1 l1.length c1] w fun e w' => e = .returned (.int .i64 r1) ∧ IsS100 w0 w' g s0_0 r2 r3 ∧ Below w0.heap.size w0 w' ∧ KeepBut w w' g none := by
 have HR1 := Aside0.mk hr1
 have HC1 := Aside0.mk hc1
 clear hr1 hc1
 have HI0 := Aside0.mk hI
 have HK := Aside0.mk (KeepBut.refl w g none)
 have HL := Aside0.mk hB.size
 clear hI
 have HW0 := Aside0.mk hB.size
 have HB := Aside0.mk hB
 clear hB
 have H := h
 unfold spec_l01PickInt.f at H
 clear h
 replace H := bs_ H
 obtain ⟨⟨t123, t124, t125⟩, A3, H⟩ := H
 try dsimp only at H
 by_cases c4 : 0 ≤ t123
 rotate_left
 ·exact nn_ c4 H
 rw [if_pos c4] at H
 have c4b0 := decide_eq_true c4
 clear c4
 by_cases c5 : t123 < (l1.length : Int)
 rotate_left
 ·exact nn_ c5 H
 rw [if_pos c5] at H
 have c5b0 := decide_eq_true c5
 clear c5
 simp only [Option.some.injEq, Prod.mk.injEq] at H
 obtain ⟨rfl, rfl, rfl⟩ := H
 go_enter Tryd.func81, Tryd.ntmps81
 go_wp2_with (first | ((with_reducible refine gate_callee (f := 64) rfl ?_); refine gs_ (some 9) Tryd.func64 #[.pointer (some ⟨g, 0, none⟩), .int .i64 (l1.length : Int)] ?_; (with_reducible refine (spec_l01Below.calls g s0_0 s0_1 s0_2 (l1.length : Int) t123 t124 t125 w0 _ ?side1 ?side2 A3.out).mono ?_); (case side1 => exact is0_); (case side2 => exact bi0_); rintro e w6 ⟨rfl, hi, hb, hk⟩; refine ⟨_, rfl, ?_⟩; replace HK := Aside0.mk (KeepBut.trans hkx_ hk (.inl rfl)); replace HB := Aside0.mk (hb); replace HI0 := Aside0.mk (hi); (try clear hb); (try clear hk); (try clear hi); have p126 : 0 ≤ (t123 : Int) := of_decide_eq_true as_; have q126 : t123 < (l1.length : Int) := of_decide_eq_true as_; obtain ⟨ad126, e126, hx126_0⟩ := Kd.at_int HR1.out t123 p126 q126; cases e126; replace hx126_0 := keep_cell HK.out hx126_0 (by first | (rw [add_block]; exact hf1 _ rfl (by omega)) | exact hf1 _ rfl (by omega) | exact hf1 ad126 rfl (by omega)); replace p126 := eq_true p126; replace q126 := eq_true q126))
 go_ret
 exact ⟨er_, is0_, bi0_, hkx_⟩


def spec_l04Half.f (s0_0 : List Int) (s0_1 : Int) (s0_2 : Int) : Option (Int × Int × Int) := (spec_l01Below.f s0_0 s0_1 s0_2 12).bind fun bt127 => ((spec_l01PickInt.f s0_0 bt127.2.1 bt127.2.2 (([0, 1, 2, 3, 5, 7, 255, 4294967295, 2147483648, bt127.1] : List Int))).bind fun bt133 => (some (bt133.1, bt133.2.1, bt133.2.2)))
theorem spec_l04Half.calls (g : Nat) (s0_0 : List Int) (s0_1 : Int) (s0_2 : Int) (r1 : Int) (r2 : Int) (r3 : Int) (w0 w : World) (hI : IsS100 w0 w g s0_0 s0_1 s0_2) (hB : Below w0.heap.size w0 w) (h : spec_l04Half.f s0_0 s0_1 s0_2 = some (r1, r2, r3)) :
 Calls Tryd.prog 123 #[.pointer (some ⟨g, 0, none⟩)] w fun e w' => e = .returned (.int .i64 r1) ∧ IsS100 w0 w' g s0_0 r2 r3 ∧ Below w0.heap.size w0 w' ∧ KeepBut w w' g none := by
 have HI0 := Aside0.mk hI
 have HK := Aside0.mk (KeepBut.refl w g none)
 have HL := Aside0.mk hB.size
 clear hI
 have HW0 := Aside0.mk hB.size
 have HB := Aside0.mk hB
 clear hB
 have H := h
 unfold spec_l04Half.f at H
 clear h
 replace H := bs_ H
 obtain ⟨⟨t127, t128, t129⟩, A2, H⟩ := H
 try dsimp only at H
 obtain ⟨y130, hy130⟩ : ∃ y_ : List Int, y_ = (([0, 1, 2, 3, 5, 7, 255, 4294967295, 2147483648, t127] : List Int)) := ⟨_, rfl⟩
 replace H : ((spec_l01PickInt.f s0_0 t128 t129 y130).bind fun bt133 => (some (bt133.1, bt133.2.1, bt133.2.2))) = some (r1, r2, r3) := rp_ H hy130
 have Ny130 := Aside0.mk hy130
 clear hy130
 replace H := bs_ H
 obtain ⟨⟨t133, t134, t135⟩, A3, H⟩ := H
 try dsimp only at H
 simp only [Option.some.injEq, Prod.mk.injEq] at H
 obtain ⟨rfl, rfl, rfl⟩ := H
 go_enter Tryd.func123, Tryd.ntmps123
 go_wp2_with (first | ((with_reducible refine gate_callee (f := 64) rfl ?_); refine gs_ (some 5) Tryd.func64 #[.pointer (some ⟨g, 0, none⟩), .int .i64 12] ?_; (with_reducible refine (spec_l01Below.calls g s0_0 s0_1 s0_2 12 t127 t128 t129 w0 _ ?side1 ?side2 A2.out).mono ?_); (case side1 => exact is0_); (case side2 => exact bi0_); rintro e w4 ⟨rfl, hi, hb, hk⟩; refine ⟨_, rfl, ?_⟩; replace HK := Aside0.mk (KeepBut.trans hkx_ hk (.inl rfl)); replace HB := Aside0.mk (hb); replace HI0 := Aside0.mk (hi); (try clear hb); (try clear hk); (try clear hi)) | ((with_reducible refine gate_dst (N := 6) rfl ?_); refine Kd.R_lit (Kd.int .i64) _ 3 ?hg (N := 6) ?hd (xs := ([0, 1, 2, 3, 5, 7, 255, 4294967295, 2147483648, t127] : List Int)) (inner := [.int .i64 0, .int .i64 1, .int .i64 2, .int .i64 3, .int .i64 5, .int .i64 7, .int .i64 255, .int .i64 4294967295, .int .i64 2147483648, .int .i64 t127]) (ok := fun _ => True) (okp := fun _ => True) ?hr ?hp (fun _ hk => hk) trivial (Below.refl _ _) (Nat.le_refl _) (by simp) ?_; (case hd => rfl); (case hg => rfl); (case hr => first | (go_simp; done) | (go_simp; rfl)); (case hp => exact (Reps.one (show Kd.M (Kd.int .i64) _ _ _ 0 [.int .i64 0] from rfl) (Reps.one (show Kd.M (Kd.int .i64) _ _ _ 1 [.int .i64 1] from rfl) (Reps.one (show Kd.M (Kd.int .i64) _ _ _ 2 [.int .i64 2] from rfl) (Reps.one (show Kd.M (Kd.int .i64) _ _ _ 3 [.int .i64 3] from rfl) (Reps.one (show Kd.M (Kd.int .i64) _ _ _ 5 [.int .i64 5] from rfl) (Reps.one (show Kd.M (Kd.int .i64) _ _ _ 7 [.int .i64 7] from rfl) (Reps.one (show Kd.M (Kd.int .i64) _ _ _ 255 [.int .i64 255] from rfl) (Reps.one (show Kd.M (Kd.int .i64) _ _ _ 4294967295 [.int .i64 4294967295] from rfl) (Reps.one (show Kd.M (Kd.int .i64) _ _ _ 2147483648 [.int .i64 2147483648] from rfl) (Reps.one (show Kd.M (Kd.int .i64) _ _ _ t127 [.int .i64 t127] from rfl) (Reps.none _ _)))))))))))); intro v131 w5 ho6 hb hg_ hnew_; clear hg_ hnew_; (first | rw [← Ny130.out] at ho6 | (simp only [Int.reduceToNat] at ho6; rw [← Ny130.out] at ho6)); have HO132 := Aside0.mk (Kd.R_lower ho6 (keep_size (w := w) (g := g) (row := none) hkx_)); replace HK := Aside0.mk (KeepBut.trans hkx_ (KeepBut.of_below hb g none) (.inl rfl)); replace HB := Aside0.mk (below_step bi0_ hb); replace HI0 := Aside0.mk (IsS100.below is0_ hb); clear hb ho6; obtain ⟨Ao7, co7, eo7⟩ := Kd.R_slice HO132.out; subst eo7) | ((with_reducible refine gate_callee (f := 81) rfl ?_); refine gs_ (some 7) Tryd.func81 #[.pointer (some ⟨g, 0, none⟩), .slice Ao7 y130.length co7] ?_; (with_reducible refine (spec_l01PickInt.calls g s0_0 t128 t129 _ _ y130 t133 t134 t135 w0 _ ?side1 ?side2 ?side3 ?side4 ?side5 A3.out).mono ?_); (case side1 => exact is0_); (case side2 => exact bi0_); (case side3 => exact cs_ ((Kd.R_reads' HO132.out).2.2)); (case side4 => exact (Kd.R_reads' HO132.out).2.1); (case side5 => exact far_slice (IsS100.own_ne HI0.out HO132.out (by decide))); rintro e w8 ⟨rfl, hi, hb, hk⟩; refine ⟨_, rfl, ?_⟩; replace HO132 := Aside0.mk (Kd.R_mono (Kd.R_keep (IsS100.apart (show IsS100 w0 _ g s0_0 t128 t129 from is0_) (ra_ HO132.out) (by decide)) hk (fun _ h => h.2)) (fun _ h => h.1)); replace HK := Aside0.mk (KeepBut.trans hkx_ hk (.inl rfl)); replace HB := Aside0.mk (hb); replace HI0 := Aside0.mk (hi); (try clear hb); (try clear hk); (try clear hi)))
 go_ret
 exact ⟨er_, is0_, bi0_, hkx_⟩


def spec_l17Item.f (s0_0 : List Int) (s0_1 : Int) (s0_2 : Int) : Option (Int × Int × Int × Int × Int × Int) := (spec_l01Once.f s0_0 s0_1 s0_2 3).bind fun bt137 => (if bt137.1 = true then ((spec_l01Below.f s0_0 bt137.2.1 bt137.2.2 5).bind fun bt140 => (some (2, 0, 0, wrap64 (1 + bt140.1), bt140.2.1, bt140.2.2))) else ((spec_l01Below.f s0_0 bt137.2.1 bt137.2.2 9).bind fun bt143 => ((spec_l04Half.f s0_0 bt143.2.1 bt143.2.2).bind fun bt146 => (some (1, bt143.1, bt146.1, 0, bt146.2.1, bt146.2.2)))))
theorem spec_l17Item.calls (g : Nat) (s0_0 : List Int) (s0_1 : Int) (s0_2 : Int) (r1 : Int) (r2 : Int) (r3 : Int) (r4 : Int) (r5 : Int) (r6 : Int) (w0 w : World) (hI : IsS100 w0 w g s0_0 s0_1 s0_2) (hB : Below w0.heap.size w0 w) (h : spec_l17Item.f s0_0 s0_1 s0_2 = some (r1, r2, r3, r4, r5, r6)) :
 Calls Tryd.prog 114 #[.pointer (some ⟨g, 0, none⟩)] w fun e w' => e = .returned (.agg #[.int .i64 r1, .int .i64 r2, .int .i64 r3, .int .i64 r4]) ∧ IsS100 w0 w' g s0_0 r5 r6 ∧ Below w0.heap.size w0 w' ∧ KeepBut w w' g none := by
 have hu25 := Tryd.underlying25
 have HI0 := Aside0.mk hI
 have HK := Aside0.mk (KeepBut.refl w g none)
 have HL := Aside0.mk hB.size
 clear hI
 have HW0 := Aside0.mk hB.size
 have HB := Aside0.mk hB
 clear hB
 have H := h
 unfold spec_l17Item.f at H
 clear h
 replace H := bs_ H
 obtain ⟨⟨t137, t138, t139⟩, A2, H⟩ := H
 try dsimp only at H
 by_cases c3 : t137 = true
 ·subst c3
  rw [if_pos rfl] at H
  replace H := bs_ H
  obtain ⟨⟨t140, t141, t142⟩, A4, H⟩ := H
  try dsimp only at H
  simp only [Option.some.injEq, Prod.mk.injEq] at H
  obtain ⟨rfl, rfl, rfl, rfl, rfl, rfl⟩ := H
  go_enter Tryd.func114, Tryd.ntmps114
  go_wp2_with (first | ((with_reducible refine gate_dst (N := 2) rfl ?_); refine bx_ 2 25 #[.int .i64 0, .int .i64 0, .int .i64 0, .int .i64 0] ?_; intro gb136 hg w5 hbox hb; replace HB := Aside0.mk (below_step bi0_ hb); have BK136 := Aside0.mk (hbox); have GW136 := Aside0.mk ((by rw [hg]; exact (keep_size (w := w) (g := g) (row := none) hkx_) : w.heap.size ≤ gb136)); have GE136 := Aside0.mk ((Nat.le_trans HW0.out (by rw [hg]; exact (keep_size (w := w) (g := g) (row := none) hkx_) : w.heap.size ≤ gb136) : w0.heap.size ≤ gb136)); replace HK := Aside0.mk (KeepBut.trans hkx_ (KeepBut.of_below hb g none) (.inl rfl)); have NB0_136 := Aside0.mk ((by rw [hg]; exact Nat.ne_of_lt (IsS100.lt (show IsS100 w0 _ g s0_0 s0_1 s0_2 from is0_)) : g ≠ gb136)); have NB136_0 := Aside0.mk ((by rw [hg]; exact Nat.ne_of_gt (IsS100.lt (show IsS100 w0 _ g s0_0 s0_1 s0_2 from is0_)) : gb136 ≠ g)); replace HI0 := Aside0.mk (IsS100.below is0_ hb); clear hb hbox hg) | ((with_reducible refine gate_callee (f := 87) rfl ?_); refine gs_ (some 4) Tryd.func87 #[.pointer (some ⟨g, 0, none⟩), .int .i64 3] ?_; (with_reducible refine (spec_l01Once.calls g s0_0 s0_1 s0_2 3 true t138 t139 w0 _ ?side1 ?side2 A2.out).mono ?_); (case side1 => exact is0_); (case side2 => exact bi0_); rintro e w6 ⟨rfl, hi, hb, hk⟩; refine ⟨_, rfl, ?_⟩; replace BK136 := Aside0.mk (KeepBut.blk hk (g' := gb136) (o := .cells #[.int .i64 0, .int .i64 0, .int .i64 0, .int .i64 0] 25 (0, 0)) (bk_ BK136.out) NB136_0.out (by simp)); replace HK := Aside0.mk (KeepBut.trans (by repeat (first | (with_reducible first | exact HK.out | apply KeepBut.set_ | apply keep_drewN | apply keep_drew | apply keep_alloc | refine keep_far ?_ GW136.out _) | exact HK.out)) hk (.inl rfl)); replace HB := Aside0.mk (hb); replace HI0 := Aside0.mk (hi); (try clear hb); (try clear hk); (try clear hi)) | ((with_reducible refine gate_callee (f := 64) rfl ?_); refine gs_ (some 6) Tryd.func64 #[.pointer (some ⟨g, 0, none⟩), .int .i64 5] ?_; (with_reducible refine (spec_l01Below.calls g s0_0 t138 t139 5 t140 t141 t142 w0 _ ?side1 ?side2 A4.out).mono ?_); (case side1 => exact is0_); (case side2 => exact bi0_); rintro e w7 ⟨rfl, hi, hb, hk⟩; refine ⟨_, rfl, ?_⟩; replace BK136 := Aside0.mk (KeepBut.blk hk (g' := gb136) (o := .cells #[.int .i64 0, .int .i64 0, .int .i64 0, .int .i64 0] 25 (0, 0)) (bk_ BK136.out) NB136_0.out (by simp)); replace HK := Aside0.mk (KeepBut.trans (by repeat (first | (with_reducible first | exact HK.out | apply KeepBut.set_ | apply keep_drewN | apply keep_drew | apply keep_alloc | refine keep_far ?_ GW136.out _) | exact HK.out)) hk (.inl rfl)); replace HB := Aside0.mk (hb); replace HI0 := Aside0.mk (hi); (try clear hb); (try clear hk); (try clear hi); have hnb8 := NB136_0.out; have hnc8 := NB0_136.out; obtain ⟨hcz9_0, hcz9_1, hcz9_2, hcz9_3, hfz9_0, hfz9_1, hfz9_2, hfz9_3⟩ := cf4_ BK136.out))
  refine bodyPost_ret (results_cell_row rfl _ _ gb136 25 #[.int .i64 2, .int .i64 0, .int .i64 0, .int .i64 (wrap64 (1 + t140))] (0, 0) _ rfl (bp0_ BK136.out) Tryd.underlying25 rfl (by kernel_rfl)) rfl ?_
  exact ⟨er_, is0_, bi0_, hkx_⟩
 replace c3 := Bool.eq_false_iff.mpr c3
 subst c3
 rw [nf_] at H
 replace H := bs_ H
 obtain ⟨⟨t143, t144, t145⟩, A10, H⟩ := H
 try dsimp only at H
 replace H := bs_ H
 obtain ⟨⟨t146, t147, t148⟩, A11, H⟩ := H
 try dsimp only at H
 simp only [Option.some.injEq, Prod.mk.injEq] at H
 obtain ⟨rfl, rfl, rfl, rfl, rfl, rfl⟩ := H
 go_enter Tryd.func114, Tryd.ntmps114
 go_wp2_with (first | ((with_reducible refine gate_dst (N := 2) rfl ?_); refine bx_ 2 25 #[.int .i64 0, .int .i64 0, .int .i64 0, .int .i64 0] ?_; intro gb136 hg w12 hbox hb; replace HB := Aside0.mk (below_step bi0_ hb); have BK136 := Aside0.mk (hbox); have GW136 := Aside0.mk ((by rw [hg]; exact (keep_size (w := w) (g := g) (row := none) hkx_) : w.heap.size ≤ gb136)); have GE136 := Aside0.mk ((Nat.le_trans HW0.out (by rw [hg]; exact (keep_size (w := w) (g := g) (row := none) hkx_) : w.heap.size ≤ gb136) : w0.heap.size ≤ gb136)); replace HK := Aside0.mk (KeepBut.trans hkx_ (KeepBut.of_below hb g none) (.inl rfl)); have NB0_136 := Aside0.mk ((by rw [hg]; exact Nat.ne_of_lt (IsS100.lt (show IsS100 w0 _ g s0_0 s0_1 s0_2 from is0_)) : g ≠ gb136)); have NB136_0 := Aside0.mk ((by rw [hg]; exact Nat.ne_of_gt (IsS100.lt (show IsS100 w0 _ g s0_0 s0_1 s0_2 from is0_)) : gb136 ≠ g)); replace HI0 := Aside0.mk (IsS100.below is0_ hb); clear hb hbox hg) | ((with_reducible refine gate_callee (f := 87) rfl ?_); refine gs_ (some 4) Tryd.func87 #[.pointer (some ⟨g, 0, none⟩), .int .i64 3] ?_; (with_reducible refine (spec_l01Once.calls g s0_0 s0_1 s0_2 3 false t138 t139 w0 _ ?side1 ?side2 A2.out).mono ?_); (case side1 => exact is0_); (case side2 => exact bi0_); rintro e w13 ⟨rfl, hi, hb, hk⟩; refine ⟨_, rfl, ?_⟩; replace BK136 := Aside0.mk (KeepBut.blk hk (g' := gb136) (o := .cells #[.int .i64 0, .int .i64 0, .int .i64 0, .int .i64 0] 25 (0, 0)) (bk_ BK136.out) NB136_0.out (by simp)); replace HK := Aside0.mk (KeepBut.trans (by repeat (first | (with_reducible first | exact HK.out | apply KeepBut.set_ | apply keep_drewN | apply keep_drew | apply keep_alloc | refine keep_far ?_ GW136.out _) | exact HK.out)) hk (.inl rfl)); replace HB := Aside0.mk (hb); replace HI0 := Aside0.mk (hi); (try clear hb); (try clear hk); (try clear hi)) | ((with_reducible refine gate_callee (f := 64) rfl ?_); refine gs_ (some 10) Tryd.func64 #[.pointer (some ⟨g, 0, none⟩), .int .i64 9] ?_; (with_reducible refine (spec_l01Below.calls g s0_0 t138 t139 9 t143 t144 t145 w0 _ ?side1 ?side2 A10.out).mono ?_); (case side1 => exact is0_); (case side2 => exact bi0_); rintro e w14 ⟨rfl, hi, hb, hk⟩; refine ⟨_, rfl, ?_⟩; replace BK136 := Aside0.mk (KeepBut.blk hk (g' := gb136) (o := .cells #[.int .i64 0, .int .i64 0, .int .i64 0, .int .i64 0] 25 (0, 0)) (bk_ BK136.out) NB136_0.out (by simp)); replace HK := Aside0.mk (KeepBut.trans (by repeat (first | (with_reducible first | exact HK.out | apply KeepBut.set_ | apply keep_drewN | apply keep_drew | apply keep_alloc | refine keep_far ?_ GW136.out _) | exact HK.out)) hk (.inl rfl)); replace HB := Aside0.mk (hb); replace HI0 := Aside0.mk (hi); (try clear hb); (try clear hk); (try clear hi)) | ((with_reducible refine gate_callee (f := 123) rfl ?_); refine gs_ (some 12) Tryd.func123 #[.pointer (some ⟨g, 0, none⟩)] ?_; (with_reducible refine (spec_l04Half.calls g s0_0 t144 t145 t146 t147 t148 w0 _ ?side1 ?side2 A11.out).mono ?_); (case side1 => exact is0_); (case side2 => exact bi0_); rintro e w15 ⟨rfl, hi, hb, hk⟩; refine ⟨_, rfl, ?_⟩; replace BK136 := Aside0.mk (KeepBut.blk hk (g' := gb136) (o := .cells #[.int .i64 0, .int .i64 0, .int .i64 0, .int .i64 0] 25 (0, 0)) (bk_ BK136.out) NB136_0.out (by simp)); replace HK := Aside0.mk (KeepBut.trans (by repeat (first | (with_reducible first | exact HK.out | apply KeepBut.set_ | apply keep_drewN | apply keep_drew | apply keep_alloc | refine keep_far ?_ GW136.out _) | exact HK.out)) hk (.inl rfl)); replace HB := Aside0.mk (hb); replace HI0 := Aside0.mk (hi); (try clear hb); (try clear hk); (try clear hi); have hnb16 := NB136_0.out; have hnc16 := NB0_136.out; obtain ⟨hcz17_0, hcz17_1, hcz17_2, hcz17_3, hfz17_0, hfz17_1, hfz17_2, hfz17_3⟩ := cf4_ BK136.out))
 refine bodyPost_ret (results_cell_row rfl _ _ gb136 25 #[.int .i64 1, .int .i64 t143, .int .i64 t146, .int .i64 0] (0, 0) _ rfl (bp0_ BK136.out) Tryd.underlying25 rfl (by kernel_rfl)) rfl ?_
 exact ⟨er_, is0_, bi0_, hkx_⟩

end Go.Proofs.YtdlapahfmfhbjaaDoor.PA
