/- Contracts of functions of the program and of the reference, and plain lemmas on what they compute. No condition. -/
import Derived.Test.YtdhjolglbcoijaaDoorG88178x0
import Derived.Test.YtdhjolglbcoijaaDoorV0
import Derived.Test.YtdhjolglbcoijaaDoorShortV
set_option maxHeartbeats 8000000
set_option maxRecDepth 100000
namespace Go.Proofs.YtdhjolglbcoijaaDoor.PA
open Go.RowKit Go.Proofs.YtdhjolglbcoijaaDoor.Short Go.Proofs.YtdhjolglbcoijaaDoorW.PrintWords Go.Proofs.YtdhjolglbcoijaaDoorW.PrintLast Go.Proofs.YtdhjolglbcoijaaDoorW.PrintMore
attribute [local go_sem] max2_int min2_int max_two min_two max_three min_three max_four min_four   -- for this text's walks alone
set_option linter.unusedVariables false
set_option linter.unusedSimpArgs false

def spec_l01Var.l0 : Nat → Int → List Int → Option (ByteArray)
 | 0, _, _ => none
 | k + 1, x0, x3 => if x0 > 127 then (if x3.length < 140737488355328 then (spec_l01Var.l0 k (wrap64 (Int.tdiv x0 128)) (x3 ++ [(wrap64 ((Int.tmod x0 128) + 128)) % 256])) else (none)) else (if x3.length < 140737488355328 then (some (strOfNums (x3 ++ [(x0) % 256]))) else (none))
def spec_l01Var.f (k : Nat) (a0 : Int) : Option (ByteArray) := spec_l01Var.l0 k a0 (([] : List Int))
theorem spec_l01Var.mono_l : ∀ k, (∀ y0 y1, LeO (spec_l01Var.l0 k y0 y1) (spec_l01Var.l0 (k + 1) y0 y1))
 | 0 => fun _ _ r h => by simp [spec_l01Var.l0] at h
 | k + 1 => by
  have ih0 := spec_l01Var.mono_l k
  ·intro y0 y1
   unfold spec_l01Var.l0
   exact mo_
theorem spec_l01Var.mono : ∀ a0 k, LeO (spec_l01Var.f k a0) (spec_l01Var.f (k + 1) a0) := by
 intro a0 k
 have ih0 := spec_l01Var.mono_l k
 unfold spec_l01Var.f
 exact mo_
theorem spec_l01Var.calls (k : Nat) (a0 : Int) (r : ByteArray) (w : World) (h : spec_l01Var.f k a0 = some r) :
 Calls Tryd.prog 76 #[.int .i64 a0] w fun e w' => e = .returned (.string r) ∧ Below w.heap.size w w' := by
 have HB := Aside0.mk (Below.refl w.heap.size w)
 have H := h
 unfold spec_l01Var.f at H
 clear h
 obtain ⟨y118, hy118⟩ : ∃ y_ : List Int, y_ = (([] : List Int)) := ⟨_, rfl⟩
 replace H : (spec_l01Var.l0 k a0 y118) = some r := rp_ H hy118
 have Ny118 := Aside0.mk hy118
 clear hy118
 have H' := Aside0.mk H
 clear H
 go_enter Tryd.func76, Tryd.ntmps76
 go_wp2_with (first | ((with_reducible refine gate_dst (N := 4) rfl ?_); refine Kd.R_lit (Kd.int .u8) _ 5 ?hg (N := 4) ?hd (xs := ([] : List Int)) (inner := []) (ok := fun _ => True) (okp := fun _ => True) ?hr ?hp (fun _ hk => hk) trivial (Below.refl _ _) (Nat.le_refl _) (by simp) ?_; (case hd => rfl); (case hg => rfl); (case hr => first | (go_simp; done) | (go_simp; rfl)); (case hp => exact (Reps.none _ _)); intro v119 w2 ho3 hb hg_ hnew_; clear hg_ hnew_; (first | rw [← Ny118.out] at ho3 | (simp only [Int.reduceToNat] at ho3; rw [← Ny118.out] at ho3)); have HO120 := Aside0.mk (Kd.R_lower ho3 (below_size bl_)); replace HB := Aside0.mk (below_step bl_ hb); clear hb ho3))
 go_loopg [0, 3] k (fun kq v0 v3 w' => ∃ (x0_1 : Int) (x3_1 : List Int), v0 = .int .i64 x0_1 ∧ Aside0 (spec_l01Var.l0 kq x0_1 x3_1 = some r) ∧ Aside0 (kq ≤ k) ∧ Aside0 (Kd.R (Kd.int .u8) 5 w' w.heap.size (fun _ => True) v3 x3_1) ∧ Aside0 (Below w.heap.size w w'))
 case atStart => exact ⟨(a0), (y118), (sr_), H', ⟨Nat.le_refl _⟩, ⟨ra_ HO120.out⟩, ⟨bl_⟩⟩
 clear H'
 obtain ⟨x0_1, x3_1, rfl, HA, HK1, HO_3, HB⟩ := hrel
 cases gk with
 | zero => exact absurd HA.out (by simp [spec_l01Var.l0])
 | succ k1 => ?_
 have H := HA.out
 clear HA
 simp only [spec_l01Var.l0] at H
 by_cases c4 : x0_1 > 127
 rotate_left
 ·rw [if_neg c4] at H
  have c4b0 := decide_eq_false c4
  clear c4
  by_cases c7 : x3_1.length < 140737488355328
  rotate_left
  ·exact nn_ c7 H
  rw [if_pos c7] at H
  have LMc7 := Aside0.mk c7
  clear c7
  obtain ⟨y124, hy124⟩ : ∃ y_ : List Int, y_ = (x3_1 ++ [(x0_1) % 256]) := ⟨_, rfl⟩
  replace H : (some (strOfNums y124)) = some r := rp_ H hy124
  have Ny124 := Aside0.mk hy124
  clear hy124
  obtain rfl := Option.some.inj H
  go_wp2_with (first | ((with_reducible refine gate_builtin (b := .append) (xs := #[.tmp 16, .tmp 19]) rfl ?_); at_builtin; refine Kd.R_append (Kd.int .u8) (w0 := w) w.heap.size rfl (.tmp 16) (.tmp 19) 61 5 (.int .u8 0) 1 rfl Tryd.underlying61 info5 rfl (by decide) (by omega) u3 x3_1 ((x0_1) % 256) [.int .u8 ((x0_1) % 256)] (fun _ => True) (fun _ => False) rfl rfl ?aP (fun _ hk => hk.elim) ?aF ?aO ?aB ?aS ?aL ?_; (case aP => exact rfl); (case aB => exact bl_); (case aF => exact (fun _ _ => trivial)); (case aO => exact (ra_ HO_3.out)); (case aS => exact (below_size bl_)); (case aL => have := LMc7.out; omega); intro v125 w8 ho hb hg hat; rw [← Ny124.out] at ho; replace HB := Aside0.mk (hb); have HO126 := Aside0.mk (ho); clear HO_3; clear ho hb hg hat; have hcv9 := own_string (P := Tryd.prog) Tryd.underlying61 Tryd.underlying5 Tryd.underlying9 (Kd.own_of_R HO126.out)))
  go_ret
  exact ⟨er_, bl_⟩
 rw [if_pos c4] at H
 have c4b0 := decide_eq_true c4
 clear c4
 by_cases c5 : x3_1.length < 140737488355328
 rotate_left
 ·exact nn_ c5 H
 rw [if_pos c5] at H
 have LMc5 := Aside0.mk c5
 clear c5
 obtain ⟨y121, hy121⟩ : ∃ y_ : List Int, y_ = (x3_1 ++ [(wrap64 ((Int.tmod x0_1 128) + 128)) % 256]) := ⟨_, rfl⟩
 replace H : (spec_l01Var.l0 k1 (wrap64 (Int.tdiv x0_1 128)) y121) = some r := rp_ H hy121
 have Ny121 := Aside0.mk hy121
 clear hy121
 have H' := Aside0.mk H
 clear H
 go_wp2_with (first | ((with_reducible refine gate_builtin (b := .append) (xs := #[.tmp 7, .tmp 12]) rfl ?_); at_builtin; refine Kd.R_append (Kd.int .u8) (w0 := w) w.heap.size rfl (.tmp 7) (.tmp 12) 61 5 (.int .u8 0) 1 rfl Tryd.underlying61 info5 rfl (by decide) (by omega) u3 x3_1 ((wrap64 ((Int.tmod x0_1 128) + 128)) % 256) [.int .u8 ((wrap64 ((Int.tmod x0_1 128) + 128)) % 256)] (fun _ => True) (fun _ => False) rfl rfl ?aP (fun _ hk => hk.elim) ?aF ?aO ?aB ?aS ?aL ?_; (case aP => exact rfl); (case aB => exact bl_); (case aF => exact (fun _ _ => trivial)); (case aO => exact (ra_ HO_3.out)); (case aS => exact (below_size bl_)); (case aL => have := LMc5.out; omega); intro v122 w6 ho hb hg hat; rw [← Ny121.out] at ho; replace HB := Aside0.mk (hb); have HO123 := Aside0.mk (ho); clear HO_3; clear ho hb hg hat))
 go_roundg k1
 case measure => have := HK1.out; omega
 case rel => exact ⟨(wrap64 (Int.tdiv x0_1 128)), (y121), (sr_), H', ⟨by have := HK1.out; omega⟩, ⟨ra_ HO123.out⟩, ⟨bl_⟩⟩


def spec_l06Four.f (a0 : Int) : Option (ByteArray) := some (strOfNums (([(a0 / 16777216) % 256, (a0 / 65536) % 256, (a0 / 256) % 256, (a0) % 256] : List Int)))
theorem spec_l06Four.calls (a0 : Int) (r : ByteArray) (w : World) (h : spec_l06Four.f a0 = some r) :
 Calls Tryd.prog 127 #[.int .i64 a0] w fun e w' => e = .returned (.string r) ∧ Below w.heap.size w w' := by
 have HB := Aside0.mk (Below.refl w.heap.size w)
 have H := h
 unfold spec_l06Four.f at H
 clear h
 obtain ⟨y136, hy136⟩ : ∃ y_ : List Int, y_ = (([(a0 / 16777216) % 256, (a0 / 65536) % 256, (a0 / 256) % 256, (a0) % 256] : List Int)) := ⟨_, rfl⟩
 replace H : (some (strOfNums y136)) = some r := rp_ H hy136
 have Ny136 := Aside0.mk hy136
 clear hy136
 obtain rfl := Option.some.inj H
 go_enter Tryd.func127, Tryd.ntmps127
 go_wp2_with (first | ((with_reducible refine gate_dst (N := 14) rfl ?_); refine Kd.R_lit (Kd.int .u8) _ 5 ?hg (N := 14) ?hd (xs := ([(a0 / 16777216) % 256, (a0 / 65536) % 256, (a0 / 256) % 256, (a0) % 256] : List Int)) (inner := [.int .u8 ((a0 / 16777216) % 256), .int .u8 ((a0 / 65536) % 256), .int .u8 ((a0 / 256) % 256), .int .u8 ((a0) % 256)]) (ok := fun _ => True) (okp := fun _ => True) ?hr ?hp (fun _ hk => hk) trivial (Below.refl _ _) (Nat.le_refl _) (by simp) ?_; (case hd => rfl); (case hg => rfl); (case hr => first | (go_simp; done) | (go_simp; rfl)); (case hp => exact (Reps.one (show Kd.M (Kd.int .u8) _ _ _ ((a0 / 16777216) % 256) [.int .u8 ((a0 / 16777216) % 256)] from rfl) (Reps.one (show Kd.M (Kd.int .u8) _ _ _ ((a0 / 65536) % 256) [.int .u8 ((a0 / 65536) % 256)] from rfl) (Reps.one (show Kd.M (Kd.int .u8) _ _ _ ((a0 / 256) % 256) [.int .u8 ((a0 / 256) % 256)] from rfl) (Reps.one (show Kd.M (Kd.int .u8) _ _ _ ((a0) % 256) [.int .u8 ((a0) % 256)] from rfl) (Reps.none _ _)))))); intro v137 w2 ho3 hb hg_ hnew_; clear hg_ hnew_; (first | rw [← Ny136.out] at ho3 | (simp only [Int.reduceToNat] at ho3; rw [← Ny136.out] at ho3)); have HO138 := Aside0.mk (Kd.R_lower ho3 (below_size bl_)); replace HB := Aside0.mk (below_step bl_ hb); clear hb ho3; have hcv4 := own_string (P := Tryd.prog) Tryd.underlying61 Tryd.underlying5 Tryd.underlying9 (Kd.own_of_R HO138.out)))
 go_ret
 exact ⟨er_, bl_⟩

end Go.Proofs.YtdhjolglbcoijaaDoor.PA

namespace Go.Proofs.YtdhjolglbcoijaaDoor.RegAny
open Go.RowKit Go.Proofs.YtdhjolglbcoijaaDoorW.PrintWords Go.Proofs.YtdhjolglbcoijaaDoorW.PrintLast Go.Proofs.YtdhjolglbcoijaaDoorW.PrintMore
set_option linter.unusedVariables false
theorem ite_some {α : Type} {c : Prop} [Decidable c] {x : Option α} {r : α} (h : (if c then x else none) = some r) : c ∧ x = some r := by
 by_cases hc : c
 ·rw [if_pos hc] at h; exact ⟨hc, h⟩
 ·rw [if_neg hc] at h; cases h
section
variable {P : Program} {ops : Array Oper} {Q : Exit → Act → World → Prop} {B : List Nat}
def Gives (P : Program) (oi : Oper) (a : Act) (w : World) (V : World → Value → Prop) : Prop :=
 (∃ v w', (execOp a.eval oi).run P w = .ok (.value v) w' ∧ V w' v ∧ Below w.heap.size w w') ∨
 (∃ f args, (execOp a.eval oi).run P w = .ok (.enter f args) w ∧ Calls P f args w fun e w' => ∃ v, e = .returned v ∧ V w' v ∧ Below w.heap.size w w')
abbrev Slots := List (Tmp × (World → Value → Prop))
structure Inv (w0 : World) (a0 : Act) (M : World → Prop) (D : Slots) (b : Nat → Bool) (a : Act) (w : World) : Prop where
 below : Below w0.heap.size w0 w
 mem : M w
 size : a.tmps.size = a0.tmps.size
 defers : a.defers = a0.defers
 old : ∀ t, (D.all fun e => !(e.1 == t)) = true → a.tmps[t]? = a0.tmps[t]?
 done : ∀ i e, D[i]? = some e → b i = true → ∃ v, a.tmps[e.1]? = some v ∧ e.2 w v
def Stays (V : World → Prop) : Prop := ∀ w w', V w → Below w.heap.size w w' → V w'
theorem step_of {w0 : World} {a0 : Act} {M : World → Prop} {D : Slots} {O : List Nat} {i : Nat} (e : Tmp × (World → Value → Prop)) (oi : Oper)
 (hM : Stays M) (hV : ∀ e ∈ D, ∀ v, Stays fun w => e.2 w v) (hnd : (D.map (·.1)).Nodup) (hD : D[i]? = some e) (ho : ops[i]? = some oi) (hd : oi.dst = some e.1) (hg : oi.guard = none) (hlt : e.1 < a0.tmps.size)
 (hO : ∀ j, (B.getD i 0).testBit j = true → O.contains j = true)
 (h : ∀ a w, M w → (∀ t, (D.all fun e => !(e.1 == t)) = true → a.tmps[t]? = a0.tmps[t]?) → (∀ j e', D[j]? = some e' → (B.getD i 0).testBit j = true → ∃ v, a.tmps[e'.1]? = some v ∧ e'.2 w v) → Gives P oi a w e.2) :
 StepAt P ops Q B O (Inv w0 a0 M D) i := by
 intro b a w hI hb hdeps _
 refine ⟨oi, ho, fun K hK => ?_⟩
 have hw : Region.wanted oi (yielded ops a.tmps) = true := by simp [Region.wanted, hg]
 rw [if_pos hw]
 have next : ∀ v w', e.2 w' v → Below w.heap.size w w' → K (a.put oi.dst v) w' := by
  intro v w' hv hb'
  refine hK.out _ _ ⟨below_step hI.below hb', hM _ _ hI.mem hb', ?_, ?_, ?_, ?_⟩
  ·rw [hd]; simp [Act.put, hI.size]
  ·rw [hd]; simp [Act.put, hI.defers]
  ·intro t ht
   have hne : e.1 ≠ t := by
    have := List.all_eq_true.1 ht e (List.mem_of_getElem? hD)
    simpa using this
   rw [hd]
   simp only [Act.put]
   rw [Array.getElem?_setIfInBounds_ne hne]
   exact hI.old t ht
  ·intro j e' hj hbj
   by_cases hij : j = i
   ·subst hij
    obtain rfl : e' = e := Option.some.inj (hj.symm.trans hD)
    refine ⟨v, ?_, hv⟩
    rw [hd]
    simp only [Act.put]
    rw [Array.getElem?_setIfInBounds_self_of_lt (by rw [hI.size]; exact hlt)]
   ·have hbj' : b j = true := by
     unfold up at hbj
     simpa [hij] using hbj
    obtain ⟨v', hv', hV'⟩ := hI.done j e' hj hbj'
    have hne : e.1 ≠ e'.1 := by
     intro he
     have h1 : (D.map (·.1))[i]? = some e.1 := by rw [List.getElem?_map, hD]; rfl
     have h2 : (D.map (·.1))[j]? = some e.1 := by rw [List.getElem?_map, hj]; simp [he]
     have hl1 := (List.getElem?_eq_some_iff.1 h1).1
     have hl2 := (List.getElem?_eq_some_iff.1 h2).1
     exact hij ((List.getElem?_inj hl2 hnd).1 (h2.trans h1.symm))
    refine ⟨v', ?_, hV e' (List.mem_of_getElem? hj) v' _ _ hV' hb'⟩
    rw [hd]
    simp only [Act.put]
    rw [Array.getElem?_setIfInBounds_ne hne]
    exact hv'
 rcases h a w hI.mem hI.old (fun j e' hj hbit => hI.done j e' hj (hdeps j (by rw [hO j hbit, hbit]; rfl))) with ⟨v, w', hr, hv, hb'⟩ | ⟨f, args, hr, hc⟩
 ·unfold Oper.wp
  rw [hr]
  exact next v w' hv hb'
 ·unfold Oper.wp
  rw [hr, Oper.upon_enter]
  refine hc.mono ?_
  rintro e2 w' ⟨v, rfl, hv, hb'⟩
  exact next v w' hv hb'
def Is (x : Value) : World → Value → Prop := fun _ v => v = x
theorem Is_stays (x v : Value) : Stays fun w => Is x w v := fun _ _ h _ => h
theorem gPure {oi : Oper} {a : Act} {w : World} {x : Value} (hr : (execOp a.eval oi).run P w = .ok (.value x) w) : Gives P oi a w (Is x) := .inl ⟨x, w, hr, rfl, Below.refl _ _⟩
theorem within_of {n : Nat} (h : (B.all fun x => decide (x < 2 ^ n)) = true) (i j : Nat) (hb : (B.getD i 0).testBit j = true) : (List.range n).contains j = true := by
 have hlt : B.getD i 0 < 2 ^ n := by
  rw [List.getD_eq_getElem?_getD]
  cases hq : B[i]? with
  | none => simp; exact Nat.two_pow_pos n
  | some x => simpa using List.all_eq_true.1 h x (List.mem_of_getElem? hq)
 rcases Nat.lt_or_ge j n with hj | hj
 ·simpa using hj
 ·exfalso
  have := Nat.testBit_lt_two_pow (Nat.lt_of_lt_of_le hlt (Nat.pow_le_pow_right (by omega) hj))
  rw [hb] at this
  cases this
theorem region_any {id n : Nat} {wb w0 : World} {a0 : Act} {M : World → Prop} {D : Slots} {T : Bool × List (List Nat × List Nat)} (l : Array Bool) (hm : P.follows .mixedOrders = true) (hT : rtab .any ops = T) (hw : waitsOk T.2 B = true) (hk : baseOk T.2 (List.range n) = true) (hn : ops.size = n) (hl : Array.replicate n false = l)
 (hlo : (lof T.2.length (List.range n) (fun _ => false) == l.toList && (List.range n).length == n) = true) (hB : Below wb.heap.size wb w0.drew) (h0 : M w0.drew)
 (hs : ∀ i ∈ List.range n, StepAt P ops Q B (List.range n) (Inv wb a0 M D) i)
 (hend : ∀ a w, Below wb.heap.size wb w → M w → a.tmps.size = a0.tmps.size → a.defers = a0.defers → (∀ t, (D.all fun e => !(e.1 == t)) = true → a.tmps[t]? = a0.tmps[t]?) → (∀ i e, i < n → D[i]? = some e → ∃ v, a.tmps[e.1]? = some v ∧ e.2 w v) → Q .normal a w) :
 (Code.region id ops true).wp P Q a0 w0 := by
 refine start_ (n := n) (S := fun _ => True) (ds := []) l hm hn hl trivial (fun _ => ?_)
 refine inv_ (List.range n) (Inv wb a0 M D) hT hw hk hlo ?_ hs ?_
 ·exact ⟨hB, h0, rfl, rfl, fun _ _ => rfl, fun i e _ h => by cases h⟩
 ·intro b a w hb hI
  exact hend a w hI.below hI.mem hI.size hI.defers hI.old (fun i e hi he => hI.done i e he (hb i (by simp; exact hi)))
end
end Go.Proofs.YtdhjolglbcoijaaDoor.RegAny

namespace Go.Proofs.YtdhjolglbcoijaaDoor.PA
open Go.RowKit Go.Proofs.YtdhjolglbcoijaaDoor.Short Go.Proofs.YtdhjolglbcoijaaDoorW.PrintWords Go.Proofs.YtdhjolglbcoijaaDoorW.PrintLast Go.Proofs.YtdhjolglbcoijaaDoorW.PrintMore
attribute [local go_sem] max2_int min2_int max_two min_two max_three min_three max_four min_four   -- for this text's walks alone
set_option linter.unusedVariables false
set_option linter.unusedSimpArgs false
open Go.Proofs.YtdhjolglbcoijaaDoor.RegAny

def spec_FrameText.f (k : Nat) (a0_0 : Int) (a0_1 : Int) (a0_2 : Int) (a0_3 : Int) (a0_4 : Int) (a0_5 : Int) (a0_6 : Int) : Option (ByteArray × Bool) := (spec_FrameOk.f k a0_0 a0_1 a0_2 a0_3 a0_4 a0_5 a0_6).bind fun t153 => (if t153 = true then ((some (([(a0_0) % 256, (a0_1) % 256] : List Int) : List Int)).bind fun y155 => ((spec_l01Var.f k a0_2).bind fun t158 => (if (strOfNums y155).size + t158.size ≤ 9223372036854775807 then ((some (([(a0_3) % 256] : List Int) : List Int)).bind fun y159 => (if ((strOfNums y155) ++ t158).size + (strOfNums y159).size ≤ 9223372036854775807 then ((spec_l06Four.f a0_4).bind fun t162 => (if (((strOfNums y155) ++ t158) ++ (strOfNums y159)).size + t162.size ≤ 9223372036854775807 then ((spec_l06Four.f a0_5).bind fun t163 => (if ((((strOfNums y155) ++ t158) ++ (strOfNums y159)) ++ t162).size + t163.size ≤ 9223372036854775807 then ((spec_l01Var.f k a0_6).bind fun t164 => (if (((((strOfNums y155) ++ t158) ++ (strOfNums y159)) ++ t162) ++ t163).size + t164.size ≤ 9223372036854775807 then ((spec_Sealed.f k ((((((strOfNums y155) ++ t158) ++ (strOfNums y159)) ++ t162) ++ t163) ++ t164)).bind fun bt165 => (some (bt165.1, bt165.2))) else (none))) else (none))) else (none))) else (none))) else (none)))) else (some ((⟨#[]⟩ : ByteArray), false)))
theorem spec_FrameText.mono : ∀ a0 a1 a2 a3 a4 a5 a6 k, LeO (spec_FrameText.f k a0 a1 a2 a3 a4 a5 a6) (spec_FrameText.f (k + 1) a0 a1 a2 a3 a4 a5 a6) := by
 intro a0 a1 a2 a3 a4 a5 a6 k
 unfold spec_FrameText.f
 have m0 := @spec_FrameOk.mono
 have m1 := @spec_Sealed.mono
 have m2 := @spec_l01Var.mono
 exact mo_
def spec_FrameText.T4 : Bool × List (List Nat × List Nat) := (true, [([], []), ([0], [0]), ([1], [1]), ([], []), ([3], [3]), ([4], [4]), ([2, 5], [2, 5]), ([6], [6]), ([], []), ([8], [8]), ([9], [9]), ([7, 10], [7, 10]), ([], []), ([12], [12]), ([13], [13]), ([14], [14]), ([15], [15]), ([11, 16], [11, 16]), ([], []), ([18], [18]), ([19, 10], [19]), ([17, 20], [17, 20]), ([], []), ([22], [22]), ([23, 20], [23]), ([21, 24], [21, 24]), ([], []), ([26], [26]), ([27, 24], [27]), ([25, 28], [25, 28]), ([29, 28], [29]), ([30], [30]), ([30], [30]), ([31, 30, 0, 1, 2, 3, 4, 5, 6, 7, 8, 9, 10, 11, 12, 13, 14, 15, 16, 17, 18, 19, 20, 21, 22, 23, 24, 25, 26, 27, 28, 29, 30, 31, 32], [31]), ([32, 33, 0, 1, 2, 3, 4, 5, 6, 7, 8, 9, 10, 11, 12, 13, 14, 15, 16, 17, 18, 19, 20, 21, 22, 23, 24, 25, 26, 27, 28, 29, 30, 31, 32, 33], [32])])
def spec_FrameText.B4 : List Nat := [0, 1, 3, 0, 8, 24, 63, 127, 0, 256, 768, 2047, 0, 4096, 12288, 28672, 61440, 131071, 0, 262144, 788224, 2097151, 0, 4194304, 14419712, 33554431, 0, 67108864, 232523520, 536870911, 1073741823, 2147483647, 2147483647, 8589934591, 17179869183]
theorem spec_FrameText.tab4 : rtab .any (opsOf Tryd.f110 4) = spec_FrameText.T4 := by kernel_rfl
theorem spec_FrameText.bits4 : waitsOk spec_FrameText.T4.2 spec_FrameText.B4 = true := by kernel_rfl
theorem spec_FrameText.calls (k : Nat) (a0_0 : Int) (a0_1 : Int) (a0_2 : Int) (a0_3 : Int) (a0_4 : Int) (a0_5 : Int) (a0_6 : Int) (r1 : ByteArray) (r2 : Bool) (w : World) (h : spec_FrameText.f k a0_0 a0_1 a0_2 a0_3 a0_4 a0_5 a0_6 = some (r1, r2)) :
 Calls Tryd.prog 110 #[.agg #[.int .i64 a0_0, .int .i64 a0_1, .int .i64 a0_2, .int .i64 a0_3, .int .i64 a0_4, .int .i64 a0_5, .int .i64 a0_6]] w fun e w' => e = .returned (.tuple #[.string r1, .bool r2]) ∧ Below w.heap.size w w' := by
 have hu115 := Tryd.underlying115
 have hu68 := Tryd.underlying68
 have HB := Aside0.mk (Below.refl w.heap.size w)
 unfold spec_FrameText.f at h
 obtain ⟨t153, A20, h⟩ := Option.bind_eq_some_iff.mp h
 have A2 := Aside0.mk A20
 clear A20
 split at h
 ·rename_i c3
  subst c3
  simp only [Option.bind_some] at h
  obtain ⟨t158, A40, h⟩ := Option.bind_eq_some_iff.mp h
  have A4 := Aside0.mk A40
  clear A40
  obtain ⟨c6, h⟩ := ite_some h
  obtain ⟨c7, h⟩ := ite_some h
  obtain ⟨t162, A80, h⟩ := Option.bind_eq_some_iff.mp h
  have A8 := Aside0.mk A80
  clear A80
  obtain ⟨c9, h⟩ := ite_some h
  obtain ⟨t163, A100, h⟩ := Option.bind_eq_some_iff.mp h
  have A10 := Aside0.mk A100
  clear A100
  obtain ⟨c11, h⟩ := ite_some h
  obtain ⟨t164, A110, h⟩ := Option.bind_eq_some_iff.mp h
  have A11 := Aside0.mk A110
  clear A110
  obtain ⟨c12, h⟩ := ite_some h
  obtain ⟨⟨t165, t166⟩, A130, h⟩ := Option.bind_eq_some_iff.mp h
  have A13 := Aside0.mk A130
  clear A130
  simp only [Option.some.injEq, Prod.mk.injEq] at h
  obtain ⟨rfl, rfl⟩ := h
  have C6 := Aside0.mk c6
  have C7 := Aside0.mk c7
  have C9 := Aside0.mk c9
  have C11 := Aside0.mk c11
  have C12 := Aside0.mk c12
  clear c6 c7 c9 c11 c12
  go_enter Tryd.func110, Tryd.ntmps110
  go_wp2_with (first
   | ((with_reducible refine gate_dst (N := 1) rfl ?_); refine box_event rfl (N := 1) rfl (cs := #[.int .i64 a0_0, .int .i64 a0_1, .int .i64 a0_2, .int .i64 a0_3, .int .i64 a0_4, .int .i64 a0_5, .int .i64 a0_6]) (t := 115) (by kernel_rfl) ?_; intro g hg w1 hbox hb; have BK := Aside0.mk hbox; have GE := Aside0.mk (by rw [hg]; exact below_size HB.out : w.heap.size ≤ g); have n1_ := Aside0.mk (below_step HB.out hb); clear HB; have HB := n1_; clear n1_ hbox hb hg; have z0 : w1.cell? ⟨g, 0, none⟩ = some (.int .i64 a0_0) := (blk_cell BK.out 0).trans rfl; have z1 : w1.cell? ⟨g, 1, none⟩ = some (.int .i64 a0_1) := (blk_cell BK.out 1).trans rfl; have z2 : w1.cell? ⟨g, 2, none⟩ = some (.int .i64 a0_2) := (blk_cell BK.out 2).trans rfl; have z3 : w1.cell? ⟨g, 3, none⟩ = some (.int .i64 a0_3) := (blk_cell BK.out 3).trans rfl; have z4 : w1.cell? ⟨g, 4, none⟩ = some (.int .i64 a0_4) := (blk_cell BK.out 4).trans rfl; have z5 : w1.cell? ⟨g, 5, none⟩ = some (.int .i64 a0_5) := (blk_cell BK.out 5).trans rfl; have z6 : w1.cell? ⟨g, 6, none⟩ = some (.int .i64 a0_6) := (blk_cell BK.out 6).trans rfl)
   | (go_at_call 126; (with_reducible refine (spec_FrameOk.calls k a0_0 a0_1 a0_2 a0_3 a0_4 a0_5 a0_6 true _ A2.out).mono ?_); rintro e w2 ⟨rfl, hb⟩; have n1_ := Aside0.mk (below_step HB.out hb); have n2_ := Aside0.mk (blk_below BK.out hb); clear HB BK z0 z1 z2 z3 z4 z5 z6; have HB := n1_; have BK := n2_; clear n1_ n2_ hb; have z0 : w2.cell? ⟨g, 0, none⟩ = some (.int .i64 a0_0) := (blk_cell BK.out 0).trans rfl; have z1 : w2.cell? ⟨g, 1, none⟩ = some (.int .i64 a0_1) := (blk_cell BK.out 1).trans rfl; have z2 : w2.cell? ⟨g, 2, none⟩ = some (.int .i64 a0_2) := (blk_cell BK.out 2).trans rfl; have z3 : w2.cell? ⟨g, 3, none⟩ = some (.int .i64 a0_3) := (blk_cell BK.out 3).trans rfl; have z4 : w2.cell? ⟨g, 4, none⟩ = some (.int .i64 a0_4) := (blk_cell BK.out 4).trans rfl; have z5 : w2.cell? ⟨g, 5, none⟩ = some (.int .i64 a0_5) := (blk_cell BK.out 5).trans rfl; have z6 : w2.cell? ⟨g, 6, none⟩ = some (.int .i64 a0_6) := (blk_cell BK.out 6).trans rfl))
  have BX := Aside0.mk (show (w2.alloc (.cells #[.int .i64 a0_3, .int .i64 a0_4, .int .i64 a0_5, .int .i64 a0_6] 68)).heap[w2.heap.size]? = some (.cells #[.int .i64 a0_3, .int .i64 a0_4, .int .i64 a0_5, .int .i64 a0_6] 68 (0, 0)) from blk_new w2 _)
  have n1_ := Aside0.mk (below_alloc HB.out (.cells #[.int .i64 a0_3, .int .i64 a0_4, .int .i64 a0_5, .int .i64 a0_6] 68))
  have n2_ := Aside0.mk (blk_alloc BK.out (.cells #[.int .i64 a0_3, .int .i64 a0_4, .int .i64 a0_5, .int .i64 a0_6] 68))
  clear HB BK z0 z1 z2 z3 z4 z5 z6
  generalize w2.alloc (.cells #[.int .i64 a0_3, .int .i64 a0_4, .int .i64 a0_5, .int .i64 a0_6] 68) = w4 at BX n1_ n2_ ⊢
  generalize w2.heap.size = g4 at BX ⊢
  have HB := n1_
  have BK := n2_
  clear n1_ n2_
  obtain ⟨D, hD⟩ : ∃ D : Slots, D = [(10, Is (.pointer (some ⟨g, 0, none⟩))), (11, Is (.int .i64 a0_0)), (12, Is (.int .u8 (a0_0 % 256))), (13, Is (.pointer (some ⟨g, 1, none⟩))), (14, Is (.int .i64 a0_1)), (15, Is (.int .u8 (a0_1 % 256))), (16, fun w_ v_ => Kd.R (Kd.int .u8) 5 w_ w.heap.size (fun _ => True) v_ [a0_0 % 256, a0_1 % 256]), (17, Is (.string (strOfNums [a0_0 % 256, a0_1 % 256]))), (18, Is (.pointer (some ⟨g, 2, none⟩))), (19, Is (.int .i64 a0_2)), (20, Is (.string (t158))), (21, Is (.string (strOfNums [a0_0 % 256, a0_1 % 256] ++ t158))), (22, Is (.pointer (some ⟨g4, 0, none⟩))), (23, Is (.int .i64 a0_3)), (24, Is (.int .u8 (a0_3 % 256))), (25, fun w_ v_ => Kd.R (Kd.int .u8) 5 w_ w.heap.size (fun _ => True) v_ [a0_3 % 256]), (26, Is (.string (strOfNums [a0_3 % 256]))), (27, Is (.string ((strOfNums [a0_0 % 256, a0_1 % 256] ++ t158) ++ strOfNums [a0_3 % 256]))), (28, Is (.pointer (some ⟨g4, 1, none⟩))), (29, Is (.int .i64 a0_4)), (30, Is (.string (t162))), (31, Is (.string (((strOfNums [a0_0 % 256, a0_1 % 256] ++ t158) ++ strOfNums [a0_3 % 256]) ++ t162))), (32, Is (.pointer (some ⟨g4, 2, none⟩))), (33, Is (.int .i64 a0_5)), (34, Is (.string (t163))), (35, Is (.string ((((strOfNums [a0_0 % 256, a0_1 % 256] ++ t158) ++ strOfNums [a0_3 % 256]) ++ t162) ++ t163))), (36, Is (.pointer (some ⟨g4, 3, none⟩))), (37, Is (.int .i64 a0_6)), (38, Is (.string (t164))), (39, Is (.string (((((strOfNums [a0_0 % 256, a0_1 % 256] ++ t158) ++ strOfNums [a0_3 % 256]) ++ t162) ++ t163) ++ t164))), (40, Is (.tuple #[.string t165, .bool t166])), (41, Is (.string (t165))), (42, Is (.bool t166)), (2, Is (.string (t165))), (3, Is (.bool t166))] := ⟨_, rfl⟩
  have hM : Stays fun w' => w'.heap[g]? = some (.cells #[.int .i64 a0_0, .int .i64 a0_1, .int .i64 a0_2, .int .i64 a0_3, .int .i64 a0_4, .int .i64 a0_5, .int .i64 a0_6] 115 (0, 0)) ∧ w'.heap[g4]? = some (.cells #[.int .i64 a0_3, .int .i64 a0_4, .int .i64 a0_5, .int .i64 a0_6] 68 (0, 0)) ∧ Below w.heap.size w w' := fun _ _ h hb => ⟨blk_below h.1 hb, blk_below h.2.1 hb, below_step h.2.2 hb⟩
  have hV : ∀ e ∈ D, ∀ v, Stays fun w => e.2 w v := by
   rw [hD]
   repeat' first | exact List.forall_mem_nil _ | refine List.forall_mem_cons.2 ⟨?_, ?_⟩
   all_goals first | exact fun v => Is_stays _ v | exact fun v w1 w2 h hb => Kd.R_below h hb
  have hnd : (D.map (·.1)).Nodup := by rw [hD]; exact of_decide_eq_true rfl
  refine region_any (n := 35) (wb := w) (M := fun w' => w'.heap[g]? = some (.cells #[.int .i64 a0_0, .int .i64 a0_1, .int .i64 a0_2, .int .i64 a0_3, .int .i64 a0_4, .int .i64 a0_5, .int .i64 a0_6] 115 (0, 0)) ∧ w'.heap[g4]? = some (.cells #[.int .i64 a0_3, .int .i64 a0_4, .int .i64 a0_5, .int .i64 a0_6] 68 (0, 0)) ∧ Below w.heap.size w w') (D := D) (Array.replicate 35 false) (by kernel_rfl) spec_FrameText.tab4 spec_FrameText.bits4 (by kernel_rfl) rfl rfl (by kernel_rfl) (below_drew1 HB.out) ⟨blk_drew BK.out, blk_drew BX.out, below_drew1 HB.out⟩ ?_ ?_
  ·show ∀ i ∈ [0, 1, 2, 3, 4, 5, 6, 7, 8, 9, 10, 11, 12, 13, 14, 15, 16, 17, 18, 19, 20, 21, 22, 23, 24, 25, 26, 27, 28, 29, 30, 31, 32, 33, 34], _
   refine steps_cons ?_ (steps_cons ?_ (steps_cons ?_ (steps_cons ?_ (steps_cons ?_ (steps_cons ?_ (steps_cons ?_ (steps_cons ?_ (steps_cons ?_ (steps_cons ?_ (steps_cons ?_ (steps_cons ?_ (steps_cons ?_ (steps_cons ?_ (steps_cons ?_ (steps_cons ?_ (steps_cons ?_ (steps_cons ?_ (steps_cons ?_ (steps_cons ?_ (steps_cons ?_ (steps_cons ?_ (steps_cons ?_ (steps_cons ?_ (steps_cons ?_ (steps_cons ?_ (steps_cons ?_ (steps_cons ?_ (steps_cons ?_ (steps_cons ?_ (steps_cons ?_ (steps_cons ?_ (steps_cons ?_ (steps_cons ?_ (steps_cons ?_ (steps_nil)))))))))))))))))))))))))))))))))))
   ·refine step_of _ _ hM hV hnd (by rw [hD]; rfl) rfl rfl rfl (of_decide_eq_true rfl) (within_of (by kernel_rfl) _) ?_
    intro a w9 hm hold hdep
    have e0 := eval_of ((hold 1 (by rw [hD]; rfl)).trans rfl)
    exact gPure (by first | (go_simp; done) | (go_simp; rfl))
   ·refine step_of _ _ hM hV hnd (by rw [hD]; rfl) rfl rfl rfl (of_decide_eq_true rfl) (within_of (by kernel_rfl) _) ?_
    intro a w9 hm hold hdep
    obtain ⟨_, h0, rfl⟩ := hdep 0 _ (by rw [hD]; rfl) (by rfl)
    have e0 := eval_of h0
    have z := (blk_cell hm.1 0).trans rfl
    exact gPure (by first | (go_simp; done) | (go_simp; rfl))
   ·refine step_of _ _ hM hV hnd (by rw [hD]; rfl) rfl rfl rfl (of_decide_eq_true rfl) (within_of (by kernel_rfl) _) ?_
    intro a w9 hm hold hdep
    obtain ⟨_, h0, rfl⟩ := hdep 1 _ (by rw [hD]; rfl) (by rfl)
    have e0 := eval_of h0
    exact gPure (by first | (go_simp; done) | (go_simp; rfl))
   ·refine step_of _ _ hM hV hnd (by rw [hD]; rfl) rfl rfl rfl (of_decide_eq_true rfl) (within_of (by kernel_rfl) _) ?_
    intro a w9 hm hold hdep
    have e0 := eval_of ((hold 1 (by rw [hD]; rfl)).trans rfl)
    exact gPure (by first | (go_simp; done) | (go_simp; rfl))
   ·refine step_of _ _ hM hV hnd (by rw [hD]; rfl) rfl rfl rfl (of_decide_eq_true rfl) (within_of (by kernel_rfl) _) ?_
    intro a w9 hm hold hdep
    obtain ⟨_, h0, rfl⟩ := hdep 3 _ (by rw [hD]; rfl) (by rfl)
    have e0 := eval_of h0
    have z := (blk_cell hm.1 1).trans rfl
    exact gPure (by first | (go_simp; done) | (go_simp; rfl))
   ·refine step_of _ _ hM hV hnd (by rw [hD]; rfl) rfl rfl rfl (of_decide_eq_true rfl) (within_of (by kernel_rfl) _) ?_
    intro a w9 hm hold hdep
    obtain ⟨_, h0, rfl⟩ := hdep 4 _ (by rw [hD]; rfl) (by rfl)
    have e0 := eval_of h0
    exact gPure (by first | (go_simp; done) | (go_simp; rfl))
   ·refine step_of _ _ hM hV hnd (by rw [hD]; rfl) rfl rfl rfl (of_decide_eq_true rfl) (within_of (by kernel_rfl) _) ?_
    intro a w9 hm hold hdep
    obtain ⟨_, h0, rfl⟩ := hdep 2 _ (by rw [hD]; rfl) (by rfl)
    have e0 := eval_of h0
    obtain ⟨_, h1, rfl⟩ := hdep 5 _ (by rw [hD]; rfl) (by rfl)
    have e1 := eval_of h1
    refine .inl ⟨.slice (some ⟨w9.heap.size, 0, none⟩) 2 2, w9.alloc (.cells #[.int .u8 (a0_0 % 256), .int .u8 (a0_1 % 256)] 5 (0, 0)), (by first | (go_simp; done) | (go_simp; rfl)), ?_, below_alloc (Below.refl _ _) _⟩
    have h2 := World.ownsRow_lit (base := w.heap.size) (e := 5) (size := 1) w9 #[.int .u8 (a0_0 % 256), .int .u8 (a0_1 % 256)] 2 (below_size hm.2.2) (by decide) (by rfl)
    exact Kd.R_of_own (enc := Value.int .u8) (h1 := fun _ => rfl) (by simpa [encs] using h2) (fun _ _ => trivial)
   ·refine step_of _ _ hM hV hnd (by rw [hD]; rfl) rfl rfl rfl (of_decide_eq_true rfl) (within_of (by kernel_rfl) _) ?_
    intro a w9 hm hold hdep
    obtain ⟨v0, h0, r0⟩ := hdep 6 _ (by rw [hD]; rfl) (by rfl)
    have e0 := eval_of h0
    obtain ⟨A, c, rfl, _, hC⟩ := Kd.R_reads r0
    have kc : (convert 61 9 (.slice A 2 c)).run Tryd.prog w9 = _ := Kd.C_string (P := Tryd.prog) (c := c) Tryd.underlying61 Tryd.underlying5 Tryd.underlying9 hC
    exact gPure (by first | (go_simp; done) | (go_simp; rfl))
   ·refine step_of _ _ hM hV hnd (by rw [hD]; rfl) rfl rfl rfl (of_decide_eq_true rfl) (within_of (by kernel_rfl) _) ?_
    intro a w9 hm hold hdep
    have e0 := eval_of ((hold 1 (by rw [hD]; rfl)).trans rfl)
    exact gPure (by first | (go_simp; done) | (go_simp; rfl))
   ·refine step_of _ _ hM hV hnd (by rw [hD]; rfl) rfl rfl rfl (of_decide_eq_true rfl) (within_of (by kernel_rfl) _) ?_
    intro a w9 hm hold hdep
    obtain ⟨_, h0, rfl⟩ := hdep 8 _ (by rw [hD]; rfl) (by rfl)
    have e0 := eval_of h0
    have z := (blk_cell hm.1 2).trans rfl
    exact gPure (by first | (go_simp; done) | (go_simp; rfl))
   ·refine step_of _ _ hM hV hnd (by rw [hD]; rfl) rfl rfl rfl (of_decide_eq_true rfl) (within_of (by kernel_rfl) _) ?_
    intro a w9 hm hold hdep
    obtain ⟨_, h0, rfl⟩ := hdep 9 _ (by rw [hD]; rfl) (by rfl)
    have e0 := eval_of h0
    refine .inr ⟨76, #[.int .i64 a0_2], (by first | (go_simp; done) | (go_simp; rfl)), (spec_l01Var.calls k a0_2 t158 _ A4.out).mono ?_⟩
    rintro e w2 ⟨rfl, hb⟩
    exact ⟨_, rfl, rfl, hb⟩
   ·refine step_of _ _ hM hV hnd (by rw [hD]; rfl) rfl rfl rfl (of_decide_eq_true rfl) (within_of (by kernel_rfl) _) ?_
    intro a w9 hm hold hdep
    obtain ⟨_, h0, rfl⟩ := hdep 7 _ (by rw [hD]; rfl) (by rfl)
    have e0 := eval_of h0
    obtain ⟨_, h1, rfl⟩ := hdep 10 _ (by rw [hD]; rfl) (by rfl)
    have e1 := eval_of h1
    have c := C6.out
    try simp only [ByteArray.size_append] at c
    exact gPure (by first | (go_simp; done) | (go_simp; rfl) | (go_simp; exact c))
   ·refine step_of _ _ hM hV hnd (by rw [hD]; rfl) rfl rfl rfl (of_decide_eq_true rfl) (within_of (by kernel_rfl) _) ?_
    intro a w9 hm hold hdep
    have e0 := eval_of ((hold 4 (by rw [hD]; rfl)).trans rfl)
    exact gPure (by first | (go_simp; done) | (go_simp; rfl))
   ·refine step_of _ _ hM hV hnd (by rw [hD]; rfl) rfl rfl rfl (of_decide_eq_true rfl) (within_of (by kernel_rfl) _) ?_
    intro a w9 hm hold hdep
    obtain ⟨_, h0, rfl⟩ := hdep 12 _ (by rw [hD]; rfl) (by rfl)
    have e0 := eval_of h0
    have z := (blk_cell hm.2.1 0).trans rfl
    exact gPure (by first | (go_simp; done) | (go_simp; rfl))
   ·refine step_of _ _ hM hV hnd (by rw [hD]; rfl) rfl rfl rfl (of_decide_eq_true rfl) (within_of (by kernel_rfl) _) ?_
    intro a w9 hm hold hdep
    obtain ⟨_, h0, rfl⟩ := hdep 13 _ (by rw [hD]; rfl) (by rfl)
    have e0 := eval_of h0
    exact gPure (by first | (go_simp; done) | (go_simp; rfl))
   ·refine step_of _ _ hM hV hnd (by rw [hD]; rfl) rfl rfl rfl (of_decide_eq_true rfl) (within_of (by kernel_rfl) _) ?_
    intro a w9 hm hold hdep
    obtain ⟨_, h0, rfl⟩ := hdep 14 _ (by rw [hD]; rfl) (by rfl)
    have e0 := eval_of h0
    refine .inl ⟨.slice (some ⟨w9.heap.size, 0, none⟩) 1 1, w9.alloc (.cells #[.int .u8 (a0_3 % 256)] 5 (0, 0)), (by first | (go_simp; done) | (go_simp; rfl)), ?_, below_alloc (Below.refl _ _) _⟩
    have h2 := World.ownsRow_lit (base := w.heap.size) (e := 5) (size := 1) w9 #[.int .u8 (a0_3 % 256)] 1 (below_size hm.2.2) (by decide) (by rfl)
    exact Kd.R_of_own (enc := Value.int .u8) (h1 := fun _ => rfl) (by simpa [encs] using h2) (fun _ _ => trivial)
   ·refine step_of _ _ hM hV hnd (by rw [hD]; rfl) rfl rfl rfl (of_decide_eq_true rfl) (within_of (by kernel_rfl) _) ?_
    intro a w9 hm hold hdep
    obtain ⟨v0, h0, r0⟩ := hdep 15 _ (by rw [hD]; rfl) (by rfl)
    have e0 := eval_of h0
    obtain ⟨A, c, rfl, _, hC⟩ := Kd.R_reads r0
    have kc : (convert 61 9 (.slice A 1 c)).run Tryd.prog w9 = _ := Kd.C_string (P := Tryd.prog) (c := c) Tryd.underlying61 Tryd.underlying5 Tryd.underlying9 hC
    exact gPure (by first | (go_simp; done) | (go_simp; rfl))
   ·refine step_of _ _ hM hV hnd (by rw [hD]; rfl) rfl rfl rfl (of_decide_eq_true rfl) (within_of (by kernel_rfl) _) ?_
    intro a w9 hm hold hdep
    obtain ⟨_, h0, rfl⟩ := hdep 11 _ (by rw [hD]; rfl) (by rfl)
    have e0 := eval_of h0
    obtain ⟨_, h1, rfl⟩ := hdep 16 _ (by rw [hD]; rfl) (by rfl)
    have e1 := eval_of h1
    have c := C7.out
    try simp only [ByteArray.size_append] at c
    exact gPure (by first | (go_simp; done) | (go_simp; rfl) | (go_simp; exact c))
   ·refine step_of _ _ hM hV hnd (by rw [hD]; rfl) rfl rfl rfl (of_decide_eq_true rfl) (within_of (by kernel_rfl) _) ?_
    intro a w9 hm hold hdep
    have e0 := eval_of ((hold 4 (by rw [hD]; rfl)).trans rfl)
    exact gPure (by first | (go_simp; done) | (go_simp; rfl))
   ·refine step_of _ _ hM hV hnd (by rw [hD]; rfl) rfl rfl rfl (of_decide_eq_true rfl) (within_of (by kernel_rfl) _) ?_
    intro a w9 hm hold hdep
    obtain ⟨_, h0, rfl⟩ := hdep 18 _ (by rw [hD]; rfl) (by rfl)
    have e0 := eval_of h0
    have z := (blk_cell hm.2.1 1).trans rfl
    exact gPure (by first | (go_simp; done) | (go_simp; rfl))
   ·refine step_of _ _ hM hV hnd (by rw [hD]; rfl) rfl rfl rfl (of_decide_eq_true rfl) (within_of (by kernel_rfl) _) ?_
    intro a w9 hm hold hdep
    obtain ⟨_, h0, rfl⟩ := hdep 19 _ (by rw [hD]; rfl) (by rfl)
    have e0 := eval_of h0
    refine .inr ⟨127, #[.int .i64 a0_4], (by first | (go_simp; done) | (go_simp; rfl)), (spec_l06Four.calls a0_4 t162 _ A8.out).mono ?_⟩
    rintro e w2 ⟨rfl, hb⟩
    exact ⟨_, rfl, rfl, hb⟩
   ·refine step_of _ _ hM hV hnd (by rw [hD]; rfl) rfl rfl rfl (of_decide_eq_true rfl) (within_of (by kernel_rfl) _) ?_
    intro a w9 hm hold hdep
    obtain ⟨_, h0, rfl⟩ := hdep 17 _ (by rw [hD]; rfl) (by rfl)
    have e0 := eval_of h0
    obtain ⟨_, h1, rfl⟩ := hdep 20 _ (by rw [hD]; rfl) (by rfl)
    have e1 := eval_of h1
    have c := C9.out
    try simp only [ByteArray.size_append] at c
    exact gPure (by first | (go_simp; done) | (go_simp; rfl) | (go_simp; exact c))
   ·refine step_of _ _ hM hV hnd (by rw [hD]; rfl) rfl rfl rfl (of_decide_eq_true rfl) (within_of (by kernel_rfl) _) ?_
    intro a w9 hm hold hdep
    have e0 := eval_of ((hold 4 (by rw [hD]; rfl)).trans rfl)
    exact gPure (by first | (go_simp; done) | (go_simp; rfl))
   ·refine step_of _ _ hM hV hnd (by rw [hD]; rfl) rfl rfl rfl (of_decide_eq_true rfl) (within_of (by kernel_rfl) _) ?_
    intro a w9 hm hold hdep
    obtain ⟨_, h0, rfl⟩ := hdep 22 _ (by rw [hD]; rfl) (by rfl)
    have e0 := eval_of h0
    have z := (blk_cell hm.2.1 2).trans rfl
    exact gPure (by first | (go_simp; done) | (go_simp; rfl))
   ·refine step_of _ _ hM hV hnd (by rw [hD]; rfl) rfl rfl rfl (of_decide_eq_true rfl) (within_of (by kernel_rfl) _) ?_
    intro a w9 hm hold hdep
    obtain ⟨_, h0, rfl⟩ := hdep 23 _ (by rw [hD]; rfl) (by rfl)
    have e0 := eval_of h0
    refine .inr ⟨127, #[.int .i64 a0_5], (by first | (go_simp; done) | (go_simp; rfl)), (spec_l06Four.calls a0_5 t163 _ A10.out).mono ?_⟩
    rintro e w2 ⟨rfl, hb⟩
    exact ⟨_, rfl, rfl, hb⟩
   ·refine step_of _ _ hM hV hnd (by rw [hD]; rfl) rfl rfl rfl (of_decide_eq_true rfl) (within_of (by kernel_rfl) _) ?_
    intro a w9 hm hold hdep
    obtain ⟨_, h0, rfl⟩ := hdep 21 _ (by rw [hD]; rfl) (by rfl)
    have e0 := eval_of h0
    obtain ⟨_, h1, rfl⟩ := hdep 24 _ (by rw [hD]; rfl) (by rfl)
    have e1 := eval_of h1
    have c := C11.out
    try simp only [ByteArray.size_append] at c
    exact gPure (by first | (go_simp; done) | (go_simp; rfl) | (go_simp; exact c))
   ·refine step_of _ _ hM hV hnd (by rw [hD]; rfl) rfl rfl rfl (of_decide_eq_true rfl) (within_of (by kernel_rfl) _) ?_
    intro a w9 hm hold hdep
    have e0 := eval_of ((hold 4 (by rw [hD]; rfl)).trans rfl)
    exact gPure (by first | (go_simp; done) | (go_simp; rfl))
   ·refine step_of _ _ hM hV hnd (by rw [hD]; rfl) rfl rfl rfl (of_decide_eq_true rfl) (within_of (by kernel_rfl) _) ?_
    intro a w9 hm hold hdep
    obtain ⟨_, h0, rfl⟩ := hdep 26 _ (by rw [hD]; rfl) (by rfl)
    have e0 := eval_of h0
    have z := (blk_cell hm.2.1 3).trans rfl
    exact gPure (by first | (go_simp; done) | (go_simp; rfl))
   ·refine step_of _ _ hM hV hnd (by rw [hD]; rfl) rfl rfl rfl (of_decide_eq_true rfl) (within_of (by kernel_rfl) _) ?_
    intro a w9 hm hold hdep
    obtain ⟨_, h0, rfl⟩ := hdep 27 _ (by rw [hD]; rfl) (by rfl)
    have e0 := eval_of h0
    refine .inr ⟨76, #[.int .i64 a0_6], (by first | (go_simp; done) | (go_simp; rfl)), (spec_l01Var.calls k a0_6 t164 _ A11.out).mono ?_⟩
    rintro e w2 ⟨rfl, hb⟩
    exact ⟨_, rfl, rfl, hb⟩
   ·refine step_of _ _ hM hV hnd (by rw [hD]; rfl) rfl rfl rfl (of_decide_eq_true rfl) (within_of (by kernel_rfl) _) ?_
    intro a w9 hm hold hdep
    obtain ⟨_, h0, rfl⟩ := hdep 25 _ (by rw [hD]; rfl) (by rfl)
    have e0 := eval_of h0
    obtain ⟨_, h1, rfl⟩ := hdep 28 _ (by rw [hD]; rfl) (by rfl)
    have e1 := eval_of h1
    have c := C12.out
    try simp only [ByteArray.size_append] at c
    exact gPure (by first | (go_simp; done) | (go_simp; rfl) | (go_simp; exact c))
   ·refine step_of _ _ hM hV hnd (by rw [hD]; rfl) rfl rfl rfl (of_decide_eq_true rfl) (within_of (by kernel_rfl) _) ?_
    intro a w9 hm hold hdep
    obtain ⟨_, h0, rfl⟩ := hdep 29 _ (by rw [hD]; rfl) (by rfl)
    have e0 := eval_of h0
    refine .inr ⟨75, #[.string (((((strOfNums [a0_0 % 256, a0_1 % 256] ++ t158) ++ strOfNums [a0_3 % 256]) ++ t162) ++ t163) ++ t164)], (by first | (go_simp; done) | (go_simp; rfl)), (spec_Sealed.calls k _ t165 t166 _ A13.out).mono ?_⟩
    rintro e w2 ⟨rfl, hb⟩
    exact ⟨_, rfl, rfl, hb⟩
   ·refine step_of _ _ hM hV hnd (by rw [hD]; rfl) rfl rfl rfl (of_decide_eq_true rfl) (within_of (by kernel_rfl) _) ?_
    intro a w9 hm hold hdep
    obtain ⟨_, h0, rfl⟩ := hdep 30 _ (by rw [hD]; rfl) (by rfl)
    have e0 := eval_of h0
    exact gPure (by first | (go_simp; done) | (go_simp; rfl))
   ·refine step_of _ _ hM hV hnd (by rw [hD]; rfl) rfl rfl rfl (of_decide_eq_true rfl) (within_of (by kernel_rfl) _) ?_
    intro a w9 hm hold hdep
    obtain ⟨_, h0, rfl⟩ := hdep 30 _ (by rw [hD]; rfl) (by rfl)
    have e0 := eval_of h0
    exact gPure (by first | (go_simp; done) | (go_simp; rfl))
   ·refine step_of _ _ hM hV hnd (by rw [hD]; rfl) rfl rfl rfl (of_decide_eq_true rfl) (within_of (by kernel_rfl) _) ?_
    intro a w9 hm hold hdep
    obtain ⟨_, h0, rfl⟩ := hdep 31 _ (by rw [hD]; rfl) (by rfl)
    have e0 := eval_of h0
    exact gPure (by first | (go_simp; done) | (go_simp; rfl))
   ·refine step_of _ _ hM hV hnd (by rw [hD]; rfl) rfl rfl rfl (of_decide_eq_true rfl) (within_of (by kernel_rfl) _) ?_
    intro a w9 hm hold hdep
    obtain ⟨_, h0, rfl⟩ := hdep 32 _ (by rw [hD]; rfl) (by rfl)
    have e0 := eval_of h0
    exact gPure (by first | (go_simp; done) | (go_simp; rfl))
  ·intro a w9 hB9 hM9 hsz hdf hold hdone
   rename_i K hK
   obtain ⟨_, h2, rfl⟩ := hdone 33 _ (by decide) (by rw [hD]; rfl)
   obtain ⟨_, h3, rfl⟩ := hdone 34 _ (by decide) (by rw [hD]; rfl)
   show K a w9
   refine hK _ _ ?_
   go_wp2
   refine bodyPost_ret (results_list (rs := [.tmp 2, .tmp 3]) rfl (by simp) (.tmp (.tmp .nil))) (hdf.trans rfl) ⟨?_, hB9⟩
   simp only [Array.getD_eq_getD_getElem?]
   rw [h2, h3]
   rfl
 ·rename_i c3
  have c4 : t153 = false := by simpa using c3
  subst c4
  simp only [Option.some.injEq, Prod.mk.injEq] at h
  obtain ⟨rfl, rfl⟩ := h
  go_enter Tryd.func110, Tryd.ntmps110
  go_wp2_with (first
   | ((with_reducible refine gate_dst (N := 1) rfl ?_); refine box_event rfl (N := 1) rfl (cs := #[.int .i64 a0_0, .int .i64 a0_1, .int .i64 a0_2, .int .i64 a0_3, .int .i64 a0_4, .int .i64 a0_5, .int .i64 a0_6]) (t := 115) (by kernel_rfl) ?_; intro g hg w1 hbox hb; have BK := Aside0.mk hbox; have GE := Aside0.mk (by rw [hg]; exact below_size HB.out : w.heap.size ≤ g); have n1_ := Aside0.mk (below_step HB.out hb); clear HB; have HB := n1_; clear n1_ hbox hb hg; have z0 : w1.cell? ⟨g, 0, none⟩ = some (.int .i64 a0_0) := (blk_cell BK.out 0).trans rfl; have z1 : w1.cell? ⟨g, 1, none⟩ = some (.int .i64 a0_1) := (blk_cell BK.out 1).trans rfl; have z2 : w1.cell? ⟨g, 2, none⟩ = some (.int .i64 a0_2) := (blk_cell BK.out 2).trans rfl; have z3 : w1.cell? ⟨g, 3, none⟩ = some (.int .i64 a0_3) := (blk_cell BK.out 3).trans rfl; have z4 : w1.cell? ⟨g, 4, none⟩ = some (.int .i64 a0_4) := (blk_cell BK.out 4).trans rfl; have z5 : w1.cell? ⟨g, 5, none⟩ = some (.int .i64 a0_5) := (blk_cell BK.out 5).trans rfl; have z6 : w1.cell? ⟨g, 6, none⟩ = some (.int .i64 a0_6) := (blk_cell BK.out 6).trans rfl)
   | (go_at_call 126; (with_reducible refine (spec_FrameOk.calls k a0_0 a0_1 a0_2 a0_3 a0_4 a0_5 a0_6 false _ A2.out).mono ?_); rintro e w2 ⟨rfl, hb⟩; have n1_ := Aside0.mk (below_step HB.out hb); clear HB; have HB := n1_; clear n1_ hb))
  refine bodyPost_ret (results_list (rs := [.tmp 2, .tmp 3]) rfl (by simp) (.tmp (.tmp .nil))) rfl ⟨rfl, HB.out⟩
end Go.Proofs.YtdhjolglbcoijaaDoor.PA

namespace Go.Proofs.YtdhjolglbcoijaaDoor.PA
open Go.RowKit Go.Proofs.YtdhjolglbcoijaaDoor.Short Go.Proofs.YtdhjolglbcoijaaDoorW.PrintWords Go.Proofs.YtdhjolglbcoijaaDoorW.PrintLast Go.Proofs.YtdhjolglbcoijaaDoorW.PrintMore
attribute [local go_sem] max2_int min2_int max_two min_two max_three min_three max_four min_four   -- for this text's walks alone
set_option linter.unusedVariables false
set_option linter.unusedSimpArgs false

def spec_EntryText.f (k : Nat) (a0_0 : Int) (a0_1 : Int) (a0_2 : Int) (a0_3 : Int) (a0_4 : Int) (a0_5 : Int) : Option (ByteArray) := (spec_FrameText.f k 1 a0_0 a0_1 a0_2 a0_3 a0_4 a0_5).bind fun bt155 => (some bt155.1)
theorem spec_EntryText.mono : ∀ a0 a1 a2 a3 a4 a5 k, LeO (spec_EntryText.f k a0 a1 a2 a3 a4 a5) (spec_EntryText.f (k + 1) a0 a1 a2 a3 a4 a5) := by
 intro a0 a1 a2 a3 a4 a5 k
 unfold spec_EntryText.f
 have m0 := @spec_FrameText.mono
 exact mo_
theorem spec_EntryText.calls (k : Nat) (a0_0 : Int) (a0_1 : Int) (a0_2 : Int) (a0_3 : Int) (a0_4 : Int) (a0_5 : Int) (r : ByteArray) (w : World) (h : spec_EntryText.f k a0_0 a0_1 a0_2 a0_3 a0_4 a0_5 = some r) :
 Calls Tryd.prog 64 #[.agg #[.int .i64 a0_0, .int .i64 a0_1, .int .i64 a0_2, .int .i64 a0_3, .int .i64 a0_4, .int .i64 a0_5]] w fun e w' => e = .returned (.string r) ∧ Below w.heap.size w w' := by
 have hu70 := Tryd.underlying70
 have hu68 := Tryd.underlying68
 have hu115 := Tryd.underlying115
 have HB := Aside0.mk (Below.refl w.heap.size w)
 have H := h
 unfold spec_EntryText.f at H
 clear h
 replace H := bs_ H
 obtain ⟨⟨t155, t156⟩, A2, H⟩ := H
 try dsimp only at H
 obtain rfl := Option.some.inj H
 go_enter Tryd.func64, Tryd.ntmps64
 go_wp2_with (first | ((with_reducible refine gate_dst (N := 1) rfl ?_); refine bx_ 1 70 #[.int .i64 a0_0, .int .i64 a0_1, .int .i64 a0_2, .int .i64 a0_3, .int .i64 a0_4, .int .i64 a0_5] ?_; intro gb154 hg w3 hbox hb; have BK154 := Aside0.mk (hbox); have GW154 := Aside0.mk ((hz_ : w.heap.size ≤ gb154)); have GE154 := Aside0.mk ((hz_ : w.heap.size ≤ gb154)); replace HB := Aside0.mk (below_step bl_ hb); clear hb hbox hg; obtain ⟨hcz4_0, hcz4_1, hcz4_2, hcz4_3, hcz4_4, hcz4_5, hfz4_0, hfz4_1, hfz4_2, hfz4_3, hfz4_4, hfz4_5⟩ := cf6_ BK154.out) | ((with_reducible refine gate_callee (f := 110) rfl ?_); refine gs_ (some 13) Tryd.func110 #[.agg #[.int .i64 1, .int .i64 a0_0, .int .i64 a0_1, .int .i64 a0_2, .int .i64 a0_3, .int .i64 a0_4, .int .i64 a0_5]] ?_; (with_reducible refine (spec_FrameText.calls k 1 a0_0 a0_1 a0_2 a0_3 a0_4 a0_5 t155 t156 _ A2.out).mono ?_); rintro e w5 ⟨rfl, hb⟩; refine ⟨_, rfl, ?_⟩; replace BK154 := Aside0.mk (blk_below (bn0_ BK154.out) hb); replace HB := Aside0.mk (below_step bl_ hb); (try clear hb)))
 go_ret
 exact ⟨er_, bl_⟩


def impl_four.f (a0 : Int) : Option (ByteArray) := some (strOfNums (([(a0 / 16777216) % 256, (a0 / 65536) % 256, (a0 / 256) % 256, (a0) % 256] : List Int)))
theorem impl_four.calls (a0 : Int) (r : ByteArray) (w : World) (h : impl_four.f a0 = some r) :
 Calls Tryd.prog 115 #[.int .i64 a0] w fun e w' => e = .returned (.string r) ∧ Below w.heap.size w w' := by
 have HB := Aside0.mk (Below.refl w.heap.size w)
 have H := h
 unfold impl_four.f at H
 clear h
 obtain ⟨y249, hy249⟩ : ∃ y_ : List Int, y_ = (([(a0 / 16777216) % 256, (a0 / 65536) % 256, (a0 / 256) % 256, (a0) % 256] : List Int)) := ⟨_, rfl⟩
 replace H : (some (strOfNums y249)) = some r := rp_ H hy249
 have Ny249 := Aside0.mk hy249
 clear hy249
 obtain rfl := Option.some.inj H
 go_enter Tryd.func115, Tryd.ntmps115
 go_wp2_with (first | ((with_reducible refine gate_dst (N := 14) rfl ?_); refine Kd.R_lit (Kd.int .u8) _ 5 ?hg (N := 14) ?hd (xs := ([(a0 / 16777216) % 256, (a0 / 65536) % 256, (a0 / 256) % 256, (a0) % 256] : List Int)) (inner := [.int .u8 ((a0 / 16777216) % 256), .int .u8 ((a0 / 65536) % 256), .int .u8 ((a0 / 256) % 256), .int .u8 ((a0) % 256)]) (ok := fun _ => True) (okp := fun _ => True) ?hr ?hp (fun _ hk => hk) trivial (Below.refl _ _) (Nat.le_refl _) (by simp) ?_; (case hd => rfl); (case hg => rfl); (case hr => first | (go_simp; done) | (go_simp; rfl)); (case hp => exact (Reps.one (show Kd.M (Kd.int .u8) _ _ _ ((a0 / 16777216) % 256) [.int .u8 ((a0 / 16777216) % 256)] from rfl) (Reps.one (show Kd.M (Kd.int .u8) _ _ _ ((a0 / 65536) % 256) [.int .u8 ((a0 / 65536) % 256)] from rfl) (Reps.one (show Kd.M (Kd.int .u8) _ _ _ ((a0 / 256) % 256) [.int .u8 ((a0 / 256) % 256)] from rfl) (Reps.one (show Kd.M (Kd.int .u8) _ _ _ ((a0) % 256) [.int .u8 ((a0) % 256)] from rfl) (Reps.none _ _)))))); intro v250 w2 ho3 hb hg_ hnew_; clear hg_ hnew_; (first | rw [← Ny249.out] at ho3 | (simp only [Int.reduceToNat] at ho3; rw [← Ny249.out] at ho3)); have HO251 := Aside0.mk (Kd.R_lower ho3 (below_size bl_)); replace HB := Aside0.mk (below_step bl_ hb); clear hb ho3; have hcv4 := own_string (P := Tryd.prog) Tryd.underlying61 Tryd.underlying5 Tryd.underlying9 (Kd.own_of_R HO251.out)))
 go_ret
 exact ⟨er_, bl_⟩


def impl_within.f (a0 : Int) (a1 : Int) (a2 : Int) : Option (Bool) := if a0 ≥ a1 then (some (decide (a0 ≤ a2))) else (some false)
theorem impl_within.calls (a0 : Int) (a1 : Int) (a2 : Int) (r : Bool) (w : World) (h : impl_within.f a0 a1 a2 = some r) :
 Calls Tryd.prog 72 #[.int .i64 a0, .int .i64 a1, .int .i64 a2] w fun e w' => e = .returned (.bool r) ∧ Drawn0 w w' := by
 have H := h
 unfold impl_within.f at H
 clear h
 by_cases c4 : a0 ≥ a1
 rotate_left
 ·rw [if_neg c4] at H
  have c4b0 := decide_eq_false c4
  clear c4
  obtain rfl := Option.some.inj H
  go_enter Tryd.func72, Tryd.ntmps72
  go_wp2
  go_ret
  exact ⟨sr_, by repeat (first | exact Drawn0.refl _ | apply Drawn0.step)⟩
 rw [if_pos c4] at H
 have c4b0 := decide_eq_true c4
 clear c4
 obtain rfl := Option.some.inj H
 go_enter Tryd.func72, Tryd.ntmps72
 go_wp2
 go_ret
 exact ⟨sr_, by repeat (first | exact Drawn0.refl _ | apply Drawn0.step)⟩


def impl_isPid.f (a0 : Int) : Option (Bool) := (impl_within.f a0 0 2).bind fun t255 => (some t255)
theorem impl_isPid.calls (a0 : Int) (r : Bool) (w : World) (h : impl_isPid.f a0 = some r) :
 Calls Tryd.prog 134 #[.int .i64 a0] w fun e w' => e = .returned (.bool r) ∧ Drawn0 w w' := by
 have H := h
 unfold impl_isPid.f at H
 clear h
 replace H := bs_ H
 obtain ⟨t255, A2, H⟩ := H
 try dsimp only at H
 obtain rfl := Option.some.inj H
 go_enter Tryd.func134, Tryd.ntmps134
 go_wp2_with (first | ((with_reducible refine gate_callee (f := 72) rfl ?_); refine gs_ (some 4) Tryd.func72 #[.int .i64 a0, .int .i64 0, .int .i64 2] ?_; (with_reducible refine (impl_within.calls a0 0 2 t255 _ A2.out).mono ?_); rintro e w' ⟨rfl, ⟨nd, rfl⟩⟩; refine ⟨_, rfl, ?_⟩))
 go_ret
 exact ⟨sr_, by repeat (first | exact Drawn0.refl _ | apply Drawn0.step)⟩


def impl_HalfOk.f (a0 : Int) : Option (Bool) := (impl_within.f a0 0 4294967295).bind fun t256 => (some t256)
theorem impl_HalfOk.calls (a0 : Int) (r : Bool) (w : World) (h : impl_HalfOk.f a0 = some r) :
 Calls Tryd.prog 131 #[.int .i64 a0] w fun e w' => e = .returned (.bool r) ∧ Drawn0 w w' := by
 have H := h
 unfold impl_HalfOk.f at H
 clear h
 replace H := bs_ H
 obtain ⟨t256, A2, H⟩ := H
 try dsimp only at H
 obtain rfl := Option.some.inj H
 go_enter Tryd.func131, Tryd.ntmps131
 go_wp2_with (first | ((with_reducible refine gate_callee (f := 72) rfl ?_); refine gs_ (some 4) Tryd.func72 #[.int .i64 a0, .int .i64 0, .int .i64 4294967295] ?_; (with_reducible refine (impl_within.calls a0 0 4294967295 t256 _ A2.out).mono ?_); rintro e w' ⟨rfl, ⟨nd, rfl⟩⟩; refine ⟨_, rfl, ?_⟩))
 go_ret
 exact ⟨sr_, by repeat (first | exact Drawn0.refl _ | apply Drawn0.step)⟩


def impl_ItemOk.f (a0_0 : Int) (a0_1 : Int) (a0_2 : Int) (a0_3 : Int) : Option (Bool) := if a0_0 = 1 then ((impl_HalfOk.f a0_1).bind fun t258 => (if t258 = true then ((impl_HalfOk.f a0_2).bind fun t259 => (if t259 = true then (some (a0_3 == 0)) else (some false))) else (some false))) else (if a0_0 = 2 then ((impl_within.f a0_3 1 1000000000).bind fun t260 => (if t260 = true then (if a0_1 = 0 then (some (a0_2 == 0)) else (some false)) else (some false))) else (some false))
theorem impl_ItemOk.calls (a0_0 : Int) (a0_1 : Int) (a0_2 : Int) (a0_3 : Int) (r : Bool) (w : World) (h : impl_ItemOk.f a0_0 a0_1 a0_2 a0_3 = some r) :
 Calls Tryd.prog 135 #[.agg #[.int .i64 a0_0, .int .i64 a0_1, .int .i64 a0_2, .int .i64 a0_3]] w fun e w' => e = .returned (.bool r) ∧ Below w.heap.size w w' := by
 have hu68 := Tryd.underlying68
 have HB := Aside0.mk (Below.refl w.heap.size w)
 have H := h
 unfold impl_ItemOk.f at H
 clear h
 by_cases c2 : a0_0 = 1
 ·rw [if_pos c2] at H
  have c2b0 : (a0_0 == 1) = true := beq_iff_eq.mpr c2
  have c2b1 : (a0_0 != 1) = false := bne_eq_false_iff_eq.mpr c2
  clear c2
  replace H := bs_ H
  obtain ⟨t258, A3, H⟩ := H
  try dsimp only at H
  by_cases c4 : t258 = true
  rotate_left
  ·replace c4 := Bool.eq_false_iff.mpr c4
   subst c4
   rw [nf_] at H
   obtain rfl := Option.some.inj H
   go_enter Tryd.func135, Tryd.ntmps135
   go_wp2_with (first | ((with_reducible refine gate_dst (N := 1) rfl ?_); refine bx_ 1 68 #[.int .i64 a0_0, .int .i64 a0_1, .int .i64 a0_2, .int .i64 a0_3] ?_; intro gb257 hg w11 hbox hb; have BK257 := Aside0.mk (hbox); have GW257 := Aside0.mk ((hz_ : w.heap.size ≤ gb257)); have GE257 := Aside0.mk ((hz_ : w.heap.size ≤ gb257)); replace HB := Aside0.mk (below_step bl_ hb); clear hb hbox hg; obtain ⟨hcz12_0, hcz12_1, hcz12_2, hcz12_3, hfz12_0, hfz12_1, hfz12_2, hfz12_3⟩ := cf4_ BK257.out) | ((with_reducible refine gate_callee (f := 131) rfl ?_); refine gs_ (some 9) Tryd.func131 #[.int .i64 a0_1] ?_; (with_reducible refine (impl_HalfOk.calls a0_1 false _ A3.out).mono ?_); rintro e w' ⟨rfl, ⟨nd, rfl⟩⟩; refine ⟨_, rfl, ?_⟩))
   go_ret
   exact ⟨er_, bl_⟩
  subst c4
  rw [if_pos rfl] at H
  replace H := bs_ H
  obtain ⟨t259, A5, H⟩ := H
  try dsimp only at H
  by_cases c6 : t259 = true
  ·subst c6
   rw [if_pos rfl] at H
   obtain rfl := Option.some.inj H
   go_enter Tryd.func135, Tryd.ntmps135
   go_wp2_with (first | ((with_reducible refine gate_dst (N := 1) rfl ?_); refine bx_ 1 68 #[.int .i64 a0_0, .int .i64 a0_1, .int .i64 a0_2, .int .i64 a0_3] ?_; intro gb257 hg w7 hbox hb; have BK257 := Aside0.mk (hbox); have GW257 := Aside0.mk ((hz_ : w.heap.size ≤ gb257)); have GE257 := Aside0.mk ((hz_ : w.heap.size ≤ gb257)); replace HB := Aside0.mk (below_step bl_ hb); clear hb hbox hg; obtain ⟨hcz8_0, hcz8_1, hcz8_2, hcz8_3, hfz8_0, hfz8_1, hfz8_2, hfz8_3⟩ := cf4_ BK257.out) | ((with_reducible refine gate_callee (f := 131) rfl ?_); refine gs_ (some 9) Tryd.func131 #[.int .i64 a0_1] ?_; (with_reducible refine (impl_HalfOk.calls a0_1 true _ A3.out).mono ?_); rintro e w' ⟨rfl, ⟨nd, rfl⟩⟩; refine ⟨_, rfl, ?_⟩) | (go_at_call 131; (with_reducible refine (impl_HalfOk.calls a0_2 true _ A5.out).mono ?_); rintro e w' ⟨rfl, ⟨nd, rfl⟩⟩))
   go_ret
   exact ⟨er_, bl_⟩
  replace c6 := Bool.eq_false_iff.mpr c6
  subst c6
  rw [nf_] at H
  obtain rfl := Option.some.inj H
  go_enter Tryd.func135, Tryd.ntmps135
  go_wp2_with (first | ((with_reducible refine gate_dst (N := 1) rfl ?_); refine bx_ 1 68 #[.int .i64 a0_0, .int .i64 a0_1, .int .i64 a0_2, .int .i64 a0_3] ?_; intro gb257 hg w9 hbox hb; have BK257 := Aside0.mk (hbox); have GW257 := Aside0.mk ((hz_ : w.heap.size ≤ gb257)); have GE257 := Aside0.mk ((hz_ : w.heap.size ≤ gb257)); replace HB := Aside0.mk (below_step bl_ hb); clear hb hbox hg; obtain ⟨hcz10_0, hcz10_1, hcz10_2, hcz10_3, hfz10_0, hfz10_1, hfz10_2, hfz10_3⟩ := cf4_ BK257.out) | ((with_reducible refine gate_callee (f := 131) rfl ?_); refine gs_ (some 9) Tryd.func131 #[.int .i64 a0_1] ?_; (with_reducible refine (impl_HalfOk.calls a0_1 true _ A3.out).mono ?_); rintro e w' ⟨rfl, ⟨nd, rfl⟩⟩; refine ⟨_, rfl, ?_⟩) | (go_at_call 131; (with_reducible refine (impl_HalfOk.calls a0_2 false _ A5.out).mono ?_); rintro e w' ⟨rfl, ⟨nd, rfl⟩⟩))
  go_ret
  exact ⟨er_, bl_⟩
 rw [if_neg c2] at H
 have c2b0 : (a0_0 == 1) = false := beq_eq_false_iff_ne.mpr c2
 have c2b1 : (a0_0 != 1) = true := bne_iff_ne.mpr c2
 by_cases c13 : a0_0 = 2
 rotate_left
 ·rw [if_neg c13] at H
  have c13b0 : (a0_0 == 2) = false := beq_eq_false_iff_ne.mpr c13
  have c13b1 : (a0_0 != 2) = true := bne_iff_ne.mpr c13
  obtain rfl := Option.some.inj H
  go_enter Tryd.func135, Tryd.ntmps135
  go_wp2_with (first | ((with_reducible refine gate_dst (N := 1) rfl ?_); refine bx_ 1 68 #[.int .i64 a0_0, .int .i64 a0_1, .int .i64 a0_2, .int .i64 a0_3] ?_; intro gb257 hg w23 hbox hb; have BK257 := Aside0.mk (hbox); have GW257 := Aside0.mk ((hz_ : w.heap.size ≤ gb257)); have GE257 := Aside0.mk ((hz_ : w.heap.size ≤ gb257)); replace HB := Aside0.mk (below_step bl_ hb); clear hb hbox hg; obtain ⟨hcz24_0, hcz24_1, hcz24_2, hcz24_3, hfz24_0, hfz24_1, hfz24_2, hfz24_3⟩ := cf4_ BK257.out))
  go_ret
  exact ⟨er_, bl_⟩
 rw [if_pos c13] at H
 have c13b0 : (a0_0 == 2) = true := beq_iff_eq.mpr c13
 have c13b1 : (a0_0 != 2) = false := bne_eq_false_iff_eq.mpr c13
 clear c13
 replace H := bs_ H
 obtain ⟨t260, A14, H⟩ := H
 try dsimp only at H
 by_cases c15 : t260 = true
 rotate_left
 ·replace c15 := Bool.eq_false_iff.mpr c15
  subst c15
  rw [nf_] at H
  obtain rfl := Option.some.inj H
  go_enter Tryd.func135, Tryd.ntmps135
  go_wp2_with (first | ((with_reducible refine gate_dst (N := 1) rfl ?_); refine bx_ 1 68 #[.int .i64 a0_0, .int .i64 a0_1, .int .i64 a0_2, .int .i64 a0_3] ?_; intro gb257 hg w21 hbox hb; have BK257 := Aside0.mk (hbox); have GW257 := Aside0.mk ((hz_ : w.heap.size ≤ gb257)); have GE257 := Aside0.mk ((hz_ : w.heap.size ≤ gb257)); replace HB := Aside0.mk (below_step bl_ hb); clear hb hbox hg; obtain ⟨hcz22_0, hcz22_1, hcz22_2, hcz22_3, hfz22_0, hfz22_1, hfz22_2, hfz22_3⟩ := cf4_ BK257.out) | ((with_reducible refine gate_callee (f := 72) rfl ?_); refine gs_ (some 24) Tryd.func72 #[.int .i64 a0_3, .int .i64 1, .int .i64 1000000000] ?_; (with_reducible refine (impl_within.calls a0_3 1 1000000000 false _ A14.out).mono ?_); rintro e w' ⟨rfl, ⟨nd, rfl⟩⟩; refine ⟨_, rfl, ?_⟩))
  go_ret
  exact ⟨er_, bl_⟩
 subst c15
 rw [if_pos rfl] at H
 by_cases c16 : a0_1 = 0
 rotate_left
 ·rw [if_neg c16] at H
  have c16b0 : (a0_1 == 0) = false := beq_eq_false_iff_ne.mpr c16
  have c16b1 : (a0_1 != 0) = true := bne_iff_ne.mpr c16
  obtain rfl := Option.some.inj H
  go_enter Tryd.func135, Tryd.ntmps135
  go_wp2_with (first | ((with_reducible refine gate_dst (N := 1) rfl ?_); refine bx_ 1 68 #[.int .i64 a0_0, .int .i64 a0_1, .int .i64 a0_2, .int .i64 a0_3] ?_; intro gb257 hg w19 hbox hb; have BK257 := Aside0.mk (hbox); have GW257 := Aside0.mk ((hz_ : w.heap.size ≤ gb257)); have GE257 := Aside0.mk ((hz_ : w.heap.size ≤ gb257)); replace HB := Aside0.mk (below_step bl_ hb); clear hb hbox hg; obtain ⟨hcz20_0, hcz20_1, hcz20_2, hcz20_3, hfz20_0, hfz20_1, hfz20_2, hfz20_3⟩ := cf4_ BK257.out) | ((with_reducible refine gate_callee (f := 72) rfl ?_); refine gs_ (some 24) Tryd.func72 #[.int .i64 a0_3, .int .i64 1, .int .i64 1000000000] ?_; (with_reducible refine (impl_within.calls a0_3 1 1000000000 true _ A14.out).mono ?_); rintro e w' ⟨rfl, ⟨nd, rfl⟩⟩; refine ⟨_, rfl, ?_⟩))
  go_ret
  exact ⟨er_, bl_⟩
 rw [if_pos c16] at H
 have c16b0 : (a0_1 == 0) = true := beq_iff_eq.mpr c16
 have c16b1 : (a0_1 != 0) = false := bne_eq_false_iff_eq.mpr c16
 clear c16
 obtain rfl := Option.some.inj H
 go_enter Tryd.func135, Tryd.ntmps135
 go_wp2_with (first | ((with_reducible refine gate_dst (N := 1) rfl ?_); refine bx_ 1 68 #[.int .i64 a0_0, .int .i64 a0_1, .int .i64 a0_2, .int .i64 a0_3] ?_; intro gb257 hg w17 hbox hb; have BK257 := Aside0.mk (hbox); have GW257 := Aside0.mk ((hz_ : w.heap.size ≤ gb257)); have GE257 := Aside0.mk ((hz_ : w.heap.size ≤ gb257)); replace HB := Aside0.mk (below_step bl_ hb); clear hb hbox hg; obtain ⟨hcz18_0, hcz18_1, hcz18_2, hcz18_3, hfz18_0, hfz18_1, hfz18_2, hfz18_3⟩ := cf4_ BK257.out) | ((with_reducible refine gate_callee (f := 72) rfl ?_); refine gs_ (some 24) Tryd.func72 #[.int .i64 a0_3, .int .i64 1, .int .i64 1000000000] ?_; (with_reducible refine (impl_within.calls a0_3 1 1000000000 true _ A14.out).mono ?_); rintro e w' ⟨rfl, ⟨nd, rfl⟩⟩; refine ⟨_, rfl, ?_⟩))
 go_ret
 exact ⟨er_, bl_⟩


attribute [local go_sem high] eqA68
def impl_FrameOk.j0 : Nat → Bool → Int → Int → Int → Int → Int → Int → Int → Option (Bool)
 | 0, _, _, _, _, _, _, _, _ => none
 | k + 1, x12, x262000, x262001, x262002, x262003, x262004, x262005, x262006 => if x12 = true then (some false) else (if x262000 = 1 then ((impl_ItemOk.f x262003 x262004 x262005 x262006).bind fun t264 => (some t264)) else (if x262000 = 2 then (some (x262003 == 0 && (x262004 == 0 && (x262005 == 0 && (x262006 == 0))))) else (some false)))
def impl_FrameOk.f (k : Nat) (a0_0 : Int) (a0_1 : Int) (a0_2 : Int) (a0_3 : Int) (a0_4 : Int) (a0_5 : Int) (a0_6 : Int) : Option (Bool) := (impl_isPid.f a0_1).bind fun t262 => (if t262 = true then ((impl_within.f a0_2 1 1000000000).bind fun t263 => (impl_FrameOk.j0 k (!t263) a0_0 a0_1 a0_2 a0_3 a0_4 a0_5 a0_6)) else (impl_FrameOk.j0 k true a0_0 a0_1 a0_2 a0_3 a0_4 a0_5 a0_6))
theorem impl_FrameOk.mono_l : ∀ k, (∀ y0 y1 y2 y3 y4 y5 y6 y7, LeO (impl_FrameOk.j0 k y0 y1 y2 y3 y4 y5 y6 y7) (impl_FrameOk.j0 (k + 1) y0 y1 y2 y3 y4 y5 y6 y7))
 | 0 => fun _ _ _ _ _ _ _ _ r h => by simp [impl_FrameOk.j0] at h
 | k + 1 => by
  have ih0 := impl_FrameOk.mono_l k
  ·intro y0 y1 y2 y3 y4 y5 y6 y7
   unfold impl_FrameOk.j0
   exact mo_
theorem impl_FrameOk.mono : ∀ a0 a1 a2 a3 a4 a5 a6 k, LeO (impl_FrameOk.f k a0 a1 a2 a3 a4 a5 a6) (impl_FrameOk.f (k + 1) a0 a1 a2 a3 a4 a5 a6) := by
 intro a0 a1 a2 a3 a4 a5 a6 k
 have ih0 := impl_FrameOk.mono_l k
 unfold impl_FrameOk.f
 exact mo_
theorem impl_FrameOk.calls (k : Nat) (a0_0 : Int) (a0_1 : Int) (a0_2 : Int) (a0_3 : Int) (a0_4 : Int) (a0_5 : Int) (a0_6 : Int) (r : Bool) (w : World) (h : impl_FrameOk.f k a0_0 a0_1 a0_2 a0_3 a0_4 a0_5 a0_6 = some r) :
 Calls Tryd.prog 125 #[.agg #[.int .i64 a0_0, .int .i64 a0_1, .int .i64 a0_2, .int .i64 a0_3, .int .i64 a0_4, .int .i64 a0_5, .int .i64 a0_6]] w fun e w' => e = .returned (.bool r) ∧ Below w.heap.size w w' := by
 have hu115 := Tryd.underlying115
 have hu68 := Tryd.underlying68
 have HB := Aside0.mk (Below.refl w.heap.size w)
 have H := h
 unfold impl_FrameOk.f at H
 clear h
 have HC2 := Aside0.mk H
 clear H
 go_enter Tryd.func125, Tryd.ntmps125
 go_upto_region 1 with (first | ((with_reducible refine gate_dst (N := 1) rfl ?_); refine bx_ 1 115 #[.int .i64 a0_0, .int .i64 a0_1, .int .i64 a0_2, .int .i64 a0_3, .int .i64 a0_4, .int .i64 a0_5, .int .i64 a0_6] ?_; intro gb261 hg w3 hbox hb; have BK261 := Aside0.mk (hbox); have GW261 := Aside0.mk ((hz_ : w.heap.size ≤ gb261)); have GE261 := Aside0.mk ((hz_ : w.heap.size ≤ gb261)); replace HB := Aside0.mk (below_step bl_ hb); clear hb hbox hg))
 (try simp only [Act.put, List.setIfInBounds_toArray, List.set_cons_zero, List.set_cons_succ])
 go_cut [12] (fun v12 wc => ∃ (kq : Nat) (x12_1 : Bool), v12 = .bool x12_1 ∧ Aside0 (impl_FrameOk.j0 kq x12_1 a0_0 a0_1 a0_2 a0_3 a0_4 a0_5 a0_6 = some r) ∧ Aside0 (kq ≤ k) ∧ Aside0 (wc.heap[gb261]? = some (.cells #[.int .i64 a0_0, .int .i64 a0_1, .int .i64 a0_2, .int .i64 a0_3, .int .i64 a0_4, .int .i64 a0_5, .int .i64 a0_6] 115 (0, 0))) ∧ Aside0 (Below w.heap.size w wc))
 case first =>
  have H := HC2.out
  clear HC2
  replace H := bs_ H
  obtain ⟨t262, A4, H⟩ := H
  try dsimp only at H
  by_cases c5 : t262 = true
  rotate_left
  ·replace c5 := Bool.eq_false_iff.mpr c5
   subst c5
   rw [nf_] at H
   have H' := Aside0.mk H
   clear H
   obtain ⟨hcz8_0, hcz8_1, hcz8_2, hcz8_3, hcz8_4, hcz8_5, hcz8_6, hfz8_0, hfz8_1, hfz8_2, hfz8_3, hfz8_4, hfz8_5, hfz8_6⟩ := cf7_ BK261.out
   go_wp2_with (first | ((with_reducible refine gate_callee (f := 134) rfl ?_); refine gs_ (some 5) Tryd.func134 #[.int .i64 a0_1] ?_; (with_reducible refine (impl_isPid.calls a0_1 false _ A4.out).mono ?_); rintro e w' ⟨rfl, ⟨nd, rfl⟩⟩; refine ⟨_, rfl, ?_⟩))
   go_meet
   case rel => exact ⟨_, (true), (sr_), H', ⟨by first | omega | exact Nat.le_refl _⟩, ⟨bk_ BK261.out⟩, ⟨bl_⟩⟩
  subst c5
  rw [if_pos rfl] at H
  replace H := bs_ H
  obtain ⟨t263, A6, H⟩ := H
  try dsimp only at H
  have H' := Aside0.mk H
  clear H
  obtain ⟨hcz7_0, hcz7_1, hcz7_2, hcz7_3, hcz7_4, hcz7_5, hcz7_6, hfz7_0, hfz7_1, hfz7_2, hfz7_3, hfz7_4, hfz7_5, hfz7_6⟩ := cf7_ BK261.out
  go_wp2_with (first | ((with_reducible refine gate_callee (f := 134) rfl ?_); refine gs_ (some 5) Tryd.func134 #[.int .i64 a0_1] ?_; (with_reducible refine (impl_isPid.calls a0_1 true _ A4.out).mono ?_); rintro e w' ⟨rfl, ⟨nd, rfl⟩⟩; refine ⟨_, rfl, ?_⟩) | (go_at_call 72; (with_reducible refine (impl_within.calls a0_2 1 1000000000 t263 _ A6.out).mono ?_); rintro e w' ⟨rfl, ⟨nd, rfl⟩⟩))
  go_meet
  case rel => exact ⟨_, (!t263), (sr_), H', ⟨by first | omega | exact Nat.le_refl _⟩, ⟨bk_ BK261.out⟩, ⟨bl_⟩⟩
 clear HC2
 obtain ⟨kq, x12_1, rfl, HA, HJ1, BK261, HB⟩ := hcut
 cases kq with
 | zero => exact absurd HA.out (by simp [impl_FrameOk.j0])
 | succ kj1 => ?_
 have H := HA.out
 clear HA
 simp only [impl_FrameOk.j0] at H
 by_cases c9 : x12_1 = true
 ·subst c9
  rw [if_pos rfl] at H
  obtain rfl := Option.some.inj H
  go_wp2
  go_ret
  exact ⟨er_, bl_⟩
 replace c9 := Bool.eq_false_iff.mpr c9
 subst c9
 rw [nf_] at H
 by_cases c10 : a0_0 = 1
 ·rw [if_pos c10] at H
  have c10b0 : (a0_0 == 1) = true := beq_iff_eq.mpr c10
  have c10b1 : (a0_0 != 1) = false := bne_eq_false_iff_eq.mpr c10
  clear c10
  replace H := bs_ H
  obtain ⟨t264, A11, H⟩ := H
  try dsimp only at H
  obtain rfl := Option.some.inj H
  obtain ⟨hcz12_0, hcz12_1, hcz12_2, hcz12_3, hcz12_4, hcz12_5, hcz12_6, hfz12_0, hfz12_1, hfz12_2, hfz12_3, hfz12_4, hfz12_5, hfz12_6⟩ := cf7_ BK261.out
  go_wp2_with (first | ((with_reducible refine gate_callee (f := 135) rfl ?_); refine gs_ (some 19) Tryd.func135 #[.agg #[.int .i64 a0_3, .int .i64 a0_4, .int .i64 a0_5, .int .i64 a0_6]] ?_; (with_reducible refine (impl_ItemOk.calls a0_3 a0_4 a0_5 a0_6 t264 _ A11.out).mono ?_); rintro e w13 ⟨rfl, hb⟩; refine ⟨_, rfl, ?_⟩; replace BK261 := Aside0.mk (blk_below (bn0_ BK261.out) hb); replace HB := Aside0.mk (below_step bl_ hb); (try clear hb)))
  go_ret
  exact ⟨er_, bl_⟩
 rw [if_neg c10] at H
 have c10b0 : (a0_0 == 1) = false := beq_eq_false_iff_ne.mpr c10
 have c10b1 : (a0_0 != 1) = true := bne_iff_ne.mpr c10
 by_cases c14 : a0_0 = 2
 rotate_left
 ·rw [if_neg c14] at H
  have c14b0 : (a0_0 == 2) = false := beq_eq_false_iff_ne.mpr c14
  have c14b1 : (a0_0 != 2) = true := bne_iff_ne.mpr c14
  obtain rfl := Option.some.inj H
  obtain ⟨hcz16_0, hcz16_1, hcz16_2, hcz16_3, hcz16_4, hcz16_5, hcz16_6, hfz16_0, hfz16_1, hfz16_2, hfz16_3, hfz16_4, hfz16_5, hfz16_6⟩ := cf7_ BK261.out
  go_wp2
  go_ret
  exact ⟨er_, bl_⟩
 rw [if_pos c14] at H
 have c14b0 : (a0_0 == 2) = true := beq_iff_eq.mpr c14
 have c14b1 : (a0_0 != 2) = false := bne_eq_false_iff_eq.mpr c14
 clear c14
 obtain rfl := Option.some.inj H
 obtain ⟨hcz15_0, hcz15_1, hcz15_2, hcz15_3, hcz15_4, hcz15_5, hcz15_6, hfz15_0, hfz15_1, hfz15_2, hfz15_3, hfz15_4, hfz15_5, hfz15_6⟩ := cf7_ BK261.out
 go_wp2
 go_ret
 exact ⟨er_, bl_⟩


def impl_VarText.l0 : Nat → Int → List Int → Option (ByteArray × Bool)
 | 0, _, _ => none
 | k + 1, x0, x4 => if x0 > 127 then (if x4.length < 140737488355328 then (impl_VarText.l0 k (x0 / 128) (x4 ++ [(Go.bits .or .i64 (Go.bits .and .i64 x0 127) 128) % 256])) else (none)) else (if x4.length < 140737488355328 then (some (strOfNums (x4 ++ [(x0) % 256]), true)) else (none))
def impl_VarText.f (k : Nat) (a0 : Int) : Option (ByteArray × Bool) := (impl_within.f a0 0 1000000000).bind fun t239 => (if t239 = true then (impl_VarText.l0 k a0 (([] : List Int))) else (some ((⟨#[]⟩ : ByteArray), false)))
theorem impl_VarText.mono_l : ∀ k, (∀ y0 y1, LeO (impl_VarText.l0 k y0 y1) (impl_VarText.l0 (k + 1) y0 y1))
 | 0 => fun _ _ r h => by simp [impl_VarText.l0] at h
 | k + 1 => by
  have ih0 := impl_VarText.mono_l k
  ·intro y0 y1
   unfold impl_VarText.l0
   exact mo_
theorem impl_VarText.mono : ∀ a0 k, LeO (impl_VarText.f k a0) (impl_VarText.f (k + 1) a0) := by
 intro a0 k
 have ih0 := impl_VarText.mono_l k
 unfold impl_VarText.f
 exact mo_
theorem impl_VarText.calls (k : Nat) (a0 : Int) (r1 : ByteArray) (r2 : Bool) (w : World) (h : impl_VarText.f k a0 = some (r1, r2)) :
 Calls Tryd.prog 77 #[.int .i64 a0] w fun e w' => e = .returned (.tuple #[.string r1, .bool r2]) ∧ Below w.heap.size w w' := by
 have HB := Aside0.mk (Below.refl w.heap.size w)
 have H := h
 unfold impl_VarText.f at H
 clear h
 replace H := bs_ H
 obtain ⟨t239, A2, H⟩ := H
 try dsimp only at H
 by_cases c3 : t239 = true
 rotate_left
 ·replace c3 := Bool.eq_false_iff.mpr c3
  subst c3
  rw [nf_] at H
  simp only [Option.some.injEq, Prod.mk.injEq] at H
  obtain ⟨rfl, rfl⟩ := H
  go_enter Tryd.func77, Tryd.ntmps77
  go_wp2_with (first | ((with_reducible refine gate_callee (f := 72) rfl ?_); refine gs_ (some 6) Tryd.func72 #[.int .i64 a0, .int .i64 0, .int .i64 1000000000] ?_; (with_reducible refine (impl_within.calls a0 0 1000000000 false _ A2.out).mono ?_); rintro e w' ⟨rfl, ⟨nd, rfl⟩⟩; refine ⟨_, rfl, ?_⟩))
  go_ret2
  exact ⟨er_, bl_⟩
 subst c3
 rw [if_pos rfl] at H
 obtain ⟨y240, hy240⟩ : ∃ y_ : List Int, y_ = (([] : List Int)) := ⟨_, rfl⟩
 replace H : (impl_VarText.l0 k a0 y240) = some (r1, r2) := rp_ H hy240
 have Ny240 := Aside0.mk hy240
 clear hy240
 have H' := Aside0.mk H
 clear H
 go_enter Tryd.func77, Tryd.ntmps77
 go_wp2_with (first | ((with_reducible refine gate_callee (f := 72) rfl ?_); refine gs_ (some 6) Tryd.func72 #[.int .i64 a0, .int .i64 0, .int .i64 1000000000] ?_; (with_reducible refine (impl_within.calls a0 0 1000000000 true _ A2.out).mono ?_); rintro e w' ⟨rfl, ⟨nd, rfl⟩⟩; refine ⟨_, rfl, ?_⟩) | ((with_reducible refine gate_dst (N := 8) rfl ?_); refine Kd.R_lit (Kd.int .u8) _ 5 ?hg (N := 8) ?hd (xs := ([] : List Int)) (inner := []) (ok := fun _ => True) (okp := fun _ => True) ?hr ?hp (fun _ hk => hk) trivial (Below.refl _ _) (Nat.le_refl _) (by simp) ?_; (case hd => rfl); (case hg => rfl); (case hr => first | (go_simp; done) | (go_simp; rfl)); (case hp => exact (Reps.none _ _)); intro v241 w4 ho5 hb hg_ hnew_; clear hg_ hnew_; (first | rw [← Ny240.out] at ho5 | (simp only [Int.reduceToNat] at ho5; rw [← Ny240.out] at ho5)); have HO242 := Aside0.mk (Kd.R_lower ho5 (below_size bl_)); replace HB := Aside0.mk (below_step bl_ hb); clear hb ho5))
 go_loopg [0, 4] k (fun kq v0 v4 w' => ∃ (x0_1 : Int) (x4_1 : List Int), v0 = .int .i64 x0_1 ∧ Aside0 (impl_VarText.l0 kq x0_1 x4_1 = some (r1, r2)) ∧ Aside0 (kq ≤ k) ∧ Aside0 (Kd.R (Kd.int .u8) 5 w' w.heap.size (fun _ => True) v4 x4_1) ∧ Aside0 (Below w.heap.size w w'))
 case atStart => exact ⟨(a0), (y240), (sr_), H', ⟨Nat.le_refl _⟩, ⟨ra_ HO242.out⟩, ⟨bl_⟩⟩
 clear H'
 try clear c3
 obtain ⟨x0_1, x4_1, rfl, HA, HK1, HO_4, HB⟩ := hrel
 cases gk with
 | zero => exact absurd HA.out (by simp [impl_VarText.l0])
 | succ k1 => ?_
 have H := HA.out
 clear HA
 simp only [impl_VarText.l0] at H
 by_cases c6 : x0_1 > 127
 rotate_left
 ·rw [if_neg c6] at H
  have c6b0 := decide_eq_false c6
  clear c6
  by_cases c9 : x4_1.length < 140737488355328
  rotate_left
  ·exact nn_ c9 H
  rw [if_pos c9] at H
  have LMc9 := Aside0.mk c9
  clear c9
  obtain ⟨y246, hy246⟩ : ∃ y_ : List Int, y_ = (x4_1 ++ [(x0_1) % 256]) := ⟨_, rfl⟩
  replace H : (some (strOfNums y246, true)) = some (r1, r2) := rp_ H hy246
  have Ny246 := Aside0.mk hy246
  clear hy246
  simp only [Option.some.injEq, Prod.mk.injEq] at H
  obtain ⟨rfl, rfl⟩ := H
  go_wp2_with (first | ((with_reducible refine gate_builtin (b := .append) (xs := #[.tmp 20, .tmp 23]) rfl ?_); at_builtin; refine Kd.R_append (Kd.int .u8) (w0 := w) w.heap.size rfl (.tmp 20) (.tmp 23) 61 5 (.int .u8 0) 1 rfl Tryd.underlying61 info5 rfl (by decide) (by omega) u4 x4_1 ((x0_1) % 256) [.int .u8 ((x0_1) % 256)] (fun _ => True) (fun _ => False) rfl rfl ?aP (fun _ hk => hk.elim) ?aF ?aO ?aB ?aS ?aL ?_; (case aP => exact rfl); (case aB => exact bl_); (case aF => exact (fun _ _ => trivial)); (case aO => exact (ra_ HO_4.out)); (case aS => exact (below_size bl_)); (case aL => have := LMc9.out; omega); intro v247 w10 ho hb hg hat; rw [← Ny246.out] at ho; replace HB := Aside0.mk (hb); have HO248 := Aside0.mk (ho); clear HO_4; clear ho hb hg hat; have hcv11 := own_string (P := Tryd.prog) Tryd.underlying61 Tryd.underlying5 Tryd.underlying9 (Kd.own_of_R HO248.out)))
  go_ret2
  exact ⟨er_, bl_⟩
 rw [if_pos c6] at H
 have c6b0 := decide_eq_true c6
 clear c6
 by_cases c7 : x4_1.length < 140737488355328
 rotate_left
 ·exact nn_ c7 H
 rw [if_pos c7] at H
 have LMc7 := Aside0.mk c7
 clear c7
 obtain ⟨y243, hy243⟩ : ∃ y_ : List Int, y_ = (x4_1 ++ [(Go.bits .or .i64 (Go.bits .and .i64 x0_1 127) 128) % 256]) := ⟨_, rfl⟩
 replace H : (impl_VarText.l0 k1 (x0_1 / 128) y243) = some (r1, r2) := rp_ H hy243
 have Ny243 := Aside0.mk hy243
 clear hy243
 have H' := Aside0.mk H
 clear H
 go_wp2_with (first | ((with_reducible refine gate_builtin (b := .append) (xs := #[.tmp 11, .tmp 16]) rfl ?_); at_builtin; refine Kd.R_append (Kd.int .u8) (w0 := w) w.heap.size rfl (.tmp 11) (.tmp 16) 61 5 (.int .u8 0) 1 rfl Tryd.underlying61 info5 rfl (by decide) (by omega) u4 x4_1 ((Go.bits .or .i64 (Go.bits .and .i64 x0_1 127) 128) % 256) [.int .u8 ((Go.bits .or .i64 (Go.bits .and .i64 x0_1 127) 128) % 256)] (fun _ => True) (fun _ => False) rfl rfl ?aP (fun _ hk => hk.elim) ?aF ?aO ?aB ?aS ?aL ?_; (case aP => exact rfl); (case aB => exact bl_); (case aF => exact (fun _ _ => trivial)); (case aO => exact (ra_ HO_4.out)); (case aS => exact (below_size bl_)); (case aL => have := LMc7.out; omega); intro v244 w8 ho hb hg hat; rw [← Ny243.out] at ho; replace HB := Aside0.mk (hb); have HO245 := Aside0.mk (ho); clear HO_4; clear ho hb hg hat))
 go_roundg k1
 case measure => have := HK1.out; omega
 case rel => exact ⟨(x0_1 / 128), (y243), (sr_), H', ⟨by have := HK1.out; omega⟩, ⟨ra_ HO245.out⟩, ⟨bl_⟩⟩


mutual
def impl_SumMore.l0 : Nat → Int → ByteArray → Int → Option (Int)
 | 0, _, _, _ => none
 | k + 1, x0, x1, x5 => if x5 < (x1.size : Int) then (if 0 ≤ x5 then (impl_SumMore.l1 k (Go.bits .xor .u32 x0 ((bt x1 x5) % 4294967296)) x1 x5 0) else (none)) else (some x0)
def impl_SumMore.l1 : Nat → Int → ByteArray → Int → Int → Option (Int)
 | 0, _, _, _, _ => none
 | k + 1, x0, x1, x5, x19 => if x19 < 8 then (if (Go.bits .and .u32 x0 1) = 1 then (impl_SumMore.l1 k (Go.bits .xor .u32 (x0 / 2) 3558460437) x1 x5 (wrap64 (x19 + 1))) else (impl_SumMore.l1 k (x0 / 2) x1 x5 (wrap64 (x19 + 1)))) else (impl_SumMore.l0 k x0 x1 (wrap64 (x5 + 1)))
end
def impl_SumMore.f (k : Nat) (a0 : Int) (a1 : ByteArray) : Option (Int) := impl_SumMore.l0 k a0 a1 0
theorem impl_SumMore.mono_l : ∀ k, (∀ y0 y1 y2, LeO (impl_SumMore.l0 k y0 y1 y2) (impl_SumMore.l0 (k + 1) y0 y1 y2)) ∧ (∀ y0 y1 y2 y3, LeO (impl_SumMore.l1 k y0 y1 y2 y3) (impl_SumMore.l1 (k + 1) y0 y1 y2 y3))
 | 0 => ⟨fun _ _ _ r h => by simp [impl_SumMore.l0] at h, fun _ _ _ _ r h => by simp [impl_SumMore.l1] at h⟩
 | k + 1 => by
  obtain ⟨ih0, ih1⟩ := impl_SumMore.mono_l k
  refine ⟨?_, ?_⟩
  ·intro y0 y1 y2
   unfold impl_SumMore.l0
   exact mo_
  ·intro y0 y1 y2 y3
   unfold impl_SumMore.l1
   exact mo_
theorem impl_SumMore.mono : ∀ a0 a1 k, LeO (impl_SumMore.f k a0 a1) (impl_SumMore.f (k + 1) a0 a1) := by
 intro a0 a1 k
 obtain ⟨ih0, ih1⟩ := impl_SumMore.mono_l k
 unfold impl_SumMore.f
 exact mo_
theorem impl_SumMore.calls (k : Nat) (a0 : Int) (a1 : ByteArray) (r : Int) (w : World) (h : impl_SumMore.f k a0 a1 = some r) :
 Calls Tryd.prog 130 #[.int .u32 a0, .string a1] w fun e w' => e = .returned (.int .u32 r) ∧ Drawn0 w w' := by
 have H := h
 unfold impl_SumMore.f at H
 clear h
 have H' := Aside0.mk H
 clear H
 go_enter Tryd.func130, Tryd.ntmps130
 go_wp2
 go_loopg [0, 5] k (fun kq v0 v5 w' => ∃ (x0_1 : Int) (x5_1 : Int), v0 = .int .u32 x0_1 ∧ v5 = .int .i64 x5_1 ∧ Aside0 (impl_SumMore.l0 kq x0_1 a1 x5_1 = some r) ∧ Aside0 (kq ≤ k) ∧ Drawn0 w w')
 case atStart => exact ⟨(a0), (0), (sr_), (sr_), H', ⟨Nat.le_refl _⟩, by repeat (first | exact Drawn0.refl _ | apply Drawn0.step)⟩
 clear H'
 obtain ⟨x0_1, x5_1, rfl, rfl, HA, HK1, ⟨m1, rfl⟩⟩ := hrel
 cases gk with
 | zero => exact absurd HA.out (by simp [impl_SumMore.l0])
 | succ k1 => ?_
 have H := HA.out
 clear HA
 simp only [impl_SumMore.l0] at H
 by_cases c3 : x5_1 < (a1.size : Int)
 rotate_left
 ·rw [if_neg c3] at H
  have c3b0 := decide_eq_false c3
  clear c3
  obtain rfl := Option.some.inj H
  go_wp2
  go_ret
  exact ⟨sr_, by repeat (first | exact Drawn0.refl _ | apply Drawn0.step)⟩
 rw [if_pos c3] at H
 have c3b0 := decide_eq_true c3
 clear c3
 by_cases c4 : 0 ≤ x5_1
 rotate_left
 ·exact nn_ c4 H
 rw [if_pos c4] at H
 have c4b0 := decide_eq_true c4
 clear c4
 have H' := Aside0.mk H
 clear H
 have p5 : 0 ≤ (x5_1 : Int) := of_decide_eq_true as_
 have q5 : x5_1 < (a1.size : Int) := of_decide_eq_true as_
 have hx5 := bt_at a1 x5_1
 replace p5 := eq_true p5
 replace q5 := eq_true q5
 go_wp2
 go_loopg [0, 19] k1 (fun kq v0 v19 w' => ∃ (x0_2 : Int) (x19_2 : Int), v0 = .int .u32 x0_2 ∧ v19 = .int .i64 x19_2 ∧ Aside0 (impl_SumMore.l1 kq x0_2 a1 x5_1 x19_2 = some r) ∧ Aside0 (kq ≤ k1) ∧ Drawn0 w w')
 case atStart => exact ⟨(Go.bits .xor .u32 x0_1 ((bt a1 x5_1) % 4294967296)), (0), (sr_), (sr_), H', ⟨Nat.le_refl _⟩, by repeat (first | exact Drawn0.refl _ | apply Drawn0.step)⟩
 clear H'
 try clear c3
 try clear c3b0
 try clear c4
 try clear c4b0
 try clear p5
 try clear q5
 try clear hx5
 try clear p5
 try clear q5
 obtain ⟨x0_2, x19_2, rfl, rfl, HA, HK2, ⟨m2, rfl⟩⟩ := hrel
 cases gk with
 | zero => exact absurd HA.out (by simp [impl_SumMore.l1])
 | succ k2 => ?_
 have H := HA.out
 clear HA
 simp only [impl_SumMore.l1] at H
 by_cases c6 : x19_2 < 8
 rotate_left
 ·rw [if_neg c6] at H
  have c6b0 := decide_eq_false c6
  clear c6
  have H' := Aside0.mk H
  clear H
  go_wp2
  go_roundg k2
  case measure => have := HK1.out; have := HK2.out; omega
  case rel => exact ⟨(x0_2), (wrap64 (x5_1 + 1)), (sr_), (sr_), H', ⟨by have := HK1.out; have := HK2.out; omega⟩, by repeat (first | exact Drawn0.refl _ | apply Drawn0.step)⟩
 rw [if_pos c6] at H
 have c6b0 := decide_eq_true c6
 clear c6
 by_cases c7 : (Go.bits .and .u32 x0_2 1) = 1
 rotate_left
 ·rw [if_neg c7] at H
  have c7b0 : ((Go.bits .and .u32 x0_2 1) == 1) = false := beq_eq_false_iff_ne.mpr c7
  have c7b1 : ((Go.bits .and .u32 x0_2 1) != 1) = true := bne_iff_ne.mpr c7
  have H' := Aside0.mk H
  clear H
  go_wp2
  go_roundg k2
  case measure => have := HK1.out; have := HK2.out; omega
  case rel => exact ⟨(x0_2 / 2), (wrap64 (x19_2 + 1)), (sr_), (sr_), H', ⟨by have := HK1.out; have := HK2.out; omega⟩, by repeat (first | exact Drawn0.refl _ | apply Drawn0.step)⟩
 rw [if_pos c7] at H
 have c7b0 : ((Go.bits .and .u32 x0_2 1) == 1) = true := beq_iff_eq.mpr c7
 have c7b1 : ((Go.bits .and .u32 x0_2 1) != 1) = false := bne_eq_false_iff_eq.mpr c7
 clear c7
 have H' := Aside0.mk H
 clear H
 go_wp2
 go_roundg k2
 case measure => have := HK1.out; have := HK2.out; omega
 case rel => exact ⟨(Go.bits .xor .u32 (x0_2 / 2) 3558460437), (wrap64 (x19_2 + 1)), (sr_), (sr_), H', ⟨by have := HK1.out; have := HK2.out; omega⟩, by repeat (first | exact Drawn0.refl _ | apply Drawn0.step)⟩


def impl_SumOf.f (k : Nat) (a0 : ByteArray) : Option (Int) := (impl_SumMore.f k 4294967295 a0).bind fun t252 => (some t252)
theorem impl_SumOf.mono : ∀ a0 k, LeO (impl_SumOf.f k a0) (impl_SumOf.f (k + 1) a0) := by
 intro a0 k
 unfold impl_SumOf.f
 have m0 := @impl_SumMore.mono
 exact mo_
theorem impl_SumOf.calls (k : Nat) (a0 : ByteArray) (r : Int) (w : World) (h : impl_SumOf.f k a0 = some r) :
 Calls Tryd.prog 116 #[.string a0] w fun e w' => e = .returned (.int .u32 r) ∧ Drawn0 w w' := by
 have H := h
 unfold impl_SumOf.f at H
 clear h
 replace H := bs_ H
 obtain ⟨t252, A2, H⟩ := H
 try dsimp only at H
 obtain rfl := Option.some.inj H
 go_enter Tryd.func116, Tryd.ntmps116
 go_wp2_with (first | ((with_reducible refine gate_callee (f := 130) rfl ?_); refine gs_ (some 4) Tryd.func130 #[.int .u32 4294967295, .string a0] ?_; (with_reducible refine (impl_SumMore.calls k 4294967295 a0 t252 _ A2.out).mono ?_); rintro e w' ⟨rfl, ⟨nd, rfl⟩⟩; refine ⟨_, rfl, ?_⟩))
 go_ret
 exact ⟨sr_, by repeat (first | exact Drawn0.refl _ | apply Drawn0.step)⟩


def impl_Sealed.f (k : Nat) (a0 : ByteArray) : Option (ByteArray × Bool) := if (a0.size : Int) > 20000 then (some ((⟨#[]⟩ : ByteArray), false)) else ((impl_SumOf.f k a0).bind fun t253 => ((impl_four.f (wrap64 (t253))).bind fun t254 => (if a0.size + t254.size ≤ 9223372036854775807 then (some (a0 ++ t254, true)) else (none))))
theorem impl_Sealed.mono : ∀ a0 k, LeO (impl_Sealed.f k a0) (impl_Sealed.f (k + 1) a0) := by
 intro a0 k
 unfold impl_Sealed.f
 have m0 := @impl_SumOf.mono
 exact mo_
theorem impl_Sealed.calls (k : Nat) (a0 : ByteArray) (r1 : ByteArray) (r2 : Bool) (w : World) (h : impl_Sealed.f k a0 = some (r1, r2)) :
 Calls Tryd.prog 79 #[.string a0] w fun e w' => e = .returned (.tuple #[.string r1, .bool r2]) ∧ Below w.heap.size w w' := by
 have HB := Aside0.mk (Below.refl w.heap.size w)
 have H := h
 unfold impl_Sealed.f at H
 clear h
 by_cases c2 : (a0.size : Int) > 20000
 ·rw [if_pos c2] at H
  have c2b0 := decide_eq_true c2
  have c2b1 : decide (20000 < a0.size) = true := decide_eq_true (by omega)
  clear c2
  simp only [Option.some.injEq, Prod.mk.injEq] at H
  obtain ⟨rfl, rfl⟩ := H
  go_enter Tryd.func79, Tryd.ntmps79
  go_wp2
  go_ret2
  exact ⟨er_, bl_⟩
 rw [if_neg c2] at H
 have c2b0 := decide_eq_false c2
 have c2b1 : decide (20000 < a0.size) = false := decide_eq_false (by omega)
 clear c2
 replace H := bs_ H
 obtain ⟨t253, A3, H⟩ := H
 try dsimp only at H
 replace H := bs_ H
 obtain ⟨t254, A4, H⟩ := H
 try dsimp only at H
 by_cases c5 : a0.size + t254.size ≤ 9223372036854775807
 rotate_left
 ·exact nn_ c5 H
 rw [if_pos c5] at H
 have c5b0 := eq_true c5
 have c5b1 : decide (a0.size + t254.size ≤ 9223372036854775807) = true := decide_eq_true c5
 try have c5b2 : (9223372036854775807 < a0.size + t254.size) = False := eq_false (Nat.not_lt.2 c5)
 simp only [Option.some.injEq, Prod.mk.injEq] at H
 obtain ⟨rfl, rfl⟩ := H
 go_enter Tryd.func79, Tryd.ntmps79
 go_wp2_with (first | ((with_reducible refine gate_callee (f := 116) rfl ?_); refine gs_ (some 9) Tryd.func116 #[.string a0] ?_; (with_reducible refine (impl_SumOf.calls k a0 t253 _ A3.out).mono ?_); rintro e w' ⟨rfl, ⟨nd, rfl⟩⟩; refine ⟨_, rfl, ?_⟩) | ((with_reducible refine gate_callee (f := 115) rfl ?_); refine gs_ (some 11) Tryd.func115 #[.int .i64 (wrap64 (t253))] ?_; (with_reducible refine (impl_four.calls (wrap64 (t253)) t254 _ A4.out).mono ?_); rintro e w6 ⟨rfl, hb⟩; refine ⟨_, rfl, ?_⟩; replace HB := Aside0.mk (below_step bl_ hb); (try clear hb)))
 go_ret2
 exact ⟨er_, bl_⟩

end Go.Proofs.YtdhjolglbcoijaaDoor.PA

namespace Go.Proofs.YtdhjolglbcoijaaDoor.PA
open Go.RowKit Go.Proofs.YtdhjolglbcoijaaDoor.Short Go.Proofs.YtdhjolglbcoijaaDoorW.PrintWords Go.Proofs.YtdhjolglbcoijaaDoorW.PrintLast Go.Proofs.YtdhjolglbcoijaaDoorW.PrintMore
attribute [local go_sem] max2_int min2_int max_two min_two max_three min_three max_four min_four   -- for this text's walks alone
set_option linter.unusedVariables false
set_option linter.unusedSimpArgs false
open Go.Proofs.YtdhjolglbcoijaaDoor.RegAny

def impl_FrameText.f (k : Nat) (a0_0 : Int) (a0_1 : Int) (a0_2 : Int) (a0_3 : Int) (a0_4 : Int) (a0_5 : Int) (a0_6 : Int) : Option (ByteArray × Bool) := (impl_FrameOk.f k a0_0 a0_1 a0_2 a0_3 a0_4 a0_5 a0_6).bind fun t207 => (if t207 = true then ((impl_VarText.f k a0_2).bind fun bt208 => ((impl_VarText.f k a0_6).bind fun bt210 => ((some (([(a0_0) % 256, (a0_1) % 256] : List Int) : List Int)).bind fun y212 => (if (strOfNums y212).size + bt208.1.size ≤ 9223372036854775807 then ((some (([(a0_3) % 256] : List Int) : List Int)).bind fun y215 => (if ((strOfNums y212) ++ bt208.1).size + (strOfNums y215).size ≤ 9223372036854775807 then ((impl_four.f a0_4).bind fun t218 => (if (((strOfNums y212) ++ bt208.1) ++ (strOfNums y215)).size + t218.size ≤ 9223372036854775807 then ((impl_four.f a0_5).bind fun t219 => (if ((((strOfNums y212) ++ bt208.1) ++ (strOfNums y215)) ++ t218).size + t219.size ≤ 9223372036854775807 then (if (((((strOfNums y212) ++ bt208.1) ++ (strOfNums y215)) ++ t218) ++ t219).size + bt210.1.size ≤ 9223372036854775807 then ((impl_Sealed.f k ((((((strOfNums y212) ++ bt208.1) ++ (strOfNums y215)) ++ t218) ++ t219) ++ bt210.1)).bind fun bt220 => (some (bt220.1, bt220.2))) else (none)) else (none))) else (none))) else (none))) else (none))))) else (some ((⟨#[]⟩ : ByteArray), false)))
theorem impl_FrameText.mono : ∀ a0 a1 a2 a3 a4 a5 a6 k, LeO (impl_FrameText.f k a0 a1 a2 a3 a4 a5 a6) (impl_FrameText.f (k + 1) a0 a1 a2 a3 a4 a5 a6) := by
 intro a0 a1 a2 a3 a4 a5 a6 k
 unfold impl_FrameText.f
 have m0 := @impl_FrameOk.mono
 have m1 := @impl_Sealed.mono
 have m2 := @impl_VarText.mono
 exact mo_
def impl_FrameText.T5 : Bool × List (List Nat × List Nat) := (true, [([], []), ([0], [0]), ([1], [1]), ([], []), ([3], [3]), ([4], [4]), ([2, 5], [2, 5]), ([6], [6]), ([], []), ([7, 8], [7, 8]), ([], []), ([10], [10]), ([11], [11]), ([12], [12]), ([13], [13]), ([14], [14]), ([9, 15], [9, 15]), ([], []), ([17], [17]), ([18], [18]), ([19], [19]), ([16, 20], [16, 20]), ([], []), ([22], [22]), ([23], [23]), ([24, 20], [24]), ([21, 25], [21, 25]), ([], []), ([26, 27], [26, 27]), ([28, 25], [28]), ([29], [29]), ([29], [29]), ([30, 29, 0, 1, 2, 3, 4, 5, 6, 7, 8, 9, 10, 11, 12, 13, 14, 15, 16, 17, 18, 19, 20, 21, 22, 23, 24, 25, 26, 27, 28, 29, 30, 31], [30]), ([31, 32, 0, 1, 2, 3, 4, 5, 6, 7, 8, 9, 10, 11, 12, 13, 14, 15, 16, 17, 18, 19, 20, 21, 22, 23, 24, 25, 26, 27, 28, 29, 30, 31, 32], [31])])
def impl_FrameText.B5 : List Nat := [0, 1, 3, 0, 8, 24, 63, 127, 0, 511, 0, 1024, 3072, 7168, 15360, 31744, 65535, 0, 131072, 393216, 917504, 2097151, 0, 4194304, 12582912, 31326208, 67108863, 0, 268435455, 536870911, 1073741823, 1073741823, 4294967295, 8589934591]
theorem impl_FrameText.tab5 : rtab .any (opsOf Tryd.f112 5) = impl_FrameText.T5 := by kernel_rfl
theorem impl_FrameText.bits5 : waitsOk impl_FrameText.T5.2 impl_FrameText.B5 = true := by kernel_rfl
theorem impl_FrameText.calls (k : Nat) (a0_0 : Int) (a0_1 : Int) (a0_2 : Int) (a0_3 : Int) (a0_4 : Int) (a0_5 : Int) (a0_6 : Int) (r1 : ByteArray) (r2 : Bool) (w : World) (h : impl_FrameText.f k a0_0 a0_1 a0_2 a0_3 a0_4 a0_5 a0_6 = some (r1, r2)) :
 Calls Tryd.prog 112 #[.agg #[.int .i64 a0_0, .int .i64 a0_1, .int .i64 a0_2, .int .i64 a0_3, .int .i64 a0_4, .int .i64 a0_5, .int .i64 a0_6]] w fun e w' => e = .returned (.tuple #[.string r1, .bool r2]) ∧ Below w.heap.size w w' := by
 have hu115 := Tryd.underlying115
 have HB := Aside0.mk (Below.refl w.heap.size w)
 unfold impl_FrameText.f at h
 obtain ⟨t207, A20, h⟩ := Option.bind_eq_some_iff.mp h
 have A2 := Aside0.mk A20
 clear A20
 split at h
 ·rename_i c3
  subst c3
  obtain ⟨⟨t208, t209⟩, A40, h⟩ := Option.bind_eq_some_iff.mp h
  obtain ⟨⟨t210, t211⟩, A50, h⟩ := Option.bind_eq_some_iff.mp h
  have A4 := Aside0.mk A40
  have A5 := Aside0.mk A50
  clear A40 A50
  simp only [Option.bind_some] at h
  obtain ⟨c6, h⟩ := ite_some h
  obtain ⟨c7, h⟩ := ite_some h
  obtain ⟨t218, A80, h⟩ := Option.bind_eq_some_iff.mp h
  have A8 := Aside0.mk A80
  clear A80
  obtain ⟨c9, h⟩ := ite_some h
  obtain ⟨t219, A100, h⟩ := Option.bind_eq_some_iff.mp h
  have A10 := Aside0.mk A100
  clear A100
  obtain ⟨c11, h⟩ := ite_some h
  obtain ⟨c12, h⟩ := ite_some h
  obtain ⟨⟨t220, t221⟩, A130, h⟩ := Option.bind_eq_some_iff.mp h
  have A13 := Aside0.mk A130
  clear A130
  simp only [Option.some.injEq, Prod.mk.injEq] at h
  obtain ⟨rfl, rfl⟩ := h
  have C6 := Aside0.mk c6
  have C7 := Aside0.mk c7
  have C9 := Aside0.mk c9
  have C11 := Aside0.mk c11
  have C12 := Aside0.mk c12
  clear c6 c7 c9 c11 c12
  go_enter Tryd.func112, Tryd.ntmps112
  go_wp2_with (first
   | ((with_reducible refine gate_dst (N := 1) rfl ?_); refine box_event rfl (N := 1) rfl (cs := #[.int .i64 a0_0, .int .i64 a0_1, .int .i64 a0_2, .int .i64 a0_3, .int .i64 a0_4, .int .i64 a0_5, .int .i64 a0_6]) (t := 115) (by kernel_rfl) ?_; intro g hg w1 hbox hb; have BK := Aside0.mk hbox; have GE := Aside0.mk (by rw [hg]; exact below_size HB.out : w.heap.size ≤ g); have n1_ := Aside0.mk (below_step HB.out hb); clear HB; have HB := n1_; clear n1_ hbox hb hg; have z0 : w1.cell? ⟨g, 0, none⟩ = some (.int .i64 a0_0) := (blk_cell BK.out 0).trans rfl; have z1 : w1.cell? ⟨g, 1, none⟩ = some (.int .i64 a0_1) := (blk_cell BK.out 1).trans rfl; have z2 : w1.cell? ⟨g, 2, none⟩ = some (.int .i64 a0_2) := (blk_cell BK.out 2).trans rfl; have z3 : w1.cell? ⟨g, 3, none⟩ = some (.int .i64 a0_3) := (blk_cell BK.out 3).trans rfl; have z4 : w1.cell? ⟨g, 4, none⟩ = some (.int .i64 a0_4) := (blk_cell BK.out 4).trans rfl; have z5 : w1.cell? ⟨g, 5, none⟩ = some (.int .i64 a0_5) := (blk_cell BK.out 5).trans rfl; have z6 : w1.cell? ⟨g, 6, none⟩ = some (.int .i64 a0_6) := (blk_cell BK.out 6).trans rfl)
   | (go_at_call 125; (with_reducible refine (impl_FrameOk.calls k a0_0 a0_1 a0_2 a0_3 a0_4 a0_5 a0_6 true _ A2.out).mono ?_); rintro e w2 ⟨rfl, hb⟩; have n1_ := Aside0.mk (below_step HB.out hb); have n2_ := Aside0.mk (blk_below BK.out hb); clear HB BK z0 z1 z2 z3 z4 z5 z6; have HB := n1_; have BK := n2_; clear n1_ n2_ hb; have z2 : w2.cell? ⟨g, 2, none⟩ = some (.int .i64 a0_2) := (blk_cell BK.out 2).trans rfl)
   | (go_at_call 77; (with_reducible refine (impl_VarText.calls k a0_2 t208 t209 _ A4.out).mono ?_); rintro e w3 ⟨rfl, hb⟩; have n1_ := Aside0.mk (below_step HB.out hb); have n2_ := Aside0.mk (blk_below BK.out hb); clear HB BK z2; have HB := n1_; have BK := n2_; clear n1_ n2_ hb; have z6 : w3.cell? ⟨g, 6, none⟩ = some (.int .i64 a0_6) := (blk_cell BK.out 6).trans rfl)
   | (go_at_call 77; (with_reducible refine (impl_VarText.calls k a0_6 t210 t211 _ A5.out).mono ?_); rintro e w4 ⟨rfl, hb⟩; have n1_ := Aside0.mk (below_step HB.out hb); have n2_ := Aside0.mk (blk_below BK.out hb); clear HB BK z6; have HB := n1_; have BK := n2_; clear n1_ n2_ hb))
  obtain ⟨D, hD⟩ : ∃ D : Slots, D = [(24, Is (.pointer (some ⟨g, 0, none⟩))), (25, Is (.int .i64 a0_0)), (26, Is (.int .u8 (a0_0 % 256))), (27, Is (.pointer (some ⟨g, 1, none⟩))), (28, Is (.int .i64 a0_1)), (29, Is (.int .u8 (a0_1 % 256))), (30, fun w_ v_ => Kd.R (Kd.int .u8) 5 w_ w.heap.size (fun _ => True) v_ [a0_0 % 256, a0_1 % 256]), (31, Is (.string (strOfNums [a0_0 % 256, a0_1 % 256]))), (32, Is (.string (t208))), (33, Is (.string (strOfNums [a0_0 % 256, a0_1 % 256] ++ t208))), (34, Is (.pointer (some ⟨g, 3, none⟩))), (35, Is (.pointer (some ⟨g, 3, none⟩))), (36, Is (.int .i64 a0_3)), (37, Is (.int .u8 (a0_3 % 256))), (38, fun w_ v_ => Kd.R (Kd.int .u8) 5 w_ w.heap.size (fun _ => True) v_ [a0_3 % 256]), (39, Is (.string (strOfNums [a0_3 % 256]))), (40, Is (.string ((strOfNums [a0_0 % 256, a0_1 % 256] ++ t208) ++ strOfNums [a0_3 % 256]))), (41, Is (.pointer (some ⟨g, 3, none⟩))), (42, Is (.pointer (some ⟨g, 4, none⟩))), (43, Is (.int .i64 a0_4)), (44, Is (.string (t218))), (45, Is (.string (((strOfNums [a0_0 % 256, a0_1 % 256] ++ t208) ++ strOfNums [a0_3 % 256]) ++ t218))), (46, Is (.pointer (some ⟨g, 3, none⟩))), (47, Is (.pointer (some ⟨g, 5, none⟩))), (48, Is (.int .i64 a0_5)), (49, Is (.string (t219))), (50, Is (.string ((((strOfNums [a0_0 % 256, a0_1 % 256] ++ t208) ++ strOfNums [a0_3 % 256]) ++ t218) ++ t219))), (51, Is (.string (t210))), (52, Is (.string (((((strOfNums [a0_0 % 256, a0_1 % 256] ++ t208) ++ strOfNums [a0_3 % 256]) ++ t218) ++ t219) ++ t210))), (53, Is (.tuple #[.string t220, .bool t221])), (54, Is (.string (t220))), (55, Is (.bool t221)), (2, Is (.string (t220))), (3, Is (.bool t221))] := ⟨_, rfl⟩
  have hM : Stays fun w' => w'.heap[g]? = some (.cells #[.int .i64 a0_0, .int .i64 a0_1, .int .i64 a0_2, .int .i64 a0_3, .int .i64 a0_4, .int .i64 a0_5, .int .i64 a0_6] 115 (0, 0)) ∧ Below w.heap.size w w' := fun _ _ h hb => ⟨blk_below h.1 hb, below_step h.2 hb⟩
  have hV : ∀ e ∈ D, ∀ v, Stays fun w => e.2 w v := by
   rw [hD]
   repeat' first | exact List.forall_mem_nil _ | refine List.forall_mem_cons.2 ⟨?_, ?_⟩
   all_goals first | exact fun v => Is_stays _ v | exact fun v w1 w2 h hb => Kd.R_below h hb
  have hnd : (D.map (·.1)).Nodup := by rw [hD]; exact of_decide_eq_true rfl
  refine region_any (n := 34) (wb := w) (M := fun w' => w'.heap[g]? = some (.cells #[.int .i64 a0_0, .int .i64 a0_1, .int .i64 a0_2, .int .i64 a0_3, .int .i64 a0_4, .int .i64 a0_5, .int .i64 a0_6] 115 (0, 0)) ∧ Below w.heap.size w w') (D := D) (Array.replicate 34 false) (by kernel_rfl) impl_FrameText.tab5 impl_FrameText.bits5 (by kernel_rfl) rfl rfl (by kernel_rfl) (below_drew1 HB.out) ⟨blk_drew BK.out, below_drew1 HB.out⟩ ?_ ?_
  ·show ∀ i ∈ [0, 1, 2, 3, 4, 5, 6, 7, 8, 9, 10, 11, 12, 13, 14, 15, 16, 17, 18, 19, 20, 21, 22, 23, 24, 25, 26, 27, 28, 29, 30, 31, 32, 33], _
   refine steps_cons ?_ (steps_cons ?_ (steps_cons ?_ (steps_cons ?_ (steps_cons ?_ (steps_cons ?_ (steps_cons ?_ (steps_cons ?_ (steps_cons ?_ (steps_cons ?_ (steps_cons ?_ (steps_cons ?_ (steps_cons ?_ (steps_cons ?_ (steps_cons ?_ (steps_cons ?_ (steps_cons ?_ (steps_cons ?_ (steps_cons ?_ (steps_cons ?_ (steps_cons ?_ (steps_cons ?_ (steps_cons ?_ (steps_cons ?_ (steps_cons ?_ (steps_cons ?_ (steps_cons ?_ (steps_cons ?_ (steps_cons ?_ (steps_cons ?_ (steps_cons ?_ (steps_cons ?_ (steps_cons ?_ (steps_cons ?_ (steps_nil))))))))))))))))))))))))))))))))))
   ·refine step_of _ _ hM hV hnd (by rw [hD]; rfl) rfl rfl rfl (of_decide_eq_true rfl) (within_of (by kernel_rfl) _) ?_
    intro a w9 hm hold hdep
    have e0 := eval_of ((hold 1 (by rw [hD]; rfl)).trans rfl)
    exact gPure (by first | (go_simp; done) | (go_simp; rfl))
   ·refine step_of _ _ hM hV hnd (by rw [hD]; rfl) rfl rfl rfl (of_decide_eq_true rfl) (within_of (by kernel_rfl) _) ?_
    intro a w9 hm hold hdep
    obtain ⟨_, h0, rfl⟩ := hdep 0 _ (by rw [hD]; rfl) (by rfl)
    have e0 := eval_of h0
    have z := (blk_cell hm.1 0).trans rfl
    exact gPure (by first | (go_simp; done) | (go_simp; rfl))
   ·refine step_of _ _ hM hV hnd (by rw [hD]; rfl) rfl rfl rfl (of_decide_eq_true rfl) (within_of (by kernel_rfl) _) ?_
    intro a w9 hm hold hdep
    obtain ⟨_, h0, rfl⟩ := hdep 1 _ (by rw [hD]; rfl) (by rfl)
    have e0 := eval_of h0
    exact gPure (by first | (go_simp; done) | (go_simp; rfl))
   ·refine step_of _ _ hM hV hnd (by rw [hD]; rfl) rfl rfl rfl (of_decide_eq_true rfl) (within_of (by kernel_rfl) _) ?_
    intro a w9 hm hold hdep
    have e0 := eval_of ((hold 1 (by rw [hD]; rfl)).trans rfl)
    exact gPure (by first | (go_simp; done) | (go_simp; rfl))
   ·refine step_of _ _ hM hV hnd (by rw [hD]; rfl) rfl rfl rfl (of_decide_eq_true rfl) (within_of (by kernel_rfl) _) ?_
    intro a w9 hm hold hdep
    obtain ⟨_, h0, rfl⟩ := hdep 3 _ (by rw [hD]; rfl) (by rfl)
    have e0 := eval_of h0
    have z := (blk_cell hm.1 1).trans rfl
    exact gPure (by first | (go_simp; done) | (go_simp; rfl))
   ·refine step_of _ _ hM hV hnd (by rw [hD]; rfl) rfl rfl rfl (of_decide_eq_true rfl) (within_of (by kernel_rfl) _) ?_
    intro a w9 hm hold hdep
    obtain ⟨_, h0, rfl⟩ := hdep 4 _ (by rw [hD]; rfl) (by rfl)
    have e0 := eval_of h0
    exact gPure (by first | (go_simp; done) | (go_simp; rfl))
   ·refine step_of _ _ hM hV hnd (by rw [hD]; rfl) rfl rfl rfl (of_decide_eq_true rfl) (within_of (by kernel_rfl) _) ?_
    intro a w9 hm hold hdep
    obtain ⟨_, h0, rfl⟩ := hdep 2 _ (by rw [hD]; rfl) (by rfl)
    have e0 := eval_of h0
    obtain ⟨_, h1, rfl⟩ := hdep 5 _ (by rw [hD]; rfl) (by rfl)
    have e1 := eval_of h1
    refine .inl ⟨.slice (some ⟨w9.heap.size, 0, none⟩) 2 2, w9.alloc (.cells #[.int .u8 (a0_0 % 256), .int .u8 (a0_1 % 256)] 5 (0, 0)), (by first | (go_simp; done) | (go_simp; rfl)), ?_, below_alloc (Below.refl _ _) _⟩
    have h2 := World.ownsRow_lit (base := w.heap.size) (e := 5) (size := 1) w9 #[.int .u8 (a0_0 % 256), .int .u8 (a0_1 % 256)] 2 (below_size hm.2) (by decide) (by rfl)
    exact Kd.R_of_own (enc := Value.int .u8) (h1 := fun _ => rfl) (by simpa [encs] using h2) (fun _ _ => trivial)
   ·refine step_of _ _ hM hV hnd (by rw [hD]; rfl) rfl rfl rfl (of_decide_eq_true rfl) (within_of (by kernel_rfl) _) ?_
    intro a w9 hm hold hdep
    obtain ⟨v0, h0, r0⟩ := hdep 6 _ (by rw [hD]; rfl) (by rfl)
    have e0 := eval_of h0
    obtain ⟨A, c, rfl, _, hC⟩ := Kd.R_reads r0
    have kc : (convert 61 9 (.slice A 2 c)).run Tryd.prog w9 = _ := Kd.C_string (P := Tryd.prog) (c := c) Tryd.underlying61 Tryd.underlying5 Tryd.underlying9 hC
    exact gPure (by first | (go_simp; done) | (go_simp; rfl))
   ·refine step_of _ _ hM hV hnd (by rw [hD]; rfl) rfl rfl rfl (of_decide_eq_true rfl) (within_of (by kernel_rfl) _) ?_
    intro a w9 hm hold hdep
    have e0 := eval_of ((hold 4 (by rw [hD]; rfl)).trans rfl)
    exact gPure (by first | (go_simp; done) | (go_simp; rfl))
   ·refine step_of _ _ hM hV hnd (by rw [hD]; rfl) rfl rfl rfl (of_decide_eq_true rfl) (within_of (by kernel_rfl) _) ?_
    intro a w9 hm hold hdep
    obtain ⟨_, h0, rfl⟩ := hdep 7 _ (by rw [hD]; rfl) (by rfl)
    have e0 := eval_of h0
    obtain ⟨_, h1, rfl⟩ := hdep 8 _ (by rw [hD]; rfl) (by rfl)
    have e1 := eval_of h1
    have c := C6.out
    try simp only [ByteArray.size_append] at c
    exact gPure (by first | (go_simp; done) | (go_simp; rfl) | (go_simp; exact c))
   ·refine step_of _ _ hM hV hnd (by rw [hD]; rfl) rfl rfl rfl (of_decide_eq_true rfl) (within_of (by kernel_rfl) _) ?_
    intro a w9 hm hold hdep
    have e0 := eval_of ((hold 1 (by rw [hD]; rfl)).trans rfl)
    exact gPure (by first | (go_simp; done) | (go_simp; rfl))
   ·refine step_of _ _ hM hV hnd (by rw [hD]; rfl) rfl rfl rfl (of_decide_eq_true rfl) (within_of (by kernel_rfl) _) ?_
    intro a w9 hm hold hdep
    obtain ⟨_, h0, rfl⟩ := hdep 10 _ (by rw [hD]; rfl) (by rfl)
    have e0 := eval_of h0
    exact gPure (by first | (go_simp; done) | (go_simp; rfl))
   ·refine step_of _ _ hM hV hnd (by rw [hD]; rfl) rfl rfl rfl (of_decide_eq_true rfl) (within_of (by kernel_rfl) _) ?_
    intro a w9 hm hold hdep
    obtain ⟨_, h0, rfl⟩ := hdep 11 _ (by rw [hD]; rfl) (by rfl)
    have e0 := eval_of h0
    have z := (blk_cell hm.1 3).trans rfl
    exact gPure (by first | (go_simp; done) | (go_simp; rfl))
   ·refine step_of _ _ hM hV hnd (by rw [hD]; rfl) rfl rfl rfl (of_decide_eq_true rfl) (within_of (by kernel_rfl) _) ?_
    intro a w9 hm hold hdep
    obtain ⟨_, h0, rfl⟩ := hdep 12 _ (by rw [hD]; rfl) (by rfl)
    have e0 := eval_of h0
    exact gPure (by first | (go_simp; done) | (go_simp; rfl))
   ·refine step_of _ _ hM hV hnd (by rw [hD]; rfl) rfl rfl rfl (of_decide_eq_true rfl) (within_of (by kernel_rfl) _) ?_
    intro a w9 hm hold hdep
    obtain ⟨_, h0, rfl⟩ := hdep 13 _ (by rw [hD]; rfl) (by rfl)
    have e0 := eval_of h0
    refine .inl ⟨.slice (some ⟨w9.heap.size, 0, none⟩) 1 1, w9.alloc (.cells #[.int .u8 (a0_3 % 256)] 5 (0, 0)), (by first | (go_simp; done) | (go_simp; rfl)), ?_, below_alloc (Below.refl _ _) _⟩
    have h2 := World.ownsRow_lit (base := w.heap.size) (e := 5) (size := 1) w9 #[.int .u8 (a0_3 % 256)] 1 (below_size hm.2) (by decide) (by rfl)
    exact Kd.R_of_own (enc := Value.int .u8) (h1 := fun _ => rfl) (by simpa [encs] using h2) (fun _ _ => trivial)
   ·refine step_of _ _ hM hV hnd (by rw [hD]; rfl) rfl rfl rfl (of_decide_eq_true rfl) (within_of (by kernel_rfl) _) ?_
    intro a w9 hm hold hdep
    obtain ⟨v0, h0, r0⟩ := hdep 14 _ (by rw [hD]; rfl) (by rfl)
    have e0 := eval_of h0
    obtain ⟨A, c, rfl, _, hC⟩ := Kd.R_reads r0
    have kc : (convert 61 9 (.slice A 1 c)).run Tryd.prog w9 = _ := Kd.C_string (P := Tryd.prog) (c := c) Tryd.underlying61 Tryd.underlying5 Tryd.underlying9 hC
    exact gPure (by first | (go_simp; done) | (go_simp; rfl))
   ·refine step_of _ _ hM hV hnd (by rw [hD]; rfl) rfl rfl rfl (of_decide_eq_true rfl) (within_of (by kernel_rfl) _) ?_
    intro a w9 hm hold hdep
    obtain ⟨_, h0, rfl⟩ := hdep 9 _ (by rw [hD]; rfl) (by rfl)
    have e0 := eval_of h0
    obtain ⟨_, h1, rfl⟩ := hdep 15 _ (by rw [hD]; rfl) (by rfl)
    have e1 := eval_of h1
    have c := C7.out
    try simp only [ByteArray.size_append] at c
    exact gPure (by first | (go_simp; done) | (go_simp; rfl) | (go_simp; exact c))
   ·refine step_of _ _ hM hV hnd (by rw [hD]; rfl) rfl rfl rfl (of_decide_eq_true rfl) (within_of (by kernel_rfl) _) ?_
    intro a w9 hm hold hdep
    have e0 := eval_of ((hold 1 (by rw [hD]; rfl)).trans rfl)
    exact gPure (by first | (go_simp; done) | (go_simp; rfl))
   ·refine step_of _ _ hM hV hnd (by rw [hD]; rfl) rfl rfl rfl (of_decide_eq_true rfl) (within_of (by kernel_rfl) _) ?_
    intro a w9 hm hold hdep
    obtain ⟨_, h0, rfl⟩ := hdep 17 _ (by rw [hD]; rfl) (by rfl)
    have e0 := eval_of h0
    exact gPure (by first | (go_simp; done) | (go_simp; rfl))
   ·refine step_of _ _ hM hV hnd (by rw [hD]; rfl) rfl rfl rfl (of_decide_eq_true rfl) (within_of (by kernel_rfl) _) ?_
    intro a w9 hm hold hdep
    obtain ⟨_, h0, rfl⟩ := hdep 18 _ (by rw [hD]; rfl) (by rfl)
    have e0 := eval_of h0
    have z := (blk_cell hm.1 4).trans rfl
    exact gPure (by first | (go_simp; done) | (go_simp; rfl))
   ·refine step_of _ _ hM hV hnd (by rw [hD]; rfl) rfl rfl rfl (of_decide_eq_true rfl) (within_of (by kernel_rfl) _) ?_
    intro a w9 hm hold hdep
    obtain ⟨_, h0, rfl⟩ := hdep 19 _ (by rw [hD]; rfl) (by rfl)
    have e0 := eval_of h0
    refine .inr ⟨115, #[.int .i64 a0_4], (by first | (go_simp; done) | (go_simp; rfl)), (impl_four.calls a0_4 t218 _ A8.out).mono ?_⟩
    rintro e w2 ⟨rfl, hb⟩
    exact ⟨_, rfl, rfl, hb⟩
   ·refine step_of _ _ hM hV hnd (by rw [hD]; rfl) rfl rfl rfl (of_decide_eq_true rfl) (within_of (by kernel_rfl) _) ?_
    intro a w9 hm hold hdep
    obtain ⟨_, h0, rfl⟩ := hdep 16 _ (by rw [hD]; rfl) (by rfl)
    have e0 := eval_of h0
    obtain ⟨_, h1, rfl⟩ := hdep 20 _ (by rw [hD]; rfl) (by rfl)
    have e1 := eval_of h1
    have c := C9.out
    try simp only [ByteArray.size_append] at c
    exact gPure (by first | (go_simp; done) | (go_simp; rfl) | (go_simp; exact c))
   ·refine step_of _ _ hM hV hnd (by rw [hD]; rfl) rfl rfl rfl (of_decide_eq_true rfl) (within_of (by kernel_rfl) _) ?_
    intro a w9 hm hold hdep
    have e0 := eval_of ((hold 1 (by rw [hD]; rfl)).trans rfl)
    exact gPure (by first | (go_simp; done) | (go_simp; rfl))
   ·refine step_of _ _ hM hV hnd (by rw [hD]; rfl) rfl rfl rfl (of_decide_eq_true rfl) (within_of (by kernel_rfl) _) ?_
    intro a w9 hm hold hdep
    obtain ⟨_, h0, rfl⟩ := hdep 22 _ (by rw [hD]; rfl) (by rfl)
    have e0 := eval_of h0
    exact gPure (by first | (go_simp; done) | (go_simp; rfl))
   ·refine step_of _ _ hM hV hnd (by rw [hD]; rfl) rfl rfl rfl (of_decide_eq_true rfl) (within_of (by kernel_rfl) _) ?_
    intro a w9 hm hold hdep
    obtain ⟨_, h0, rfl⟩ := hdep 23 _ (by rw [hD]; rfl) (by rfl)
    have e0 := eval_of h0
    have z := (blk_cell hm.1 5).trans rfl
    exact gPure (by first | (go_simp; done) | (go_simp; rfl))
   ·refine step_of _ _ hM hV hnd (by rw [hD]; rfl) rfl rfl rfl (of_decide_eq_true rfl) (within_of (by kernel_rfl) _) ?_
    intro a w9 hm hold hdep
    obtain ⟨_, h0, rfl⟩ := hdep 24 _ (by rw [hD]; rfl) (by rfl)
    have e0 := eval_of h0
    refine .inr ⟨115, #[.int .i64 a0_5], (by first | (go_simp; done) | (go_simp; rfl)), (impl_four.calls a0_5 t219 _ A10.out).mono ?_⟩
    rintro e w2 ⟨rfl, hb⟩
    exact ⟨_, rfl, rfl, hb⟩
   ·refine step_of _ _ hM hV hnd (by rw [hD]; rfl) rfl rfl rfl (of_decide_eq_true rfl) (within_of (by kernel_rfl) _) ?_
    intro a w9 hm hold hdep
    obtain ⟨_, h0, rfl⟩ := hdep 21 _ (by rw [hD]; rfl) (by rfl)
    have e0 := eval_of h0
    obtain ⟨_, h1, rfl⟩ := hdep 25 _ (by rw [hD]; rfl) (by rfl)
    have e1 := eval_of h1
    have c := C11.out
    try simp only [ByteArray.size_append] at c
    exact gPure (by first | (go_simp; done) | (go_simp; rfl) | (go_simp; exact c))
   ·refine step_of _ _ hM hV hnd (by rw [hD]; rfl) rfl rfl rfl (of_decide_eq_true rfl) (within_of (by kernel_rfl) _) ?_
    intro a w9 hm hold hdep
    have e0 := eval_of ((hold 6 (by rw [hD]; rfl)).trans rfl)
    exact gPure (by first | (go_simp; done) | (go_simp; rfl))
   ·refine step_of _ _ hM hV hnd (by rw [hD]; rfl) rfl rfl rfl (of_decide_eq_true rfl) (within_of (by kernel_rfl) _) ?_
    intro a w9 hm hold hdep
    obtain ⟨_, h0, rfl⟩ := hdep 26 _ (by rw [hD]; rfl) (by rfl)
    have e0 := eval_of h0
    obtain ⟨_, h1, rfl⟩ := hdep 27 _ (by rw [hD]; rfl) (by rfl)
    have e1 := eval_of h1
    have c := C12.out
    try simp only [ByteArray.size_append] at c
    exact gPure (by first | (go_simp; done) | (go_simp; rfl) | (go_simp; exact c))
   ·refine step_of _ _ hM hV hnd (by rw [hD]; rfl) rfl rfl rfl (of_decide_eq_true rfl) (within_of (by kernel_rfl) _) ?_
    intro a w9 hm hold hdep
    obtain ⟨_, h0, rfl⟩ := hdep 28 _ (by rw [hD]; rfl) (by rfl)
    have e0 := eval_of h0
    refine .inr ⟨79, #[.string (((((strOfNums [a0_0 % 256, a0_1 % 256] ++ t208) ++ strOfNums [a0_3 % 256]) ++ t218) ++ t219) ++ t210)], (by first | (go_simp; done) | (go_simp; rfl)), (impl_Sealed.calls k _ t220 t221 _ A13.out).mono ?_⟩
    rintro e w2 ⟨rfl, hb⟩
    exact ⟨_, rfl, rfl, hb⟩
   ·refine step_of _ _ hM hV hnd (by rw [hD]; rfl) rfl rfl rfl (of_decide_eq_true rfl) (within_of (by kernel_rfl) _) ?_
    intro a w9 hm hold hdep
    obtain ⟨_, h0, rfl⟩ := hdep 29 _ (by rw [hD]; rfl) (by rfl)
    have e0 := eval_of h0
    exact gPure (by first | (go_simp; done) | (go_simp; rfl))
   ·refine step_of _ _ hM hV hnd (by rw [hD]; rfl) rfl rfl rfl (of_decide_eq_true rfl) (within_of (by kernel_rfl) _) ?_
    intro a w9 hm hold hdep
    obtain ⟨_, h0, rfl⟩ := hdep 29 _ (by rw [hD]; rfl) (by rfl)
    have e0 := eval_of h0
    exact gPure (by first | (go_simp; done) | (go_simp; rfl))
   ·refine step_of _ _ hM hV hnd (by rw [hD]; rfl) rfl rfl rfl (of_decide_eq_true rfl) (within_of (by kernel_rfl) _) ?_
    intro a w9 hm hold hdep
    obtain ⟨_, h0, rfl⟩ := hdep 30 _ (by rw [hD]; rfl) (by rfl)
    have e0 := eval_of h0
    exact gPure (by first | (go_simp; done) | (go_simp; rfl))
   ·refine step_of _ _ hM hV hnd (by rw [hD]; rfl) rfl rfl rfl (of_decide_eq_true rfl) (within_of (by kernel_rfl) _) ?_
    intro a w9 hm hold hdep
    obtain ⟨_, h0, rfl⟩ := hdep 31 _ (by rw [hD]; rfl) (by rfl)
    have e0 := eval_of h0
    exact gPure (by first | (go_simp; done) | (go_simp; rfl))
  ·intro a w9 hB9 hM9 hsz hdf hold hdone
   rename_i K hK
   obtain ⟨_, h2, rfl⟩ := hdone 32 _ (by decide) (by rw [hD]; rfl)
   obtain ⟨_, h3, rfl⟩ := hdone 33 _ (by decide) (by rw [hD]; rfl)
   show K a w9
   refine hK _ _ ?_
   go_wp2
   refine bodyPost_ret (results_list (rs := [.tmp 2, .tmp 3]) rfl (by simp) (.tmp (.tmp .nil))) (hdf.trans rfl) ⟨?_, hB9⟩
   simp only [Array.getD_eq_getD_getElem?]
   rw [h2, h3]
   rfl
 ·rename_i c3
  have c4 : t207 = false := by simpa using c3
  subst c4
  simp only [Option.some.injEq, Prod.mk.injEq] at h
  obtain ⟨rfl, rfl⟩ := h
  go_enter Tryd.func112, Tryd.ntmps112
  go_wp2_with (first
   | ((with_reducible refine gate_dst (N := 1) rfl ?_); refine box_event rfl (N := 1) rfl (cs := #[.int .i64 a0_0, .int .i64 a0_1, .int .i64 a0_2, .int .i64 a0_3, .int .i64 a0_4, .int .i64 a0_5, .int .i64 a0_6]) (t := 115) (by kernel_rfl) ?_; intro g hg w1 hbox hb; have BK := Aside0.mk hbox; have GE := Aside0.mk (by rw [hg]; exact below_size HB.out : w.heap.size ≤ g); have n1_ := Aside0.mk (below_step HB.out hb); clear HB; have HB := n1_; clear n1_ hbox hb hg; have z0 : w1.cell? ⟨g, 0, none⟩ = some (.int .i64 a0_0) := (blk_cell BK.out 0).trans rfl; have z1 : w1.cell? ⟨g, 1, none⟩ = some (.int .i64 a0_1) := (blk_cell BK.out 1).trans rfl; have z2 : w1.cell? ⟨g, 2, none⟩ = some (.int .i64 a0_2) := (blk_cell BK.out 2).trans rfl; have z3 : w1.cell? ⟨g, 3, none⟩ = some (.int .i64 a0_3) := (blk_cell BK.out 3).trans rfl; have z4 : w1.cell? ⟨g, 4, none⟩ = some (.int .i64 a0_4) := (blk_cell BK.out 4).trans rfl; have z5 : w1.cell? ⟨g, 5, none⟩ = some (.int .i64 a0_5) := (blk_cell BK.out 5).trans rfl; have z6 : w1.cell? ⟨g, 6, none⟩ = some (.int .i64 a0_6) := (blk_cell BK.out 6).trans rfl)
   | (go_at_call 125; (with_reducible refine (impl_FrameOk.calls k a0_0 a0_1 a0_2 a0_3 a0_4 a0_5 a0_6 false _ A2.out).mono ?_); rintro e w2 ⟨rfl, hb⟩; have n1_ := Aside0.mk (below_step HB.out hb); clear HB; have HB := n1_; clear n1_ hb))
  refine bodyPost_ret (results_list (rs := [.tmp 2, .tmp 3]) rfl (by simp) (.tmp (.tmp .nil))) rfl ⟨rfl, HB.out⟩
end Go.Proofs.YtdhjolglbcoijaaDoor.PA

namespace Go.Proofs.YtdhjolglbcoijaaDoor.PA
open Go.RowKit Go.Proofs.YtdhjolglbcoijaaDoor.Short Go.Proofs.YtdhjolglbcoijaaDoorW.PrintWords Go.Proofs.YtdhjolglbcoijaaDoorW.PrintLast Go.Proofs.YtdhjolglbcoijaaDoorW.PrintMore
attribute [local go_sem] max2_int min2_int max_two min_two max_three min_three max_four min_four   -- for this text's walks alone
set_option linter.unusedVariables false
set_option linter.unusedSimpArgs false

def impl_EntryText.f (k : Nat) (a0_0 : Int) (a0_1 : Int) (a0_2 : Int) (a0_3 : Int) (a0_4 : Int) (a0_5 : Int) : Option (ByteArray) := (impl_FrameText.f k 1 a0_0 a0_1 a0_2 a0_3 a0_4 a0_5).bind fun bt282 => (some bt282.1)
theorem impl_EntryText.mono : ∀ a0 a1 a2 a3 a4 a5 k, LeO (impl_EntryText.f k a0 a1 a2 a3 a4 a5) (impl_EntryText.f (k + 1) a0 a1 a2 a3 a4 a5) := by
 intro a0 a1 a2 a3 a4 a5 k
 unfold impl_EntryText.f
 have m0 := @impl_FrameText.mono
 exact mo_
theorem impl_EntryText.calls (k : Nat) (a0_0 : Int) (a0_1 : Int) (a0_2 : Int) (a0_3 : Int) (a0_4 : Int) (a0_5 : Int) (r : ByteArray) (w : World) (h : impl_EntryText.f k a0_0 a0_1 a0_2 a0_3 a0_4 a0_5 = some r) :
 Calls Tryd.prog 73 #[.agg #[.int .i64 a0_0, .int .i64 a0_1, .int .i64 a0_2, .int .i64 a0_3, .int .i64 a0_4, .int .i64 a0_5]] w fun e w' => e = .returned (.string r) ∧ Below w.heap.size w w' := by
 have hu70 := Tryd.underlying70
 have hu68 := Tryd.underlying68
 have hu115 := Tryd.underlying115
 have HB := Aside0.mk (Below.refl w.heap.size w)
 have H := h
 unfold impl_EntryText.f at H
 clear h
 replace H := bs_ H
 obtain ⟨⟨t282, t283⟩, A2, H⟩ := H
 try dsimp only at H
 obtain rfl := Option.some.inj H
 go_enter Tryd.func73, Tryd.ntmps73
 go_wp2_with (first | ((with_reducible refine gate_dst (N := 1) rfl ?_); refine bx_ 1 70 #[.int .i64 a0_0, .int .i64 a0_1, .int .i64 a0_2, .int .i64 a0_3, .int .i64 a0_4, .int .i64 a0_5] ?_; intro gb281 hg w3 hbox hb; have BK281 := Aside0.mk (hbox); have GW281 := Aside0.mk ((hz_ : w.heap.size ≤ gb281)); have GE281 := Aside0.mk ((hz_ : w.heap.size ≤ gb281)); replace HB := Aside0.mk (below_step bl_ hb); clear hb hbox hg; obtain ⟨hcz4_0, hcz4_1, hcz4_2, hcz4_3, hcz4_4, hcz4_5, hfz4_0, hfz4_1, hfz4_2, hfz4_3, hfz4_4, hfz4_5⟩ := cf6_ BK281.out) | ((with_reducible refine gate_callee (f := 112) rfl ?_); refine gs_ (some 13) Tryd.func112 #[.agg #[.int .i64 1, .int .i64 a0_0, .int .i64 a0_1, .int .i64 a0_2, .int .i64 a0_3, .int .i64 a0_4, .int .i64 a0_5]] ?_; (with_reducible refine (impl_FrameText.calls k 1 a0_0 a0_1 a0_2 a0_3 a0_4 a0_5 t282 t283 _ A2.out).mono ?_); rintro e w5 ⟨rfl, hb⟩; refine ⟨_, rfl, ?_⟩; replace BK281 := Aside0.mk (blk_below (bn0_ BK281.out) hb); replace HB := Aside0.mk (below_step bl_ hb); (try clear hb)))
 go_ret
 exact ⟨er_, bl_⟩

end Go.Proofs.YtdhjolglbcoijaaDoor.PA
