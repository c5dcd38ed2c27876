/- The plain proof of the law FnExactReadCall: the plain functions that the program and the reference come to answer alike. No condition. -/
import Derived.Test.YtfgkniegbdpanaaKit
import Derived.Test.YtfgkniegbdpanaaPAx32
namespace Go.Proofs.Ytfgkniegbdpanaa.Pure
open Go.RowKit Go.Proofs.Ytfgkniegbdpanaa.PA Go.Proofs.YtfgkniegbdpanaaW.PrintWords Go.Proofs.YtfgkniegbdpanaaW.PrintLast Go.Proofs.YtfgkniegbdpanaaW.PrintMore Go.Proofs.Ytfgkniegbdpanaa.Kit
set_option linter.unusedVariables false
set_option linter.unusedSimpArgs false
/-! lists of wide numbers: compared, marked, held -/
theorem rdW (l : List S66) (i : Nat) (hi : i < l.length) : rd_T66 l (i : Int) = l[i] := by simp [rd_T66, hi]
theorem ev_eqWideS (l : List S66) (hl : l.length ≤ 1048576) : Ev (fun k => laws_eqWideS.f k l l) true := by
  have key := evUp (r := true) l.length (fun i k => laws_eqWideS.l0 k l l (i : Int)) ?_ ?_
  · refine Ev.congr (fun k => ?_) key
    unfold laws_eqWideS.f
    rw [if_pos rfl]
    rfl
  · intro i hi ih
    refine evSucc ?_
    simp only [laws_eqWideS.l0]
    refine evPos (by omega) (evPos (by omega) (evPos (by omega) ?_))
    simp only [laws_eqWide.f, if_true, Option.bind_some]
    rw [w64 (by omega) (by omega), ci]
    exact ih
  · refine evSucc ?_
    simp only [laws_eqWideS.l0]
    exact evNeg (by omega) (Ev.now _)
theorem ev_eqCall (a b : Int) (l : List S66) (hl : l.length ≤ 1048576) : Ev (fun k => laws_eqCall.f k a b l a b l) true := by
  simp only [laws_eqCall.f, if_true]
  exact Ev.bind (ev_eqWideS l hl) (evPos rfl (Ev.now _))
def mkW (j : Nat) : S66 := ⟨1 + 2 * (j : Int), 2 + 2 * (j : Int)⟩
def mkWs (n : Nat) : List S66 := (List.range n).map mkW
theorem mkWs_len (n : Nat) : (mkWs n).length = n := by simp [mkWs]
theorem mkWs_get (n i : Nat) (h : i < (mkWs n).length) : (mkWs n)[i] = mkW i := by simp [mkWs]
theorem markSet (l : List S66) (i : Nat) (hi : i < l.length) (v : S66) : (mkWs i ++ l.drop i).set i v = mkWs i ++ v :: l.drop (i + 1) := by
  rw [List.set_append_right _ _ (by rw [mkWs_len]; omega), mkWs_len, Nat.sub_self, List.drop_eq_getElem_cons hi, List.set_cons_zero]
theorem markRd (l : List S66) (i : Nat) (v : S66) : rd_T66 (mkWs i ++ v :: l) (i : Int) = v := by
  simp [rd_T66, List.getElem?_append_right, mkWs_len]
theorem ev_markWideS (l : List S66) (hl : l.length ≤ 1048576) : Ev (fun k => laws_markWideS.f k l 1) (1 + 2 * (l.length : Int), mkWs l.length) := by
  have key := evUp (r := (1 + 2 * (l.length : Int), mkWs l.length)) l.length (fun i k => laws_markWideS.l0 k (mkWs i ++ l.drop i) (1 + 2 * (i : Int)) (i : Int)) ?_ ?_
  · exact key
  · intro i hi ih
    refine evSucc ?_
    simp only [laws_markWideS.l0]
    refine evPos (by simp [mkWs_len]; omega) (evPos (by omega) ?_)
    simp only [Option.bind_some, Int.toNat_natCast]
    rw [w64 (x := 1 + 2 * (i : Int) + 1) (by omega) (by omega), w64 (x := (i : Int) + 1) (by omega) (by omega), w64 (by omega) (by omega), ci i]
    rw [markSet l i hi, markRd]
    have e : (mkWs i ++ (⟨1 + 2 * (i : Int), (rd_T66 (mkWs i ++ l.drop i) i).f1⟩ : S66) :: l.drop (i + 1)).set i ⟨1 + 2 * (i : Int), 1 + 2 * (i : Int) + 1⟩ = mkWs (i + 1) ++ l.drop (i + 1) := by
      rw [List.set_append_right _ _ (by rw [mkWs_len]; omega), mkWs_len, Nat.sub_self, List.set_cons_zero]
      unfold mkWs
      rw [List.range_succ, List.map_append, List.append_assoc]
      simp [mkW]
      omega
    rw [e, show 1 + 2 * (i : Int) + 1 + 1 = 1 + 2 * ((i + 1 : Nat) : Int) by omega]
    exact ih
  · refine evSucc ?_
    simp only [laws_markWideS.l0]
    refine evNeg (by simp [mkWs_len]) ?_
    simp
    exact Ev.now _
theorem ev_heldWideS (n : Nat) (hn : n ≤ 1048576) : Ev (fun k => laws_heldWideS.f k (mkWs n) 1) (1 + 2 * (n : Int)) := by
  have key := evUp (r := 1 + 2 * (n : Int)) n (fun i k => laws_heldWideS.l0 k (mkWs n) (1 + 2 * (i : Int)) (i : Int)) ?_ ?_
  · exact key
  · intro i hi ih
    have hi' : i < (mkWs n).length := by rw [mkWs_len]; exact hi
    refine evSucc ?_
    simp only [laws_heldWideS.l0]
    refine evPos (by rw [mkWs_len]; omega) (evPos (by omega) ?_)
    rw [rdW _ i hi', mkWs_get n i hi', w64 (x := 1 + 2 * (i : Int) + 1) (by omega) (by omega), w64 (x := (i : Int) + 1) (by omega) (by omega), w64 (by omega) (by omega), ci i]
    refine evPos rfl (evPos (by simp [mkW]; omega) ?_)
    rw [show 1 + 2 * (i : Int) + 1 + 1 = 1 + 2 * ((i + 1 : Nat) : Int) by omega]
    exact ih
  · refine evSucc ?_
    simp only [laws_heldWideS.l0]
    exact evNeg (by rw [mkWs_len]; omega) (Ev.now _)
theorem ev_markCall (a b : Int) (l : List S66) (hl : l.length ≤ 1048576) : Ev (fun k => laws_markCall.f k a b l 1) (1 + 2 * (l.length : Int), mkWs l.length) := by
  simp only [laws_markCall.f]
  exact Ev.bind (ev_markWideS l hl) (Ev.now _)
theorem ev_heldCall (a b : Int) (n : Nat) (hn : n ≤ 1048576) : Ev (fun k => laws_heldCall.f k a b (mkWs n) 1) (1 + 2 * (n : Int)) := by
  simp only [laws_heldCall.f]
  exact Ev.bind (ev_heldWideS n hn) (evNeg (by omega) (Ev.now _))
/-! four bytes of a text -/
def fourV (t : ByteArray) (i : Int) : Int := (Go.bits .or .i64 (Go.bits .or .i64 (Go.bits .or .i64 (wrap64 ((wrap64 (bt t i)) * 16777216)) (wrap64 ((wrap64 (bt t (i + 1))) * 65536))) (wrap64 ((wrap64 (bt t (i + 2))) * 256))) (wrap64 (bt t (i + 3))))
theorem fourAt_impl (t : ByteArray) (i : Int) (h0 : 0 ≤ i) (h1 : i + 4 ≤ (t.size : Int)) (hb : t.size ≤ 140737488351232) : impl_fourAt.f t i = some (fourV t i) := by
  unfold impl_fourAt.f
  rw [w64 (x := i + 1) (by omega) (by omega), w64 (x := i + 2) (by omega) (by omega), w64 (x := i + 3) (by omega) (by omega),
    if_pos (by omega), if_pos (by omega), if_pos (by omega), if_pos (by omega), if_pos (by omega), if_pos (by omega), if_pos (by omega), if_pos (by omega)]
  rfl
theorem fourAt_spec (t : ByteArray) (i : Int) (h0 : 0 ≤ i) (h1 : i + 4 ≤ (t.size : Int)) (hb : t.size ≤ 140737488351232) : spec_l17Four.f t i = some (fourV t i) := by
  unfold spec_l17Four.f
  rw [w64 (x := i + 1) (by omega) (by omega), w64 (x := i + 2) (by omega) (by omega), w64 (x := i + 3) (by omega) (by omega),
    if_pos (by omega), if_pos (by omega), if_pos (by omega), if_pos (by omega), if_pos (by omega), if_pos (by omega), if_pos (by omega), if_pos (by omega)]
  rfl
def argsOf (t : ByteArray) : List S66 := [⟨fourV t 8, fourV t 12⟩, ⟨fourV t 16, fourV t 20⟩, ⟨fourV t 24, fourV t 28⟩]
theorem ev_spec_ReadCall (t : ByteArray) (h : t.size = 32) : Ev (fun k => spec_ReadCall.f k t) (fourV t 0, fourV t 4, argsOf t, true) := by
  simp only [spec_ReadCall.f]
  refine evPos (by omega) ?_
  refine evBindS (fourAt_spec t 0 (by omega) (by omega) (by omega)) (evBindS (fourAt_spec t 4 (by omega) (by omega) (by omega)) ?_)
  refine evSucc ?_
  simp only [spec_ReadCall.l0]
  refine evPos (by omega) (evBindS (fourAt_spec t _ (by unfold wrap64; omega) (by rw [show wrap64 (8 + wrap64 (8 * 0)) = 8 from by unfold wrap64; omega]; omega) (by omega)) (evBindS (fourAt_spec t _ (by unfold wrap64; omega) (by rw [show wrap64 (12 + wrap64 (8 * 0)) = 12 from by unfold wrap64; omega]; omega) (by omega)) (evPos (by simp) (evSucc ?_))))
  simp only [spec_ReadCall.l0]
  refine evPos (by unfold wrap64; omega) (evBindS (fourAt_spec t _ (by unfold wrap64; omega) (by rw [show wrap64 (8 + wrap64 (8 * wrap64 (0 + 1))) = 16 from by unfold wrap64; omega]; omega) (by omega)) (evBindS (fourAt_spec t _ (by unfold wrap64; omega) (by rw [show wrap64 (12 + wrap64 (8 * wrap64 (0 + 1))) = 20 from by unfold wrap64; omega]; omega) (by omega)) (evPos (by simp) (evSucc ?_))))
  simp only [spec_ReadCall.l0]
  refine evPos (by unfold wrap64; omega) (evBindS (fourAt_spec t _ (by unfold wrap64; omega) (by rw [show wrap64 (8 + wrap64 (8 * wrap64 (wrap64 (0 + 1) + 1))) = 24 from by unfold wrap64; omega]; omega) (by omega)) (evBindS (fourAt_spec t _ (by unfold wrap64; omega) (by rw [show wrap64 (12 + wrap64 (8 * wrap64 (wrap64 (0 + 1) + 1))) = 28 from by unfold wrap64; omega]; omega) (by omega)) (evPos (by simp) (evSucc ?_))))
  simp only [spec_ReadCall.l0]
  refine evNeg (by unfold wrap64; omega) (evEq (Ev.now _) ?_)
  simp [argsOf, wrap64]
theorem ev_impl_ReadCall (t : ByteArray) (h : t.size = 32) : Ev (fun k => impl_ReadCall.f k t) (fourV t 0, fourV t 4, argsOf t, true) := by
  simp only [impl_ReadCall.f]
  refine evPos (by omega) ?_
  refine evBindS (fourAt_impl t 0 (by omega) (by omega) (by omega)) (evBindS (fourAt_impl t 4 (by omega) (by omega) (by omega)) ?_)
  refine evSucc ?_
  simp only [impl_ReadCall.l0]
  refine evPos (by omega) (evBindS (fourAt_impl t _ (by unfold wrap64; omega) (by rw [show wrap64 (8 + wrap64 (8 * 0)) = 8 from by unfold wrap64; omega]; omega) (by omega)) (evBindS (fourAt_impl t _ (by unfold wrap64; omega) (by rw [show wrap64 (12 + wrap64 (8 * 0)) = 12 from by unfold wrap64; omega]; omega) (by omega)) (evPos (by simp) (evSucc ?_))))
  simp only [impl_ReadCall.l0]
  refine evPos (by unfold wrap64; omega) (evBindS (fourAt_impl t _ (by unfold wrap64; omega) (by rw [show wrap64 (8 + wrap64 (8 * wrap64 (0 + 1))) = 16 from by unfold wrap64; omega]; omega) (by omega)) (evBindS (fourAt_impl t _ (by unfold wrap64; omega) (by rw [show wrap64 (12 + wrap64 (8 * wrap64 (0 + 1))) = 20 from by unfold wrap64; omega]; omega) (by omega)) (evPos (by simp) (evSucc ?_))))
  simp only [impl_ReadCall.l0]
  refine evPos (by unfold wrap64; omega) (evBindS (fourAt_impl t _ (by unfold wrap64; omega) (by rw [show wrap64 (8 + wrap64 (8 * wrap64 (wrap64 (0 + 1) + 1))) = 24 from by unfold wrap64; omega]; omega) (by omega)) (evBindS (fourAt_impl t _ (by unfold wrap64; omega) (by rw [show wrap64 (12 + wrap64 (8 * wrap64 (wrap64 (0 + 1) + 1))) = 28 from by unfold wrap64; omega]; omega) (by omega)) (evPos (by simp) (evSucc ?_))))
  simp only [impl_ReadCall.l0]
  refine evNeg (by unfold wrap64; omega) (evEq (Ev.now _) ?_)
  simp [argsOf, wrap64]
/-- What the two come to: the same, whatever the text. -/
theorem both (t : ByteArray) : ∃ a b l ok, l.length ≤ 3 ∧ Ev (fun k => spec_ReadCall.f k t) (a, b, l, ok) ∧ Ev (fun k => impl_ReadCall.f k t) (a, b, l, ok) := by
  by_cases h : t.size = 32
  · exact ⟨_, _, _, _, by simp [argsOf], ev_spec_ReadCall t h, ev_impl_ReadCall t h⟩
  · refine ⟨0, 0, [], false, by simp, ?_, ?_⟩
    · simp only [spec_ReadCall.f]; exact evNeg (by omega) (Ev.now _)
    · simp only [impl_ReadCall.f]; exact evNeg (by omega) (Ev.now _)
theorem FnExactReadCall : laws_FnExactReadCall.Pure := by
  intro t _
  refine Ev.rounds ?_
  simp only [laws_FnExactReadCall.f]
  by_cases hbig : (t.size : Int) > 1048576
  · exact evPos hbig (Ev.now _)
  · refine evNeg hbig ?_
    obtain ⟨a, b, l, ok, hl, h1, h2⟩ := both t
    refine Ev.bind h1 (Ev.bind h2 (Ev.bind (ev_eqCall a b l (by omega)) (evPos rfl (evSucc ?_))))
    simp only [laws_FnExactReadCall.j0]
    refine evNeg (by simp) (Ev.bind (ev_markCall a b l (by omega)) (Ev.bind (ev_heldCall a b _ (by omega)) (evNeg (by omega) (evPos rfl (Ev.bind h2 (Ev.bind (ev_eqCall a b l (by omega)) (evPos rfl (evSucc ?_))))))))
    simp only [laws_FnExactReadCall.j1]
    exact evNeg (by simp) (Ev.bind (ev_heldCall a b _ (by omega)) (evNeg (by omega) (evPos rfl (Ev.now _))))

end Go.Proofs.Ytfgkniegbdpanaa.Pure
