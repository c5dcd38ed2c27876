/- The plain proof of the law FnExactLostBy: the plain functions that the program and the reference come to answer alike. No condition. -/
import Derived.Test.YtfgkniegbdpanaaKit
import Derived.Test.YtfgkniegbdpanaaPAx20
import Derived.Test.YtfgkniegbdpanaaStFnExactLostBy
namespace Go.Proofs.Ytfgkniegbdpanaa.Pure
open Go.RowKit Go.Proofs.Ytfgkniegbdpanaa.PA Go.Proofs.YtfgkniegbdpanaaW.PrintWords Go.Proofs.YtfgkniegbdpanaaW.PrintLast Go.Proofs.YtfgkniegbdpanaaW.PrintMore Go.Proofs.Ytfgkniegbdpanaa.Kit Go.Proofs.Ytfgkniegbdpanaa.PureFnExactLostBy
set_option linter.unusedVariables false
set_option linter.unusedSimpArgs false
/-! lists of entries: copied, compared -/
def cvEntry (x : S25) : S29 := ⟨x.f0, x.f1, ⟨x.f2.f0, x.f2.f1, x.f2.f2, x.f2.f3⟩⟩
theorem rdLE (l : List S25) (i : Nat) (hi : i < l.length) : rd_T25 l (i : Int) = l[i] := by simp [rd_T25, hi]
theorem rdE (l : List S29) (i : Nat) (hi : i < l.length) : rd_T29 l (i : Int) = l[i] := by simp [rd_T29, hi]
theorem ev_toEntryS (l : List S25) (hl : l.length ≤ 1048576) : Ev (fun k => laws_toEntryS.f k l) (l.map cvEntry) := by
  have key := evUp (r := l.map cvEntry) l.length (fun i k => laws_toEntryS.l0 k l ((l.take i).map cvEntry ++ List.replicate (l.length - i) z29) (i : Int)) ?_ ?_
  · refine Ev.congr (fun k => ?_) key
    unfold laws_toEntryS.f
    rw [if_pos (by omega), if_pos (by omega)]
    simp
  · intro i hi ih
    refine evSucc ?_
    simp only [laws_toEntryS.l0]
    refine evPos (by omega) (evPos (by omega) ?_)
    simp only [laws_toEntry.f, laws_toItem.f, Option.bind_some, rdLE l i hi]
    refine evPos (by simp; omega) ?_
    rw [w64 (by omega) (by omega), ci, Int.toNat_natCast]
    rw [show (⟨l[i].f0, l[i].f1, ⟨l[i].f2.f0, l[i].f2.f1, l[i].f2.f2, l[i].f2.f3⟩⟩ : S29) = cvEntry l[i] from rfl, fillStep cvEntry _ l i hi]
    exact ih
  · refine evSucc ?_
    simp only [laws_toEntryS.l0]
    refine evNeg (by omega) ?_
    simp
    exact Ev.now _
theorem eqEntryRefl (a b c d e f : Int) : laws_eqEntry.f a b c d e f a b c d e f = some true := by simp [laws_eqEntry.f, laws_eqItem.f]
theorem ev_eqEntryS (l : List S29) (hl : l.length ≤ 1048576) : Ev (fun k => laws_eqEntryS.f k l l) true := by
  have key := evUp (r := true) l.length (fun i k => laws_eqEntryS.l0 k l l (i : Int)) ?_ ?_
  · refine Ev.congr (fun k => ?_) key
    unfold laws_eqEntryS.f
    rw [if_pos rfl]
    rfl
  · intro i hi ih
    refine evSucc ?_
    simp only [laws_eqEntryS.l0]
    refine evPos (by omega) (evPos (by omega) (evPos (by omega) ?_))
    simp only [eqEntryRefl, Option.bind_some, if_true]
    rw [w64 (by omega) (by omega), ci]
    exact ih
  · refine evSucc ?_
    simp only [laws_eqEntryS.l0]
    exact evNeg (by omega) (Ev.now _)
theorem szEntryS_small (l : List S25) (h : l.length ≤ 1048576) : laws_szEntryS.f l 1048576 = some (1048576 - (l.length : Int)) := by
  unfold laws_szEntryS.f
  rw [w64 (by omega) (by omega), if_neg (by omega)]
theorem szEntryS_big (l : List S25) (h : 1048576 < l.length) (hb : l.length ≤ 9223372036854775807) : laws_szEntryS.f l 1048576 = some (-1) := by
  unfold laws_szEntryS.f
  rw [w64 (by omega) (by omega), if_pos (by omega)]
def lbStep (pid : Int) (n : Int) (e : S29) : Int := if e.f0 = pid ∧ e.f2.f0 = 2 ∧ 0 < e.f2.f3 then mn 1000000000 (n + mn 1000000000 e.f2.f3) else n
def lb (pid : Int) (l : List S29) : Int := l.foldl (lbStep pid) 0
theorem lb_step (pid : Int) (l : List S29) (i : Nat) (hi : i < l.length) : lb pid (l.take (i + 1)) = lbStep pid (lb pid (l.take i)) l[i] := by
  unfold lb
  rw [takeSnoc l i hi, List.foldl_append]
  rfl
theorem lbStep_range (pid n : Int) (e : S29) (h0 : 0 ≤ n) (h1 : n ≤ 1000000000) : 0 ≤ lbStep pid n e ∧ lbStep pid n e ≤ 1000000000 := by
  unfold lbStep
  by_cases c : e.f0 = pid ∧ e.f2.f0 = 2 ∧ 0 < e.f2.f3
  · rw [if_pos c]; unfold mn; split <;> split <;> omega
  · rw [if_neg c]; omega
theorem lb_range (pid : Int) (l : List S29) : 0 ≤ lb pid l ∧ lb pid l ≤ 1000000000 := by
  have key : ∀ (l : List S29) (n : Int), 0 ≤ n → n ≤ 1000000000 → 0 ≤ l.foldl (lbStep pid) n ∧ l.foldl (lbStep pid) n ≤ 1000000000 := by
    intro l
    induction l with
    | nil => intro n h0 h1; exact ⟨h0, h1⟩
    | cons e l ih => intro n h0 h1; obtain ⟨a, b⟩ := lbStep_range pid n e h0 h1; exact ih _ a b
  exact key l 0 (by omega) (by omega)
theorem ev_spec_LostBy (l : List S29) (pid : Int) (hl : l.length ≤ 1048576) (hI : ∀ e ∈ l, -9223372036854775808 ≤ e.f2.f3 ∧ e.f2.f3 ≤ 9223372036854775807) : Ev (fun k => spec_LostBy.f k l pid) (lb pid l) := by
  have key := evUp (r := lb pid l) l.length (fun i k => spec_LostBy.l0 k l pid (lb pid (l.take i)) (i : Int)) ?_ ?_
  · exact key
  · intro i hi ih
    obtain ⟨hb0, hb1⟩ := lb_range pid (l.take i)
    have hs := lb_step pid l i hi
    have hr := hI _ (List.getElem_mem hi)
    unfold lbStep at hs
    refine evSucc ?_
    simp only [spec_LostBy.l0]
    refine evPos (by omega) (evPos (by omega) ?_)
    rw [rdE l i hi]
    by_cases h1 : l[i].f0 = pid
    · refine evPos h1 ?_
      by_cases h2 : l[i].f2.f0 = 2
      · refine evPos h2 (evSucc ?_)
        simp only [spec_LostBy.j1]
        by_cases h3 : l[i].f2.f3 ≤ 0
        · refine evPos (by simpa using h3) ?_
          rw [if_neg (fun h => by have := h.2.2; omega)] at hs
          rw [w64 (by omega) (by omega), ci i, ← hs]
          exact ih
        · refine evNeg (by simpa using h3) ?_
          rw [if_pos ⟨h1, h2, by omega⟩] at hs
          rw [w64 (x := 1000000000 - lb pid (l.take i)) (by omega) (by omega)]
          by_cases h4 : l[i].f2.f3 > 1000000000 - lb pid (l.take i)
          · refine evPos h4 ?_
            rw [w64 (by omega) (by omega), ci i]
            rw [show lb pid (l.take (i + 1)) = 1000000000 by rw [hs]; unfold mn; split <;> split <;> omega] at ih
            exact ih
          · refine evNeg h4 ?_
            rw [w64 (x := (i : Int) + 1) (by omega) (by omega), ci i, w64 (by omega) (by omega)]
            rw [show lb pid (l.take (i + 1)) = lb pid (l.take i) + l[i].f2.f3 by rw [hs]; unfold mn; split <;> split <;> omega] at ih
            exact ih
      · refine evNeg h2 (evSucc ?_)
        simp only [spec_LostBy.j1]
        refine evPos (by simp) ?_
        rw [if_neg (fun h => h2 h.2.1)] at hs
        rw [w64 (by omega) (by omega), ci i, ← hs]
        exact ih
    · refine evNeg h1 (evSucc ?_)
      simp only [spec_LostBy.j1]
      refine evPos (by simp) ?_
      rw [if_neg (fun h => h1 h.1)] at hs
      rw [w64 (by omega) (by omega), ci i, ← hs]
      exact ih
  · refine evSucc ?_
    simp only [spec_LostBy.l0]
    refine evNeg (by omega) ?_
    rw [List.take_length]
    exact Ev.now _
theorem ev_impl_LostBy (l : List S29) (pid : Int) (hl : l.length ≤ 1048576) (hI : ∀ e ∈ l, -9223372036854775808 ≤ e.f2.f3 ∧ e.f2.f3 ≤ 9223372036854775807) : Ev (fun k => impl_LostBy.f k l pid) (lb pid l) := by
  have key := evUp (r := lb pid l) l.length (fun i k => impl_LostBy.l0 k pid (lb pid (l.take i)) l (l.length : Int) (i : Int)) ?_ ?_
  · exact key
  · intro i hi ih
    obtain ⟨hb0, hb1⟩ := lb_range pid (l.take i)
    have hs := lb_step pid l i hi
    have hr := hI _ (List.getElem_mem hi)
    unfold lbStep at hs
    refine evSucc ?_
    simp only [impl_LostBy.l0]
    refine evPos (by omega) (evPos (by omega) (evPos (by omega) ?_))
    rw [rdE l i hi, w64 (x := (i : Int) + 1) (by omega) (by omega), ci i]
    by_cases h1 : l[i].f0 = pid
    · refine evPos h1 ?_
      by_cases h2 : l[i].f2.f0 = 2
      · refine evPos h2 ?_
        by_cases h3 : l[i].f2.f3 > 0
        · refine evPos h3 ?_
          rw [if_pos ⟨h1, h2, by omega⟩] at hs
          have hm : 0 ≤ mn 1000000000 l[i].f2.f3 ∧ mn 1000000000 l[i].f2.f3 ≤ 1000000000 := by unfold mn; split <;> omega
          rw [w64 (by omega) (by omega), ← hs]
          exact ih
        · refine evNeg h3 ?_
          rw [if_neg (fun h => h3 h.2.2)] at hs
          rw [← hs]
          exact ih
      · refine evNeg h2 ?_
        rw [if_neg (fun h => h2 h.2.1)] at hs
        rw [← hs]
        exact ih
    · refine evNeg h1 ?_
      rw [if_neg (fun h => h1 h.1)] at hs
      rw [← hs]
      exact ih
  · refine evSucc ?_
    simp only [impl_LostBy.l0]
    refine evNeg (by omega) ?_
    rw [List.take_length]
    exact Ev.now _
theorem FnExactLostBy : PureFnExactLostBy.Stated := by
  intro l pid ⟨hA, hb⟩ _
  refine Ev.rounds ?_
  simp only [laws_FnExactLostBy.f]
  by_cases h : l.length ≤ 1048576
  · rw [szEntryS_small l h]
    simp only [Option.bind_some]
    refine evNeg (by omega) ?_
    have hm : (l.map cvEntry).length ≤ 1048576 := by simpa using h
    have hI : ∀ e ∈ l.map cvEntry, -9223372036854775808 ≤ e.f2.f3 ∧ e.f2.f3 ≤ 9223372036854775807 := by
      intro e he
      obtain ⟨x, hx, rfl⟩ := List.mem_map.1 he
      exact okI64 (hA x hx).2.2.2.2.2
    refine Ev.bind (ev_toEntryS l h) (Ev.bind (ev_spec_LostBy _ pid hm hI) (Ev.bind (ev_toEntryS l h) (Ev.bind (ev_impl_LostBy _ pid hm hI) ?_)))
    refine evPos rfl (Ev.bind (ev_toEntryS l h) (Ev.bind (ev_eqEntryS _ hm) ?_))
    exact evPos rfl (Ev.now _)
  · rw [szEntryS_big l (by omega) hb]
    simp only [Option.bind_some]
    exact evPos (by omega) (Ev.now _)

end Go.Proofs.Ytfgkniegbdpanaa.Pure
