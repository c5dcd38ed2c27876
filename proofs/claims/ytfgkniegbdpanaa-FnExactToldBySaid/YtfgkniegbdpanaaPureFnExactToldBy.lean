/- The plain proof of the law FnExactToldBy: the plain functions that the program and the reference come to answer alike. No condition. -/
import Derived.Test.YtfgkniegbdpanaaKit
import Derived.Test.YtfgkniegbdpanaaPAx17
import Derived.Test.YtfgkniegbdpanaaStFnExactToldBy
namespace Go.Proofs.Ytfgkniegbdpanaa.Pure
open Go.RowKit Go.Proofs.Ytfgkniegbdpanaa.PA Go.Proofs.YtfgkniegbdpanaaW.PrintWords Go.Proofs.YtfgkniegbdpanaaW.PrintLast Go.Proofs.YtfgkniegbdpanaaW.PrintMore Go.Proofs.Ytfgkniegbdpanaa.Kit Go.Proofs.Ytfgkniegbdpanaa.PureFnExactToldBy
set_option linter.unusedVariables false
set_option linter.unusedSimpArgs false
/-! lists of entries: copied, compared -/
def cvEntry (x : S25) : S29 := ⟨x.f0, x.f1, ⟨x.f2.f0, x.f2.f1, x.f2.f2, x.f2.f3⟩⟩
theorem rdLE (l : List S25) (i : Nat) (hi : i < l.length) : rd_T25 l (i : Int) = l[i] := by simp [rd_T25, hi]
theorem rdE (l : List S29) (i : Nat) (hi : i < l.length) : rd_T29 l (i : Int) = l[i] := by simp [rd_T29, hi]
theorem ev_toEntryS (l : List S25) (hl : l.length ≤ 1048576) : Ev (fun k => laws_toEntryS.f k l) (l.map cvEntry) := by
  have key := evUp (r := l.map cvEntry) l.length (fun i k => laws_toEntryS.l0 k l ((l.take i).map cvEntry ++ List.replicate (l.length - i) z29) (i : Int)) ?_ ?_
  · refine Ev.congr (fun k => ?_) key
    unfold laws_toEntryS.f
    rw [if_pos (by omega), if_pos (by omega)]
    simp
  · intro i hi ih
    refine evSucc ?_
    simp only [laws_toEntryS.l0]
    refine evPos (by omega) (evPos (by omega) ?_)
    simp only [laws_toEntry.f, laws_toItem.f, Option.bind_some, rdLE l i hi]
    refine evPos (by simp; omega) ?_
    rw [w64 (by omega) (by omega), ci, Int.toNat_natCast]
    rw [show (⟨l[i].f0, l[i].f1, ⟨l[i].f2.f0, l[i].f2.f1, l[i].f2.f2, l[i].f2.f3⟩⟩ : S29) = cvEntry l[i] from rfl, fillStep cvEntry _ l i hi]
    exact ih
  · refine evSucc ?_
    simp only [laws_toEntryS.l0]
    refine evNeg (by omega) ?_
    simp
    exact Ev.now _
theorem eqEntryRefl (a b c d e f : Int) : laws_eqEntry.f a b c d e f a b c d e f = some true := by simp [laws_eqEntry.f, laws_eqItem.f]
theorem ev_eqEntryS (l : List S29) (hl : l.length ≤ 1048576) : Ev (fun k => laws_eqEntryS.f k l l) true := by
  have key := evUp (r := true) l.length (fun i k => laws_eqEntryS.l0 k l l (i : Int)) ?_ ?_
  · refine Ev.congr (fun k => ?_) key
    unfold laws_eqEntryS.f
    rw [if_pos rfl]
    rfl
  · intro i hi ih
    refine evSucc ?_
    simp only [laws_eqEntryS.l0]
    refine evPos (by omega) (evPos (by omega) (evPos (by omega) ?_))
    simp only [eqEntryRefl, Option.bind_some, if_true]
    rw [w64 (by omega) (by omega), ci]
    exact ih
  · refine evSucc ?_
    simp only [laws_eqEntryS.l0]
    exact evNeg (by omega) (Ev.now _)
theorem szEntryS_small (l : List S25) (h : l.length ≤ 1048576) : laws_szEntryS.f l 1048576 = some (1048576 - (l.length : Int)) := by
  unfold laws_szEntryS.f
  rw [w64 (by omega) (by omega), if_neg (by omega)]
theorem szEntryS_big (l : List S25) (h : 1048576 < l.length) (hb : l.length ≤ 9223372036854775807) : laws_szEntryS.f l 1048576 = some (-1) := by
  unfold laws_szEntryS.f
  rw [w64 (by omega) (by omega), if_pos (by omega)]
def tb (pid : Int) (l : List S29) : Nat := l.countP (fun e => e.f0 == pid && e.f2.f0 == 1)
theorem tb_le (pid : Int) (l : List S29) : tb pid l ≤ l.length := List.countP_le_length
theorem tb_step (pid : Int) (l : List S29) (i : Nat) (hi : i < l.length) : tb pid (l.take (i + 1)) = tb pid (l.take i) + (if l[i].f0 = pid ∧ l[i].f2.f0 = 1 then 1 else 0) := by
  unfold tb
  rw [takeSnoc l i hi, List.countP_append, List.countP_singleton]
  simp
theorem ev_spec_ToldBy (l : List S29) (pid : Int) (hl : l.length ≤ 1048576) : Ev (fun k => spec_ToldBy.f k l pid) (tb pid l : Int) := by
  have key := evUp (r := (tb pid l : Int)) l.length (fun i k => spec_ToldBy.l0 k l pid (tb pid (l.take i) : Int) (i : Int)) ?_ ?_
  · exact key
  · intro i hi ih
    have hb := tb_le pid (l.take i)
    have hs := tb_step pid l i hi
    have hlen : (l.take i).length ≤ i := by simp; omega
    refine evSucc ?_
    simp only [spec_ToldBy.l0]
    refine evPos (by omega) (evPos (by omega) ?_)
    rw [rdE l i hi, w64 (x := (i : Int) + 1) (by omega) (by omega), ci i]
    by_cases h1 : l[i].f0 = pid
    · refine evPos h1 ?_
      by_cases h2 : l[i].f2.f0 = 1
      · refine evPos h2 ?_
        rw [if_pos ⟨h1, h2⟩] at hs
        rw [w64 (by omega) (by omega), show (tb pid (l.take i) : Int) + 1 = (tb pid (l.take (i + 1)) : Int) by omega]
        exact ih
      · refine evNeg h2 ?_
        rw [if_neg (fun h => h2 h.2)] at hs
        rw [show (tb pid (l.take i) : Int) = (tb pid (l.take (i + 1)) : Int) by omega]
        exact ih
    · refine evNeg h1 ?_
      rw [if_neg (fun h => h1 h.1)] at hs
      rw [show (tb pid (l.take i) : Int) = (tb pid (l.take (i + 1)) : Int) by omega]
      exact ih
  · refine evSucc ?_
    simp only [spec_ToldBy.l0]
    refine evNeg (by omega) ?_
    rw [List.take_length]
    exact Ev.now _
theorem ev_impl_ToldBy (l : List S29) (pid : Int) (hl : l.length ≤ 1048576) : Ev (fun k => impl_ToldBy.f k l pid) (tb pid l : Int) := by
  have key := evUp (r := (tb pid l : Int)) l.length (fun i k => impl_ToldBy.l0 k pid (tb pid (l.take i) : Int) l (l.length : Int) (i : Int)) ?_ ?_
  · exact key
  · intro i hi ih
    have hb := tb_le pid (l.take i)
    have hs := tb_step pid l i hi
    have hlen : (l.take i).length ≤ i := by simp; omega
    refine evSucc ?_
    simp only [impl_ToldBy.l0]
    refine evPos (by omega) (evPos (by omega) (evPos (by omega) ?_))
    rw [rdE l i hi, w64 (x := (i : Int) + 1) (by omega) (by omega), ci i]
    by_cases h1 : l[i].f0 = pid
    · refine evPos h1 ?_
      by_cases h2 : l[i].f2.f0 = 1
      · refine evPos h2 ?_
        rw [if_pos ⟨h1, h2⟩] at hs
        rw [w64 (by omega) (by omega), show (tb pid (l.take i) : Int) + 1 = (tb pid (l.take (i + 1)) : Int) by omega]
        exact ih
      · refine evNeg h2 ?_
        rw [if_neg (fun h => h2 h.2)] at hs
        rw [show (tb pid (l.take i) : Int) = (tb pid (l.take (i + 1)) : Int) by omega]
        exact ih
    · refine evNeg h1 ?_
      rw [if_neg (fun h => h1 h.1)] at hs
      rw [show (tb pid (l.take i) : Int) = (tb pid (l.take (i + 1)) : Int) by omega]
      exact ih
  · refine evSucc ?_
    simp only [impl_ToldBy.l0]
    refine evNeg (by omega) ?_
    rw [List.take_length]
    exact Ev.now _
theorem FnExactToldBy : PureFnExactToldBy.Stated := by
  intro l pid ⟨_, hb⟩ _
  refine Ev.rounds ?_
  simp only [laws_FnExactToldBy.f]
  by_cases h : l.length ≤ 1048576
  · rw [szEntryS_small l h]
    simp only [Option.bind_some]
    refine evNeg (by omega) ?_
    have hm : (l.map cvEntry).length ≤ 1048576 := by simpa using h
    refine Ev.bind (ev_toEntryS l h) (Ev.bind (ev_spec_ToldBy _ pid hm) (Ev.bind (ev_toEntryS l h) (Ev.bind (ev_impl_ToldBy _ pid hm) ?_)))
    refine evPos rfl (Ev.bind (ev_toEntryS l h) (Ev.bind (ev_eqEntryS _ hm) ?_))
    exact evPos rfl (Ev.now _)
  · rw [szEntryS_big l (by omega) hb]
    simp only [Option.bind_some]
    exact evPos (by omega) (Ev.now _)

end Go.Proofs.Ytfgkniegbdpanaa.Pure
