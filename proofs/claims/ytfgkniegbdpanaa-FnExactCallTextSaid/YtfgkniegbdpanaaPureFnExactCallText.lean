/- The plain proof of the law FnExactCallText: the plain functions that the program and the reference come to answer alike. No condition. -/
import Derived.Test.YtfgkniegbdpanaaKit
import Derived.Test.YtfgkniegbdpanaaPAx50
import Derived.Test.YtfgkniegbdpanaaStFnExactCallText
namespace Go.Proofs.Ytfgkniegbdpanaa.Pure
open Go.RowKit Go.Proofs.Ytfgkniegbdpanaa.PA Go.Proofs.YtfgkniegbdpanaaW.PrintWords Go.Proofs.YtfgkniegbdpanaaW.PrintLast Go.Proofs.YtfgkniegbdpanaaW.PrintMore Go.Proofs.Ytfgkniegbdpanaa.Kit Go.Proofs.Ytfgkniegbdpanaa.PureFnExactCallText
set_option linter.unusedVariables false
set_option linter.unusedSimpArgs false
/-! lists of wide numbers: compared, marked, held -/
theorem rdW (l : List S66) (i : Nat) (hi : i < l.length) : rd_T66 l (i : Int) = l[i] := by simp [rd_T66, hi]
theorem ev_eqWideS (l : List S66) (hl : l.length ≤ 1048576) : Ev (fun k => laws_eqWideS.f k l l) true := by
  have key := evUp (r := true) l.length (fun i k => laws_eqWideS.l0 k l l (i : Int)) ?_ ?_
  · refine Ev.congr (fun k => ?_) key
    unfold laws_eqWideS.f
    rw [if_pos rfl]
    rfl
  · intro i hi ih
    refine evSucc ?_
    simp only [laws_eqWideS.l0]
    refine evPos (by omega) (evPos (by omega) (evPos (by omega) ?_))
    simp only [laws_eqWide.f, if_true, Option.bind_some]
    rw [w64 (by omega) (by omega), ci]
    exact ih
  · refine evSucc ?_
    simp only [laws_eqWideS.l0]
    exact evNeg (by omega) (Ev.now _)
theorem ev_eqCall (a b : Int) (l : List S66) (hl : l.length ≤ 1048576) : Ev (fun k => laws_eqCall.f k a b l a b l) true := by
  simp only [laws_eqCall.f, if_true]
  exact Ev.bind (ev_eqWideS l hl) (evPos rfl (Ev.now _))
def cvWide (x : S82) : S66 := ⟨x.f0, x.f1⟩
theorem rdLW (l : List S82) (i : Nat) (hi : i < l.length) : rd_T82 l (i : Int) = l[i] := by simp [rd_T82, hi]
theorem ev_toWideS (l : List S82) (hl : l.length ≤ 1048576) : Ev (fun k => laws_toWideS.f k l) (l.map cvWide) := by
  have key := evUp (r := l.map cvWide) l.length (fun i k => laws_toWideS.l0 k l ((l.take i).map cvWide ++ List.replicate (l.length - i) z66) (i : Int)) ?_ ?_
  · refine Ev.congr (fun k => ?_) key
    unfold laws_toWideS.f
    rw [if_pos (by omega), if_pos (by omega)]
    simp
  · intro i hi ih
    refine evSucc ?_
    simp only [laws_toWideS.l0]
    refine evPos (by omega) (evPos (by omega) ?_)
    simp only [laws_toWide.f, Option.bind_some, rdLW l i hi]
    refine evPos (by simp; omega) ?_
    rw [w64 (by omega) (by omega), ci, Int.toNat_natCast]
    rw [show (⟨l[i].f0, l[i].f1⟩ : S66) = cvWide l[i] from rfl, fillStep cvWide _ l i hi]
    exact ih
  · refine evSucc ?_
    simp only [laws_toWideS.l0]
    refine evNeg (by omega) ?_
    simp
    exact Ev.now _
theorem ev_toCall (a b : Int) (l : List S82) (hl : l.length ≤ 1048576) : Ev (fun k => laws_toCall.f k a b l) (a, b, l.map cvWide) := by
  simp only [laws_toCall.f]
  exact Ev.bind (ev_toWideS l hl) (Ev.now _)
theorem szCall_small (a b : Int) (l : List S82) (h : l.length ≤ 1048576) : laws_szCall.f a b l 1048576 = some (1048576 - (l.length : Int)) := by
  unfold laws_szCall.f laws_szWideS.f
  rw [w64 (by omega) (by omega), if_neg (by omega)]
  simp only [Option.bind_some]
  rw [if_neg (by omega)]
theorem szCall_big (a b : Int) (l : List S82) (h : 1048576 < l.length) (hb : l.length ≤ 9223372036854775807) : laws_szCall.f a b l 1048576 = some (-1) := by
  unfold laws_szCall.f laws_szWideS.f
  rw [w64 (by omega) (by omega), if_pos (by omega)]
  rfl
/-! halves, wide numbers, calls: right or not -/
def halfB (n : Int) : Bool := decide (0 ≤ n) && decide (n ≤ 4294967295)
theorem impl_half (n : Int) : impl_HalfOk.f n = some (halfB n) := by
  unfold impl_HalfOk.f impl_within.f halfB
  by_cases h : n ≥ 0
  · simp [h]
  · simp [h]
    try omega
def wideB (w : S66) : Bool := halfB w.f0 && halfB w.f1
theorem impl_wide (w : S66) : impl_WideOk.f w.f0 w.f1 = some (wideB w) := by
  unfold impl_WideOk.f wideB
  rw [impl_half, impl_half]
  cases halfB w.f0 <;> simp
def callB (a b : Int) (l : List S66) : Bool := l.all wideB && (halfB a && (halfB b && (l.length == 3)))
theorem ev_impl_CallOk (a b : Int) (l : List S66) (hl : l.length ≤ 1048576) : Ev (fun k => impl_CallOk.f k a b l) (callB a b l) := by
  unfold callB
  by_cases hall : l.all wideB = true
  · have key := evUp (r := (halfB a && (halfB b && (l.length == 3)))) l.length (fun i k => impl_CallOk.l0 k l (l.length : Int) (i : Int) a b l) ?_ ?_
    · rw [hall]; exact key
    · intro i hi ih
      refine evSucc ?_
      simp only [impl_CallOk.l0]
      refine evPos (by omega) (evPos (by omega) (evPos (by omega) ?_))
      rw [rdW l i hi, impl_wide, w64 (by omega) (by omega), ci]
      simp only [Option.bind_some]
      exact evPos (by simpa using List.all_eq_true.1 hall _ (List.getElem_mem hi)) ih
    · refine evSucc ?_
      simp only [impl_CallOk.l0]
      refine evNeg (by omega) ?_
      rw [impl_half, impl_half]
      simp only [Option.bind_some]
      cases halfB a
      · exact evNeg (by simp) (Ev.now _)
      · refine evPos rfl ?_
        cases halfB b
        · exact evNeg (by simp) (Ev.now _)
        · refine evPos rfl (evEq (Ev.now _) ?_)
          simp only [Bool.true_and]
          rw [Bool.eq_iff_iff]
          simp
          try omega
  · have h0 : l.all wideB = false := by simpa using hall
    rw [h0]
    obtain ⟨x, hx, hb⟩ := List.all_eq_false.1 h0
    obtain ⟨j, hj, rfl⟩ := List.getElem_of_mem hx
    have key : ∀ d i, i + d = j → Ev (fun k => impl_CallOk.l0 k l (l.length : Int) (i : Int) a b l) false := by
      intro d
      induction d with
      | zero =>
        intro i hi
        refine evSucc ?_
        simp only [impl_CallOk.l0]
        refine evPos (by omega) (evPos (by omega) (evPos (by omega) ?_))
        obtain rfl : i = j := by omega
        rw [rdW l i hj, impl_wide]
        simp only [Option.bind_some]
        exact evNeg (by simpa using hb) (Ev.now _)
      | succ d ih =>
        intro i hi
        refine evSucc ?_
        simp only [impl_CallOk.l0]
        have hi' : i < l.length := by omega
        refine evPos (by omega) (evPos (by omega) (evPos (by omega) ?_))
        rw [rdW l i hi', impl_wide, w64 (by omega) (by omega), ci]
        simp only [Option.bind_some]
        by_cases hw : wideB l[i] = true
        · exact evPos hw (ih (i + 1) (by omega))
        · exact evNeg hw (Ev.now _)
    exact key j 0 (by omega)
theorem spec_half (n : Int) : spec_HalfOk.f n = some (halfB n) := by
  unfold spec_HalfOk.f spec_l01In.f halfB
  by_cases h : n ≥ 0
  · simp [h]
  · simp [h]
    try omega
theorem spec_wide (w : S66) : spec_WideOk.f w.f0 w.f1 = some (wideB w) := by
  unfold spec_WideOk.f wideB
  rw [spec_half, spec_half]
  cases halfB w.f0 <;> simp
theorem ev_spec_CallOk (a b : Int) (l : List S66) (hl : l.length ≤ 1048576) : Ev (fun k => spec_CallOk.f k a b l) (callB a b l) := by
  unfold callB
  by_cases hall : l.all wideB = true
  · have key := evUp (r := (halfB a && (halfB b && (l.length == 3)))) l.length (fun i k => spec_CallOk.l0 k (i : Int) a b l) ?_ ?_
    · rw [hall]; exact key
    · intro i hi ih
      refine evSucc ?_
      simp only [spec_CallOk.l0]
      refine evPos (by omega) (evPos (by omega) ?_)
      rw [rdW l i hi, spec_wide, w64 (by omega) (by omega), ci]
      simp only [Option.bind_some]
      exact evPos (by simpa using List.all_eq_true.1 hall _ (List.getElem_mem hi)) ih
    · refine evSucc ?_
      simp only [spec_CallOk.l0]
      refine evNeg (by omega) ?_
      rw [spec_half, spec_half]
      simp only [Option.bind_some]
      cases halfB a
      · exact evNeg (by simp) (Ev.now _)
      · refine evPos rfl ?_
        cases halfB b
        · exact evNeg (by simp) (Ev.now _)
        · refine evPos rfl (evEq (Ev.now _) ?_)
          simp only [Bool.true_and]
          rw [Bool.eq_iff_iff]
          simp
          try omega
  · have h0 : l.all wideB = false := by simpa using hall
    rw [h0]
    obtain ⟨x, hx, hb⟩ := List.all_eq_false.1 h0
    obtain ⟨j, hj, rfl⟩ := List.getElem_of_mem hx
    have key : ∀ d i, i + d = j → Ev (fun k => spec_CallOk.l0 k (i : Int) a b l) false := by
      intro d
      induction d with
      | zero =>
        intro i hi
        refine evSucc ?_
        simp only [spec_CallOk.l0]
        refine evPos (by omega) (evPos (by omega) ?_)
        obtain rfl : i = j := by omega
        rw [rdW l i hj, spec_wide]
        simp only [Option.bind_some]
        exact evNeg (by simpa using hb) (Ev.now _)
      | succ d ih =>
        intro i hi
        refine evSucc ?_
        simp only [spec_CallOk.l0]
        have hi' : i < l.length := by omega
        refine evPos (by omega) (evPos (by omega) ?_)
        rw [rdW l i hi', spec_wide, w64 (by omega) (by omega), ci]
        simp only [Option.bind_some]
        by_cases hw : wideB l[i] = true
        · exact evPos hw (ih (i + 1) (by omega))
        · exact evNeg hw (Ev.now _)
    exact key j 0 (by omega)
def four4 (n : Int) : ByteArray := strOfNums [(n / 16777216) % 256, (n / 65536) % 256, (n / 256) % 256, n % 256]
theorem four4_size (n : Int) : (four4 n).size = 4 := by simp [four4, strOfNums_size]
theorem impl_four4 (n : Int) : impl_four.f n = some (four4 n) := rfl
theorem spec_four4 (n : Int) : spec_l06Four.f n = some (four4 n) := rfl
def ctStep (s : ByteArray) (w : S66) : ByteArray := (s ++ four4 w.f0) ++ four4 w.f1
def ctAll (a b : Int) (l : List S66) : ByteArray := l.foldl ctStep (four4 a ++ four4 b)
theorem ct_size (a b : Int) (l : List S66) : (ctAll a b l).size = 8 + 8 * l.length := by
  have key : ∀ (l : List S66) (s : ByteArray), (l.foldl ctStep s).size = s.size + 8 * l.length := by
    intro l
    induction l with
    | nil => intro s; simp
    | cons w l ih => intro s; rw [List.foldl_cons, ih]; simp [ctStep, sizeApp, four4_size]; omega
  unfold ctAll
  rw [key, sizeApp, four4_size, four4_size]
theorem ct_step (a b : Int) (l : List S66) (i : Nat) (hi : i < l.length) : ctAll a b (l.take (i + 1)) = ctStep (ctAll a b (l.take i)) l[i] := by
  unfold ctAll
  rw [takeSnoc l i hi, List.foldl_append]
  rfl
def ctB (a b : Int) (l : List S66) : ByteArray × Bool := if callB a b l = true then (ctAll a b l, true) else (⟨#[]⟩, false)
theorem ev_spec_CallText (a b : Int) (l : List S66) (hl : l.length ≤ 1048576) : Ev (fun k => spec_CallText.f k a b l) (ctB a b l) := by
  simp only [spec_CallText.f]
  refine Ev.bind (ev_spec_CallOk a b l hl) ?_
  unfold ctB
  by_cases h : callB a b l = true
  · rw [if_pos h]
    refine evPos h ?_
    simp only [spec_four4, Option.bind_some]
    refine evPos (by rw [four4_size, four4_size]; omega) ?_
    have key := evUp (r := (ctAll a b l, true)) l.length (fun i k => spec_CallText.l0 k (ctAll a b (l.take i)) (i : Int) a b l) ?_ ?_
    · exact key
    · intro i hi ih
      have hs := ct_size a b (l.take i)
      have hln : (l.take i).length ≤ i := by simp; omega
      refine evSucc ?_
      simp only [spec_CallText.l0]
      refine evPos (by omega) (evPos (by omega) ?_)
      rw [rdW l i hi, w64 (by omega) (by omega), ci]
      simp only [spec_four4, Option.bind_some]
      refine evPos (by rw [four4_size]; omega) (evPos (by rw [sizeApp, four4_size, four4_size]; omega) ?_)
      have := ct_step a b l i hi
      unfold ctStep at this
      rw [← this]
      exact ih
    · refine evSucc ?_
      simp only [spec_CallText.l0]
      refine evNeg (by omega) ?_
      rw [List.take_length]
      exact Ev.now _
  · rw [if_neg h]
    exact evNeg h (Ev.now _)
theorem ev_impl_CallText (a b : Int) (l : List S66) (hl : l.length ≤ 1048576) : Ev (fun k => impl_CallText.f k a b l) (ctB a b l) := by
  simp only [impl_CallText.f]
  refine Ev.bind (ev_impl_CallOk a b l hl) ?_
  unfold ctB
  by_cases h : callB a b l = true
  · rw [if_pos h]
    refine evPos h ?_
    simp only [impl_four4, Option.bind_some]
    refine evPos (by rw [four4_size, four4_size]; omega) ?_
    have key := evUp (r := (ctAll a b l, true)) l.length (fun i k => impl_CallText.l0 k (ctAll a b (l.take i)) l (l.length : Int) (i : Int)) ?_ ?_
    · exact key
    · intro i hi ih
      have hs := ct_size a b (l.take i)
      have hln : (l.take i).length ≤ i := by simp; omega
      refine evSucc ?_
      simp only [impl_CallText.l0]
      refine evPos (by omega) (evPos (by omega) (evPos (by omega) ?_))
      rw [rdW l i hi, w64 (by omega) (by omega), ci]
      simp only [impl_four4, Option.bind_some]
      refine evPos (by rw [four4_size]; omega) (evPos (by rw [sizeApp, four4_size, four4_size]; omega) ?_)
      have := ct_step a b l i hi
      unfold ctStep at this
      rw [← this]
      exact ih
    · refine evSucc ?_
      simp only [impl_CallText.l0]
      refine evNeg (by omega) ?_
      rw [List.take_length]
      exact Ev.now _
  · rw [if_neg h]
    exact evNeg h (Ev.now _)
theorem FnExactCallText : PureFnExactCallText.Stated := by
  intro c ⟨_, _, _, hb⟩
  obtain ⟨a, b, l⟩ := c
  refine Ev.rounds ?_
  simp only [laws_FnExactCallText.f]
  by_cases h : l.length ≤ 1048576
  · rw [szCall_small a b l h]
    simp only [Option.bind_some]
    refine evNeg (by omega) ?_
    have hm : (l.map cvWide).length ≤ 1048576 := by simpa using h
    refine Ev.bind (ev_toCall a b l h) (Ev.bind (ev_spec_CallText a b _ hm) (Ev.bind (ev_toCall a b l h) (Ev.bind (ev_impl_CallText a b _ hm) ?_)))
    refine evPos rfl (evSucc ?_)
    simp only [laws_FnExactCallText.j0]
    refine evNeg (by simp) (Ev.bind (ev_toCall a b l h) (Ev.bind (ev_eqCall a b _ hm) ?_))
    exact evPos rfl (Ev.now _)
  · rw [szCall_big a b l (by omega) hb]
    simp only [Option.bind_some]
    exact evPos (by omega) (Ev.now _)

end Go.Proofs.Ytfgkniegbdpanaa.Pure
