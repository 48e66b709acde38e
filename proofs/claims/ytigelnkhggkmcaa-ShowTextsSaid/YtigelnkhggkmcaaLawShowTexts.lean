/- The law ShowTexts answers true for every input that its row takes, and leaves its arguments as they were. -/
import Derived.Test.YtigelnkhggkmcaaRows
import Derived.Test.YtigelnkhggkmcaaWalk2
set_option linter.all false
namespace Go.Proofs.Ytigelnkhggkmcaa
open Go.Abs Go.Abs.Pl
set_option linter.unusedSimpArgs false
set_option maxHeartbeats 4000000
set_option maxRecDepth 20000
theorem law_ShowTexts (xs : List AV) (h : HasTys [.sl .str, .sl ndTy, .sl ndTy] xs) : ∃ σ', AFun Try.prog 3 xs [] (.ret (.bool true)) σ' := by
  obtain ⟨x1, _, h1, ⟨x2, _, h2, ⟨x3, _, h3, rfl, rfl⟩, rfl⟩, rfl⟩ := h
  obtain ⟨table, rfl, ht, hts⟩ := of_strs h1
  obtain ⟨l, rfl, hl, _⟩ := of_nds h2
  obtain ⟨m, rfl, hm, _⟩ := of_nds h3
  have hr := reach_le
  refine ⟨[], ?_⟩
  have w := works11_fun []
  by_cases hlong : longM table 40 100 = true
  · refine fun_code [] Try.func3 rfl rfl (by kernel_rfl) rfl ?_
    simp -implicitDefEqProofs (disch := (first | omega | (simp only [List.length_map, ByteArray.size_append, bsz, List.size_toArray, List.length_cons, List.length_nil]; omega))) only [go_sem, and_true, true_and, and_self, Int.natCast_nonneg, Nat.zero_add, Int.toNat_zero, Int.cast_ofNat_Int, Try.ntmps3, strs, nds, ne_eq, not_false_eq_true, not_true_eq_false, Nat.reduceAdd, Nat.reduceSub, Nat.reduceMul, Nat.reduceBEq, Nat.reduceEqDiff, Nat.reduceLeDiff, Nat.reduceLT, Int.reduceNeg, Int.reduceAdd, Int.reduceSub, Int.reduceEq, Int.reduceLT, Int.reduceLE, reduceCtorEq, ↓reduceIte]
    refine call_same _ _ _ (Long_fun table 40 100 _ (by omega)) ?_
    simp -implicitDefEqProofs (disch := (first | omega | (simp only [List.length_map, ByteArray.size_append, bsz, List.size_toArray, List.length_cons, List.length_nil]; omega))) only [go_sem, and_true, true_and, and_self, Int.natCast_nonneg, Nat.zero_add, Int.toNat_zero, Int.cast_ofNat_Int, hlong, ne_eq, not_false_eq_true, not_true_eq_false, Nat.reduceAdd, Nat.reduceSub, Nat.reduceMul, Nat.reduceBEq, Nat.reduceEqDiff, Nat.reduceLeDiff, Nat.reduceLT, Int.reduceNeg, Int.reduceAdd, Int.reduceSub, Int.reduceEq, Int.reduceLT, Int.reduceLE, reduceCtorEq, ↓reduceIte]
    refine call_same _ _ _ w ?_
    simp -implicitDefEqProofs (disch := (first | omega | (simp only [List.length_map, ByteArray.size_append, bsz, List.size_toArray, List.length_cons, List.length_nil]; omega))) only [go_sem, and_true, true_and, and_self, Int.natCast_nonneg, Nat.zero_add, Int.toNat_zero, Int.cast_ofNat_Int, ne_eq, not_false_eq_true, not_true_eq_false, Nat.reduceAdd, Nat.reduceSub, Nat.reduceMul, Nat.reduceBEq, Nat.reduceEqDiff, Nat.reduceLeDiff, Nat.reduceLT, Int.reduceNeg, Int.reduceAdd, Int.reduceSub, Int.reduceEq, Int.reduceLT, Int.reduceLE, reduceCtorEq, ↓reduceIte]
    exact .plain
  · have hlong' : longM table 40 100 = false := by simpa using hlong
    have hT : ∀ s ∈ table, s.size ≤ 1000000 := by
      intro s hs
      simp only [longM, Bool.or_eq_false_iff, List.any_eq_false, decide_eq_true_eq] at hlong'
      have := hlong'.1 s hs
      omega
    by_cases hl1 : (100 : Int) < l.length
    · refine fun_code [] Try.func3 rfl rfl (by kernel_rfl) rfl ?_
      simp -implicitDefEqProofs (disch := (first | omega | (simp only [List.length_map, ByteArray.size_append, bsz, List.size_toArray, List.length_cons, List.length_nil]; omega))) only [go_sem, and_true, true_and, and_self, Int.natCast_nonneg, Nat.zero_add, Int.toNat_zero, Int.cast_ofNat_Int, Try.ntmps3, strs, nds, hl1, ne_eq, not_false_eq_true, not_true_eq_false, Nat.reduceAdd, Nat.reduceSub, Nat.reduceMul, Nat.reduceBEq, Nat.reduceEqDiff, Nat.reduceLeDiff, Nat.reduceLT, Int.reduceNeg, Int.reduceAdd, Int.reduceSub, Int.reduceEq, Int.reduceLT, Int.reduceLE, reduceCtorEq, ↓reduceIte]
      refine call_same _ _ _ (Long_fun table 40 100 _ (by omega)) ?_
      simp -implicitDefEqProofs (disch := (first | omega | (simp only [List.length_map, ByteArray.size_append, bsz, List.size_toArray, List.length_cons, List.length_nil]; omega))) only [go_sem, and_true, true_and, and_self, Int.natCast_nonneg, Nat.zero_add, Int.toNat_zero, Int.cast_ofNat_Int, hlong', hl1, ne_eq, not_false_eq_true, not_true_eq_false, Nat.reduceAdd, Nat.reduceSub, Nat.reduceMul, Nat.reduceBEq, Nat.reduceEqDiff, Nat.reduceLeDiff, Nat.reduceLT, Int.reduceNeg, Int.reduceAdd, Int.reduceSub, Int.reduceEq, Int.reduceLT, Int.reduceLE, reduceCtorEq, ↓reduceIte]
      refine call_same _ _ _ w ?_
      simp -implicitDefEqProofs (disch := (first | omega | (simp only [List.length_map, ByteArray.size_append, bsz, List.size_toArray, List.length_cons, List.length_nil]; omega))) only [go_sem, and_true, true_and, and_self, Int.natCast_nonneg, Nat.zero_add, Int.toNat_zero, Int.cast_ofNat_Int, ne_eq, not_false_eq_true, not_true_eq_false, Nat.reduceAdd, Nat.reduceSub, Nat.reduceMul, Nat.reduceBEq, Nat.reduceEqDiff, Nat.reduceLeDiff, Nat.reduceLT, Int.reduceNeg, Int.reduceAdd, Int.reduceSub, Int.reduceEq, Int.reduceLT, Int.reduceLE, reduceCtorEq, ↓reduceIte]
      exact .plain
    by_cases hm1 : (100 : Int) < m.length
    · refine fun_code [] Try.func3 rfl rfl (by kernel_rfl) rfl ?_
      simp -implicitDefEqProofs (disch := (first | omega | (simp only [List.length_map, ByteArray.size_append, bsz, List.size_toArray, List.length_cons, List.length_nil]; omega))) only [go_sem, and_true, true_and, and_self, Int.natCast_nonneg, Nat.zero_add, Int.toNat_zero, Int.cast_ofNat_Int, Try.ntmps3, strs, nds, hl1, hm1, ne_eq, not_false_eq_true, not_true_eq_false, Nat.reduceAdd, Nat.reduceSub, Nat.reduceMul, Nat.reduceBEq, Nat.reduceEqDiff, Nat.reduceLeDiff, Nat.reduceLT, Int.reduceNeg, Int.reduceAdd, Int.reduceSub, Int.reduceEq, Int.reduceLT, Int.reduceLE, reduceCtorEq, ↓reduceIte]
      refine call_same _ _ _ (Long_fun table 40 100 _ (by omega)) ?_
      simp -implicitDefEqProofs (disch := (first | omega | (simp only [List.length_map, ByteArray.size_append, bsz, List.size_toArray, List.length_cons, List.length_nil]; omega))) only [go_sem, and_true, true_and, and_self, Int.natCast_nonneg, Nat.zero_add, Int.toNat_zero, Int.cast_ofNat_Int, hlong', hl1, hm1, ne_eq, not_false_eq_true, not_true_eq_false, Nat.reduceAdd, Nat.reduceSub, Nat.reduceMul, Nat.reduceBEq, Nat.reduceEqDiff, Nat.reduceLeDiff, Nat.reduceLT, Int.reduceNeg, Int.reduceAdd, Int.reduceSub, Int.reduceEq, Int.reduceLT, Int.reduceLE, reduceCtorEq, ↓reduceIte]
      refine call_same _ _ _ w ?_
      simp -implicitDefEqProofs (disch := (first | omega | (simp only [List.length_map, ByteArray.size_append, bsz, List.size_toArray, List.length_cons, List.length_nil]; omega))) only [go_sem, and_true, true_and, and_self, Int.natCast_nonneg, Nat.zero_add, Int.toNat_zero, Int.cast_ofNat_Int, ne_eq, not_false_eq_true, not_true_eq_false, Nat.reduceAdd, Nat.reduceSub, Nat.reduceMul, Nat.reduceBEq, Nat.reduceEqDiff, Nat.reduceLeDiff, Nat.reduceLT, Int.reduceNeg, Int.reduceAdd, Int.reduceSub, Int.reduceEq, Int.reduceLT, Int.reduceLE, reduceCtorEq, ↓reduceIte]
      exact .plain
    have s1 := textM_size hT l
    have s2 := textM_size hT m
    have e : linesM table [l, m] = textM table l ++ ⟨#[10]⟩ ++ textM table m ++ ⟨#[10]⟩ := by simp [linesM]
    refine fun_code [] Try.func3 rfl rfl (by kernel_rfl) rfl ?_
    simp -implicitDefEqProofs (disch := (first | omega | (simp only [List.length_map, ByteArray.size_append, bsz, List.size_toArray, List.length_cons, List.length_nil]; omega))) only [go_sem, and_true, true_and, and_self, Int.natCast_nonneg, Nat.zero_add, Int.toNat_zero, Int.cast_ofNat_Int, Try.ntmps3, strs, nds, hl1, hm1, ne_eq, not_false_eq_true, not_true_eq_false, Nat.reduceAdd, Nat.reduceSub, Nat.reduceMul, Nat.reduceBEq, Nat.reduceEqDiff, Nat.reduceLeDiff, Nat.reduceLT, Int.reduceNeg, Int.reduceAdd, Int.reduceSub, Int.reduceEq, Int.reduceLT, Int.reduceLE, reduceCtorEq, ↓reduceIte]
    refine call_same _ _ _ (Long_fun table 40 100 _ (by omega)) ?_
    simp -implicitDefEqProofs (disch := (first | omega | (simp only [List.length_map, ByteArray.size_append, bsz, List.size_toArray, List.length_cons, List.length_nil]; omega))) only [go_sem, and_true, true_and, and_self, Int.natCast_nonneg, Nat.zero_add, Int.toNat_zero, Int.cast_ofNat_Int, hlong', hl1, hm1, ne_eq, not_false_eq_true, not_true_eq_false, Nat.reduceAdd, Nat.reduceSub, Nat.reduceMul, Nat.reduceBEq, Nat.reduceEqDiff, Nat.reduceLeDiff, Nat.reduceLT, Int.reduceNeg, Int.reduceAdd, Int.reduceSub, Int.reduceEq, Int.reduceLT, Int.reduceLE, reduceCtorEq, ↓reduceIte]
    refine call_same _ _ _ (Text_fun table l _ hT (by omega)) ?_
    simp -implicitDefEqProofs (disch := (first | omega | (simp only [List.length_map, ByteArray.size_append, bsz, List.size_toArray, List.length_cons, List.length_nil]; omega))) only [go_sem, and_true, true_and, and_self, Int.natCast_nonneg, Nat.zero_add, Int.toNat_zero, Int.cast_ofNat_Int, ne_eq, not_false_eq_true, not_true_eq_false, Nat.reduceAdd, Nat.reduceSub, Nat.reduceMul, Nat.reduceBEq, Nat.reduceEqDiff, Nat.reduceLeDiff, Nat.reduceLT, Int.reduceNeg, Int.reduceAdd, Int.reduceSub, Int.reduceEq, Int.reduceLT, Int.reduceLE, reduceCtorEq, ↓reduceIte]
    refine call_same _ _ _ (RText_fun table l _ hT (by omega)) ?_
    simp -implicitDefEqProofs (disch := (first | omega | (simp only [List.length_map, ByteArray.size_append, bsz, List.size_toArray, List.length_cons, List.length_nil]; omega))) only [go_sem, and_true, true_and, and_self, Int.natCast_nonneg, Nat.zero_add, Int.toNat_zero, Int.cast_ofNat_Int, ne_eq, not_false_eq_true, not_true_eq_false, Nat.reduceAdd, Nat.reduceSub, Nat.reduceMul, Nat.reduceBEq, Nat.reduceEqDiff, Nat.reduceLeDiff, Nat.reduceLT, Int.reduceNeg, Int.reduceAdd, Int.reduceSub, Int.reduceEq, Int.reduceLT, Int.reduceLE, reduceCtorEq, ↓reduceIte]
    refine call_same _ _ _ (Lines_fun table [l, m] _ hT (by simp) (by simp; omega)) ?_
    simp -implicitDefEqProofs (disch := (first | omega | (simp only [List.length_map, ByteArray.size_append, bsz, List.size_toArray, List.length_cons, List.length_nil]; omega))) only [go_sem, and_true, true_and, and_self, Int.natCast_nonneg, Nat.zero_add, Int.toNat_zero, Int.cast_ofNat_Int, ne_eq, not_false_eq_true, not_true_eq_false, Nat.reduceAdd, Nat.reduceSub, Nat.reduceMul, Nat.reduceBEq, Nat.reduceEqDiff, Nat.reduceLeDiff, Nat.reduceLT, Int.reduceNeg, Int.reduceAdd, Int.reduceSub, Int.reduceEq, Int.reduceLT, Int.reduceLE, reduceCtorEq, ↓reduceIte]
    refine call_same _ _ _ (RText_fun table l _ hT (by omega)) ?_
    simp -implicitDefEqProofs (disch := (first | omega | (simp only [List.length_map, ByteArray.size_append, bsz, List.size_toArray, List.length_cons, List.length_nil]; omega))) only [go_sem, and_true, true_and, and_self, Int.natCast_nonneg, Nat.zero_add, Int.toNat_zero, Int.cast_ofNat_Int, ne_eq, not_false_eq_true, not_true_eq_false, Nat.reduceAdd, Nat.reduceSub, Nat.reduceMul, Nat.reduceBEq, Nat.reduceEqDiff, Nat.reduceLeDiff, Nat.reduceLT, Int.reduceNeg, Int.reduceAdd, Int.reduceSub, Int.reduceEq, Int.reduceLT, Int.reduceLE, reduceCtorEq, ↓reduceIte]
    refine call_same _ _ _ (RText_fun table m _ hT (by omega)) ?_
    rw [e]
    simp -implicitDefEqProofs (disch := (first | omega | (simp only [List.length_map, ByteArray.size_append, bsz, List.size_toArray, List.length_cons, List.length_nil]; omega))) only [go_sem, and_true, true_and, and_self, Int.natCast_nonneg, Nat.zero_add, Int.toNat_zero, Int.cast_ofNat_Int, ne_eq, not_false_eq_true, not_true_eq_false, Nat.reduceAdd, Nat.reduceSub, Nat.reduceMul, Nat.reduceBEq, Nat.reduceEqDiff, Nat.reduceLeDiff, Nat.reduceLT, Int.reduceNeg, Int.reduceAdd, Int.reduceSub, Int.reduceEq, Int.reduceLT, Int.reduceLE, reduceCtorEq, ↓reduceIte]
    refine call_same _ _ _ (AFun.weak (by kernel_rfl) (.cons _ _ _ _ (fq_self _) (.cons _ _ _ _ (.nil 1) .nil)) (Lines_fun table [] _ hT (by simp) (by simp))) ?_
    have e0 : linesM table [] = ⟨#[]⟩ := rfl
    rw [e0]
    simp -implicitDefEqProofs (disch := (first | omega | (simp only [List.length_map, ByteArray.size_append, bsz, List.size_toArray, List.length_cons, List.length_nil]; omega))) only [go_sem, and_true, true_and, and_self, Int.natCast_nonneg, Nat.zero_add, Int.toNat_zero, Int.cast_ofNat_Int, ne_eq, not_false_eq_true, not_true_eq_false, Nat.reduceAdd, Nat.reduceSub, Nat.reduceMul, Nat.reduceBEq, Nat.reduceEqDiff, Nat.reduceLeDiff, Nat.reduceLT, Int.reduceNeg, Int.reduceAdd, Int.reduceSub, Int.reduceEq, Int.reduceLT, Int.reduceLE, reduceCtorEq, ↓reduceIte]
    refine call_same _ _ _ w ?_
    simp -implicitDefEqProofs (disch := (first | omega | (simp only [List.length_map, ByteArray.size_append, bsz, List.size_toArray, List.length_cons, List.length_nil]; omega))) only [go_sem, and_true, true_and, and_self, Int.natCast_nonneg, Nat.zero_add, Int.toNat_zero, Int.cast_ofNat_Int, ne_eq, not_false_eq_true, not_true_eq_false, Nat.reduceAdd, Nat.reduceSub, Nat.reduceMul, Nat.reduceBEq, Nat.reduceEqDiff, Nat.reduceLeDiff, Nat.reduceLT, Int.reduceNeg, Int.reduceAdd, Int.reduceSub, Int.reduceEq, Int.reduceLT, Int.reduceLE, reduceCtorEq, ↓reduceIte]
    exact .plain

open Go.RowKit Go.WideShapes Go.ChangeShapes
theorem st_own : ownKnob Try.prog.godebug = none := by kernel_rfl
theorem st_laidOut : laidOutB Try.prog = true := by kernel_rfl
set_option maxRecDepth 100000 in
theorem showTexts_lifted (os : Os) (started : os.Started) (H : Type) (enc : TypeId × Value → H) :
    ReturnsInHanded {} Try.checked os 3 .any (Rows.showTextsSpec.pre6 enc Try.prog Try.f3 Rows.showTextsRow.domain false) (Rows.showTextsSpec.post enc Try.prog Try.f3 false true false false) :=
  lifted (C := Try.checked) (tys := [.sl .str, .sl ndTy, .sl ndTy]) law_ShowTexts (by kernel_rfl) st_own (by kernel_rfl) Try.func3 (by kernel_rfl) st_laidOut rfl
    (fun H ds hl => by
      match ds, hl with
      | [d1, d2, d3], _ => rfl)
    ⟨_, rfl, by kernel_rfl⟩ started
    (ChangeSpec.witness6 (enc := enc) (C := Try.checked) false ⟨#[], #[.slice none 0 0, .slice none 0 0, .slice none 0 0], []⟩ 8 (by kernel_rfl) (by kernel_rfl) (by kernel_rfl) (by kernel_rfl))
theorem showTexts_holds : Rows.ShowTextsSaid :=
  OpenClaim.holds_of_wide 3 Try.f3 rfl rfl rfl rfl rfl rfl rfl ⟨rfl, rfl, rfl, rfl, rfl⟩ rfl rfl rfl rfl rfl (by kernel_rfl) Try.func3 (by kernel_rfl)
    (of_decide_eq_true (by kernel_rfl)) (by unfold Func.isWrapper; first | (rw [if_pos (by decide +kernel)]; kernel_rfl) | (rw [if_neg (by decide +kernel)]; exact ⟨rfl, rfl⟩))
    (fun os started H enc _ => showTexts_lifted os started H enc)
end Go.Proofs.Ytigelnkhggkmcaa
