/- Lemmas that the claim leans on. -/
import Derived.Test.YtigelnkhggkmcaaTy
import Derived.Test.YtigelnkhggkmcaaAbs3
set_option linter.all false
section
namespace Go.Proofs.Ytigelnkhggkmcaa
open Go.Abs Go.Abs.Pl
set_option linter.unusedSimpArgs false
set_option maxHeartbeats 4000000
set_option maxRecDepth 20000
def strs (l : List ByteArray) : AV := .sl 1 (l.map .str)
def nd (p : Nd) : AV := .agg [.int .i64 p.1, .int .i64 p.2]
def nds (l : List Nd) : AV := .sl 2 (l.map nd)
def trA : Tr → AV
  | .leaf n => .iface 254 (nd n)
  | .turned t => .iface 256 (.agg [trA t])
  | .pair o a b => .iface 258 (.agg [.bool o, trA a, trA b])
def optA : Option Tr → AV
  | none => .nilIface
  | some t => trA t
theorem parts_fun (op : Int) (σ : AH) : AFun Try.prog 188 [.int .i64 op] σ (.ret (.int .i64 (partsM op))) σ := by
  refine fun_code [] Try.func188 rfl rfl (by kernel_rfl) rfl ?_
  simp -implicitDefEqProofs (disch := (first | omega | (simp only [List.length_map, ByteArray.size_append, bsz, List.size_toArray, List.length_cons, List.length_nil]; omega))) only [go_sem, and_true, true_and, and_self, Int.natCast_nonneg, Nat.zero_add, Int.toNat_zero, Int.cast_ofNat_Int, Try.ntmps188, ne_eq, not_false_eq_true, not_true_eq_false, Nat.reduceAdd, Nat.reduceSub, Nat.reduceMul, Nat.reduceBEq, Nat.reduceEqDiff, Nat.reduceLeDiff, Nat.reduceLT, Int.reduceNeg, Int.reduceAdd, Int.reduceSub, Int.reduceEq, Int.reduceLT, Int.reduceLE, reduceCtorEq, ↓reduceIte]
  repeat' (first | exact .plain | (refine ⟨by kernel_rfl, ?_⟩; try simp -implicitDefEqProofs (disch := (first | omega | (simp only [List.length_map, ByteArray.size_append, bsz, List.size_toArray, List.length_cons, List.length_nil]; omega))) only [go_sem, and_true, true_and, and_self, Int.natCast_nonneg, Nat.zero_add, Int.toNat_zero, Int.cast_ofNat_Int, *, ne_eq, not_false_eq_true, not_true_eq_false, Nat.reduceAdd, Nat.reduceSub, Nat.reduceMul, Nat.reduceBEq, Nat.reduceEqDiff, Nat.reduceLeDiff, Nat.reduceLT, Int.reduceNeg, Int.reduceAdd, Int.reduceSub, Int.reduceEq, Int.reduceLT, Int.reduceLE, reduceCtorEq, ↓reduceIte]) | (refine b_split _ _ _ (fun hc => ?_) (fun hc => ?_) <;> (try simp only [decide_eq_true_eq, decide_eq_false_iff_not, Bool.not_eq_true', Bool.not_eq_false'] at hc) <;> try simp -implicitDefEqProofs (disch := (first | omega | (simp only [List.length_map, ByteArray.size_append, bsz, List.size_toArray, List.length_cons, List.length_nil]; omega))) only [go_sem, and_true, true_and, and_self, Int.natCast_nonneg, Nat.zero_add, Int.toNat_zero, Int.cast_ofNat_Int, *, ne_eq, not_false_eq_true, not_true_eq_false, Nat.reduceAdd, Nat.reduceSub, Nat.reduceMul, Nat.reduceBEq, Nat.reduceEqDiff, Nat.reduceLeDiff, Nat.reduceLT, Int.reduceNeg, Int.reduceAdd, Int.reduceSub, Int.reduceEq, Int.reduceLT, Int.reduceLE, reduceCtorEq, ↓reduceIte]) | (refine g_split _ _ _ (fun hc => ?_) (fun hc => ?_) <;> (try simp only [decide_eq_true_eq, decide_eq_false_iff_not, Bool.not_eq_true', Bool.not_eq_false'] at hc) <;> try simp -implicitDefEqProofs (disch := (first | omega | (simp only [List.length_map, ByteArray.size_append, bsz, List.size_toArray, List.length_cons, List.length_nil]; omega))) only [go_sem, and_true, true_and, and_self, Int.natCast_nonneg, Nat.zero_add, Int.toNat_zero, Int.cast_ofNat_Int, *, ne_eq, not_false_eq_true, not_true_eq_false, Nat.reduceAdd, Nat.reduceSub, Nat.reduceMul, Nat.reduceBEq, Nat.reduceEqDiff, Nat.reduceLeDiff, Nat.reduceLT, Int.reduceNeg, Int.reduceAdd, Int.reduceSub, Int.reduceEq, Int.reduceLT, Int.reduceLE, reduceCtorEq, ↓reduceIte]) | (refine v_split _ _ _ (fun hc => ?_) (fun hc => ?_) <;> (try simp only [decide_eq_true_eq, decide_eq_false_iff_not, Bool.not_eq_true', Bool.not_eq_false'] at hc) <;> try simp -implicitDefEqProofs (disch := (first | omega | (simp only [List.length_map, ByteArray.size_append, bsz, List.size_toArray, List.length_cons, List.length_nil]; omega))) only [go_sem, and_true, true_and, and_self, Int.natCast_nonneg, Nat.zero_add, Int.toNat_zero, Int.cast_ofNat_Int, *, ne_eq, not_false_eq_true, not_true_eq_false, Nat.reduceAdd, Nat.reduceSub, Nat.reduceMul, Nat.reduceBEq, Nat.reduceEqDiff, Nat.reduceLeDiff, Nat.reduceLT, Int.reduceNeg, Int.reduceAdd, Int.reduceSub, Int.reduceEq, Int.reduceLT, Int.reduceLE, reduceCtorEq, ↓reduceIte]))
  all_goals (refine Done.same ?_; simp_all [partsM])
theorem Parts0_fun (op : Int) (σ : AH) : AFun Try.prog 196 [.int .i64 op] σ (.ret (.int .i64 (partsM op))) σ := by
  refine fun_code [] Try.func196 rfl rfl (by kernel_rfl) rfl ?_
  simp -implicitDefEqProofs (disch := (first | omega | (simp only [List.length_map, ByteArray.size_append, bsz, List.size_toArray, List.length_cons, List.length_nil]; omega))) only [go_sem, and_true, true_and, and_self, Int.natCast_nonneg, Nat.zero_add, Int.toNat_zero, Int.cast_ofNat_Int, Try.ntmps196, ne_eq, not_false_eq_true, not_true_eq_false, Nat.reduceAdd, Nat.reduceSub, Nat.reduceMul, Nat.reduceBEq, Nat.reduceEqDiff, Nat.reduceLeDiff, Nat.reduceLT, Int.reduceNeg, Int.reduceAdd, Int.reduceSub, Int.reduceEq, Int.reduceLT, Int.reduceLE, reduceCtorEq, ↓reduceIte]
  repeat' (first | exact .plain | (refine ⟨by kernel_rfl, ?_⟩; try simp -implicitDefEqProofs (disch := (first | omega | (simp only [List.length_map, ByteArray.size_append, bsz, List.size_toArray, List.length_cons, List.length_nil]; omega))) only [go_sem, and_true, true_and, and_self, Int.natCast_nonneg, Nat.zero_add, Int.toNat_zero, Int.cast_ofNat_Int, *, ne_eq, not_false_eq_true, not_true_eq_false, Nat.reduceAdd, Nat.reduceSub, Nat.reduceMul, Nat.reduceBEq, Nat.reduceEqDiff, Nat.reduceLeDiff, Nat.reduceLT, Int.reduceNeg, Int.reduceAdd, Int.reduceSub, Int.reduceEq, Int.reduceLT, Int.reduceLE, reduceCtorEq, ↓reduceIte]) | (refine b_split _ _ _ (fun hc => ?_) (fun hc => ?_) <;> (try simp only [decide_eq_true_eq, decide_eq_false_iff_not, Bool.not_eq_true', Bool.not_eq_false'] at hc) <;> try simp -implicitDefEqProofs (disch := (first | omega | (simp only [List.length_map, ByteArray.size_append, bsz, List.size_toArray, List.length_cons, List.length_nil]; omega))) only [go_sem, and_true, true_and, and_self, Int.natCast_nonneg, Nat.zero_add, Int.toNat_zero, Int.cast_ofNat_Int, *, ne_eq, not_false_eq_true, not_true_eq_false, Nat.reduceAdd, Nat.reduceSub, Nat.reduceMul, Nat.reduceBEq, Nat.reduceEqDiff, Nat.reduceLeDiff, Nat.reduceLT, Int.reduceNeg, Int.reduceAdd, Int.reduceSub, Int.reduceEq, Int.reduceLT, Int.reduceLE, reduceCtorEq, ↓reduceIte]) | (refine g_split _ _ _ (fun hc => ?_) (fun hc => ?_) <;> (try simp only [decide_eq_true_eq, decide_eq_false_iff_not, Bool.not_eq_true', Bool.not_eq_false'] at hc) <;> try simp -implicitDefEqProofs (disch := (first | omega | (simp only [List.length_map, ByteArray.size_append, bsz, List.size_toArray, List.length_cons, List.length_nil]; omega))) only [go_sem, and_true, true_and, and_self, Int.natCast_nonneg, Nat.zero_add, Int.toNat_zero, Int.cast_ofNat_Int, *, ne_eq, not_false_eq_true, not_true_eq_false, Nat.reduceAdd, Nat.reduceSub, Nat.reduceMul, Nat.reduceBEq, Nat.reduceEqDiff, Nat.reduceLeDiff, Nat.reduceLT, Int.reduceNeg, Int.reduceAdd, Int.reduceSub, Int.reduceEq, Int.reduceLT, Int.reduceLE, reduceCtorEq, ↓reduceIte]) | (refine v_split _ _ _ (fun hc => ?_) (fun hc => ?_) <;> (try simp only [decide_eq_true_eq, decide_eq_false_iff_not, Bool.not_eq_true', Bool.not_eq_false'] at hc) <;> try simp -implicitDefEqProofs (disch := (first | omega | (simp only [List.length_map, ByteArray.size_append, bsz, List.size_toArray, List.length_cons, List.length_nil]; omega))) only [go_sem, and_true, true_and, and_self, Int.natCast_nonneg, Nat.zero_add, Int.toNat_zero, Int.cast_ofNat_Int, *, ne_eq, not_false_eq_true, not_true_eq_false, Nat.reduceAdd, Nat.reduceSub, Nat.reduceMul, Nat.reduceBEq, Nat.reduceEqDiff, Nat.reduceLeDiff, Nat.reduceLT, Int.reduceNeg, Int.reduceAdd, Int.reduceSub, Int.reduceEq, Int.reduceLT, Int.reduceLE, reduceCtorEq, ↓reduceIte]))
  all_goals (refine Done.same ?_; simp_all [partsM])
theorem may_fun (p : Nd) (σ : AH) : AFun Try.prog 189 [nd p] σ (.ret (.bool (mayM p))) σ := by
  refine fun_code [] Try.func189 rfl rfl (by kernel_rfl) rfl ?_
  simp -implicitDefEqProofs (disch := (first | omega | (simp only [List.length_map, ByteArray.size_append, bsz, List.size_toArray, List.length_cons, List.length_nil]; omega))) only [go_sem, and_true, true_and, and_self, Int.natCast_nonneg, Nat.zero_add, Int.toNat_zero, Int.cast_ofNat_Int, Try.ntmps189, nd, ne_eq, not_false_eq_true, not_true_eq_false, Nat.reduceAdd, Nat.reduceSub, Nat.reduceMul, Nat.reduceBEq, Nat.reduceEqDiff, Nat.reduceLeDiff, Nat.reduceLT, Int.reduceNeg, Int.reduceAdd, Int.reduceSub, Int.reduceEq, Int.reduceLT, Int.reduceLE, reduceCtorEq, ↓reduceIte]
  repeat' (first | exact .plain | (refine ⟨by kernel_rfl, ?_⟩; try simp -implicitDefEqProofs (disch := (first | omega | (simp only [List.length_map, ByteArray.size_append, bsz, List.size_toArray, List.length_cons, List.length_nil]; omega))) only [go_sem, and_true, true_and, and_self, Int.natCast_nonneg, Nat.zero_add, Int.toNat_zero, Int.cast_ofNat_Int, nd, *, ne_eq, not_false_eq_true, not_true_eq_false, Nat.reduceAdd, Nat.reduceSub, Nat.reduceMul, Nat.reduceBEq, Nat.reduceEqDiff, Nat.reduceLeDiff, Nat.reduceLT, Int.reduceNeg, Int.reduceAdd, Int.reduceSub, Int.reduceEq, Int.reduceLT, Int.reduceLE, reduceCtorEq, ↓reduceIte]) | (refine b_split _ _ _ (fun hc => ?_) (fun hc => ?_) <;> (try simp only [decide_eq_true_eq, decide_eq_false_iff_not, Bool.not_eq_true', Bool.not_eq_false'] at hc) <;> try simp -implicitDefEqProofs (disch := (first | omega | (simp only [List.length_map, ByteArray.size_append, bsz, List.size_toArray, List.length_cons, List.length_nil]; omega))) only [go_sem, and_true, true_and, and_self, Int.natCast_nonneg, Nat.zero_add, Int.toNat_zero, Int.cast_ofNat_Int, nd, *, ne_eq, not_false_eq_true, not_true_eq_false, Nat.reduceAdd, Nat.reduceSub, Nat.reduceMul, Nat.reduceBEq, Nat.reduceEqDiff, Nat.reduceLeDiff, Nat.reduceLT, Int.reduceNeg, Int.reduceAdd, Int.reduceSub, Int.reduceEq, Int.reduceLT, Int.reduceLE, reduceCtorEq, ↓reduceIte]) | (refine g_split _ _ _ (fun hc => ?_) (fun hc => ?_) <;> (try simp only [decide_eq_true_eq, decide_eq_false_iff_not, Bool.not_eq_true', Bool.not_eq_false'] at hc) <;> try simp -implicitDefEqProofs (disch := (first | omega | (simp only [List.length_map, ByteArray.size_append, bsz, List.size_toArray, List.length_cons, List.length_nil]; omega))) only [go_sem, and_true, true_and, and_self, Int.natCast_nonneg, Nat.zero_add, Int.toNat_zero, Int.cast_ofNat_Int, nd, *, ne_eq, not_false_eq_true, not_true_eq_false, Nat.reduceAdd, Nat.reduceSub, Nat.reduceMul, Nat.reduceBEq, Nat.reduceEqDiff, Nat.reduceLeDiff, Nat.reduceLT, Int.reduceNeg, Int.reduceAdd, Int.reduceSub, Int.reduceEq, Int.reduceLT, Int.reduceLE, reduceCtorEq, ↓reduceIte]) | (refine v_split _ _ _ (fun hc => ?_) (fun hc => ?_) <;> (try simp only [decide_eq_true_eq, decide_eq_false_iff_not, Bool.not_eq_true', Bool.not_eq_false'] at hc) <;> try simp -implicitDefEqProofs (disch := (first | omega | (simp only [List.length_map, ByteArray.size_append, bsz, List.size_toArray, List.length_cons, List.length_nil]; omega))) only [go_sem, and_true, true_and, and_self, Int.natCast_nonneg, Nat.zero_add, Int.toNat_zero, Int.cast_ofNat_Int, nd, *, ne_eq, not_false_eq_true, not_true_eq_false, Nat.reduceAdd, Nat.reduceSub, Nat.reduceMul, Nat.reduceBEq, Nat.reduceEqDiff, Nat.reduceLeDiff, Nat.reduceLT, Int.reduceNeg, Int.reduceAdd, Int.reduceSub, Int.reduceEq, Int.reduceLT, Int.reduceLE, reduceCtorEq, ↓reduceIte]))
  all_goals (refine Done.same ?_; simp_all [mayM] <;> omega)
theorem May_fun (p : Nd) (σ : AH) : AFun Try.prog 110 [nd p] σ (.ret (.bool (mayM p))) σ := by
  refine fun_code [] Try.func110 rfl rfl (by kernel_rfl) rfl ?_
  simp -implicitDefEqProofs (disch := (first | omega | (simp only [List.length_map, ByteArray.size_append, bsz, List.size_toArray, List.length_cons, List.length_nil]; omega))) only [go_sem, and_true, true_and, and_self, Int.natCast_nonneg, Nat.zero_add, Int.toNat_zero, Int.cast_ofNat_Int, Try.ntmps110, nd, ne_eq, not_false_eq_true, not_true_eq_false, Nat.reduceAdd, Nat.reduceSub, Nat.reduceMul, Nat.reduceBEq, Nat.reduceEqDiff, Nat.reduceLeDiff, Nat.reduceLT, Int.reduceNeg, Int.reduceAdd, Int.reduceSub, Int.reduceEq, Int.reduceLT, Int.reduceLE, reduceCtorEq, ↓reduceIte]
  repeat' (first | exact .plain | (refine ⟨by kernel_rfl, ?_⟩; try simp -implicitDefEqProofs (disch := (first | omega | (simp only [List.length_map, ByteArray.size_append, bsz, List.size_toArray, List.length_cons, List.length_nil]; omega))) only [go_sem, and_true, true_and, and_self, Int.natCast_nonneg, Nat.zero_add, Int.toNat_zero, Int.cast_ofNat_Int, nd, *, ne_eq, not_false_eq_true, not_true_eq_false, Nat.reduceAdd, Nat.reduceSub, Nat.reduceMul, Nat.reduceBEq, Nat.reduceEqDiff, Nat.reduceLeDiff, Nat.reduceLT, Int.reduceNeg, Int.reduceAdd, Int.reduceSub, Int.reduceEq, Int.reduceLT, Int.reduceLE, reduceCtorEq, ↓reduceIte]) | (refine b_split _ _ _ (fun hc => ?_) (fun hc => ?_) <;> (try simp only [decide_eq_true_eq, decide_eq_false_iff_not, Bool.not_eq_true', Bool.not_eq_false'] at hc) <;> try simp -implicitDefEqProofs (disch := (first | omega | (simp only [List.length_map, ByteArray.size_append, bsz, List.size_toArray, List.length_cons, List.length_nil]; omega))) only [go_sem, and_true, true_and, and_self, Int.natCast_nonneg, Nat.zero_add, Int.toNat_zero, Int.cast_ofNat_Int, nd, *, ne_eq, not_false_eq_true, not_true_eq_false, Nat.reduceAdd, Nat.reduceSub, Nat.reduceMul, Nat.reduceBEq, Nat.reduceEqDiff, Nat.reduceLeDiff, Nat.reduceLT, Int.reduceNeg, Int.reduceAdd, Int.reduceSub, Int.reduceEq, Int.reduceLT, Int.reduceLE, reduceCtorEq, ↓reduceIte]) | (refine g_split _ _ _ (fun hc => ?_) (fun hc => ?_) <;> (try simp only [decide_eq_true_eq, decide_eq_false_iff_not, Bool.not_eq_true', Bool.not_eq_false'] at hc) <;> try simp -implicitDefEqProofs (disch := (first | omega | (simp only [List.length_map, ByteArray.size_append, bsz, List.size_toArray, List.length_cons, List.length_nil]; omega))) only [go_sem, and_true, true_and, and_self, Int.natCast_nonneg, Nat.zero_add, Int.toNat_zero, Int.cast_ofNat_Int, nd, *, ne_eq, not_false_eq_true, not_true_eq_false, Nat.reduceAdd, Nat.reduceSub, Nat.reduceMul, Nat.reduceBEq, Nat.reduceEqDiff, Nat.reduceLeDiff, Nat.reduceLT, Int.reduceNeg, Int.reduceAdd, Int.reduceSub, Int.reduceEq, Int.reduceLT, Int.reduceLE, reduceCtorEq, ↓reduceIte]) | (refine v_split _ _ _ (fun hc => ?_) (fun hc => ?_) <;> (try simp only [decide_eq_true_eq, decide_eq_false_iff_not, Bool.not_eq_true', Bool.not_eq_false'] at hc) <;> try simp -implicitDefEqProofs (disch := (first | omega | (simp only [List.length_map, ByteArray.size_append, bsz, List.size_toArray, List.length_cons, List.length_nil]; omega))) only [go_sem, and_true, true_and, and_self, Int.natCast_nonneg, Nat.zero_add, Int.toNat_zero, Int.cast_ofNat_Int, nd, *, ne_eq, not_false_eq_true, not_true_eq_false, Nat.reduceAdd, Nat.reduceSub, Nat.reduceMul, Nat.reduceBEq, Nat.reduceEqDiff, Nat.reduceLeDiff, Nat.reduceLT, Int.reduceNeg, Int.reduceAdd, Int.reduceSub, Int.reduceEq, Int.reduceLT, Int.reduceLE, reduceCtorEq, ↓reduceIte]))
  all_goals (refine Done.same ?_; simp_all [mayM] <;> omega)
end Go.Proofs.Ytigelnkhggkmcaa
end
section
namespace Go.Proofs.Ytigelnkhggkmcaa
open Go.Abs Go.Abs.Pl
set_option linter.unusedSimpArgs false
set_option maxHeartbeats 4000000
set_option maxRecDepth 20000
theorem trA_bel (n : Nat) : ∀ t : Tr, Bel n (trA t)
  | .leaf p => ⟨trivial, trivial, trivial⟩
  | .turned t => ⟨trA_bel n t, trivial⟩
  | .pair o a b => ⟨trivial, trA_bel n a, trA_bel n b, trivial⟩
theorem trA_cells (t : Tr) : cellsA (trA t) = [trA t] := by cases t <;> rfl
theorem trA_ok (t : Tr) : okA (trA t) = true := by cases t <;> rfl
theorem made_fun (l : List Nd) (σ : AH) (hl : l.length ≤ 100000) : AFun Try.prog 104 [nds l] σ (.ret (optA (madeM l))) σ := by
  refine AFun.bel (by kernel_rfl) fun hB => ?_
  refine fun_code [62] Try.func104 rfl rfl (by kernel_rfl) rfl ?_
  simp -implicitDefEqProofs (disch := (first | omega | (simp only [List.length_map, ByteArray.size_append, bsz, List.size_toArray, List.length_cons, List.length_nil]; omega))) only [go_sem, and_true, true_and, and_self, Int.natCast_nonneg, Nat.zero_add, Int.toNat_zero, Int.cast_ofNat_Int, Try.ntmps104, nds, ne_eq, not_false_eq_true, not_true_eq_false, Nat.reduceAdd, Nat.reduceSub, Nat.reduceMul, Nat.reduceBEq, Nat.reduceEqDiff, Nat.reduceLeDiff, Nat.reduceLT, Int.reduceNeg, Int.reduceAdd, Int.reduceSub, Int.reduceEq, Int.reduceLT, Int.reduceLE, reduceCtorEq, ↓reduceIte]
  refine loop_row 3 173 1 (by simp -implicitDefEqProofs (disch := (first | omega | (simp only [List.length_map, ByteArray.size_append, bsz, List.size_toArray, List.length_cons, List.length_nil]; omega))) only [go_sem, and_true, true_and, and_self, Int.natCast_nonneg, Nat.zero_add, Int.toNat_zero, Int.cast_ofNat_Int, ne_eq, not_false_eq_true, not_true_eq_false, Nat.reduceAdd, Nat.reduceSub, Nat.reduceMul, Nat.reduceBEq, Nat.reduceEqDiff, Nat.reduceLeDiff, Nat.reduceLT, Int.reduceNeg, Int.reduceAdd, Int.reduceSub, Int.reduceEq, Int.reduceLT, Int.reduceLE, reduceCtorEq, ↓reduceIte]) ?_
  simp -implicitDefEqProofs (disch := (first | omega | (simp only [List.length_map, ByteArray.size_append, bsz, List.size_toArray, List.length_cons, List.length_nil]; omega))) only [go_sem, and_true, true_and, and_self, Int.natCast_nonneg, Nat.zero_add, Int.toNat_zero, Int.cast_ofNat_Int, ne_eq, not_false_eq_true, not_true_eq_false, Nat.reduceAdd, Nat.reduceSub, Nat.reduceMul, Nat.reduceBEq, Nat.reduceEqDiff, Nat.reduceLeDiff, Nat.reduceLT, Int.reduceNeg, Int.reduceAdd, Int.reduceSub, Int.reduceEq, Int.reduceLT, Int.reduceLE, reduceCtorEq, ↓reduceIte]
  refine loop_keep [(2, 3), (5, 7), (10, 63)] (fun m s τ => ∃ (k : Nat) (st : List Tr) (hw : Nat), k + m = l.length ∧ runM st (l.drop k) = runM [] l ∧ st.length ≤ k ∧ τ = σ ++ [arow 173 1 hw (st.map trA)] ∧
    s = [(3, .own σ.length 1 hw 0 st.length), (10, .int .i64 k)]) l.length _ ⟨0, [], 0, by omega, rfl, by simp, rfl, rfl⟩ (by simp -implicitDefEqProofs (disch := (first | omega | (simp only [List.length_map, ByteArray.size_append, bsz, List.size_toArray, List.length_cons, List.length_nil]; omega))) only [go_sem, and_true, true_and, and_self, Int.natCast_nonneg, Nat.zero_add, Int.toNat_zero, Int.cast_ofNat_Int, ne_eq, not_false_eq_true, not_true_eq_false, Nat.reduceAdd, Nat.reduceSub, Nat.reduceMul, Nat.reduceBEq, Nat.reduceEqDiff, Nat.reduceLeDiff, Nat.reduceLT, Int.reduceNeg, Int.reduceAdd, Int.reduceSub, Int.reduceEq, Int.reduceLT, Int.reduceLE, reduceCtorEq, ↓reduceIte]; try simp) ?_
  rintro m s g τ ⟨k, st, hw, hk, hM, hs', rfl, rfl⟩
  cases m with
  | zero =>
    have h1 : ¬ (k : Int) < l.length := by omega
    have hd : l.drop k = [] := List.drop_eq_nil_of_le (by omega)
    rw [hd, runM] at hM
    simp -implicitDefEqProofs (disch := (first | omega | (simp only [List.length_map, ByteArray.size_append, bsz, List.size_toArray, List.length_cons, List.length_nil]; omega))) only [go_sem, and_true, true_and, and_self, Int.natCast_nonneg, Nat.zero_add, Int.toNat_zero, Int.cast_ofNat_Int, h1, ne_eq, not_false_eq_true, not_true_eq_false, Nat.reduceAdd, Nat.reduceSub, Nat.reduceMul, Nat.reduceBEq, Nat.reduceEqDiff, Nat.reduceLeDiff, Nat.reduceLT, Int.reduceNeg, Int.reduceAdd, Int.reduceSub, Int.reduceEq, Int.reduceLT, Int.reduceLE, reduceCtorEq, ↓reduceIte]
    repeat' (first | exact .plain | (refine ⟨by kernel_rfl, ?_⟩; try simp -implicitDefEqProofs (disch := (first | omega | (simp only [List.length_map, ByteArray.size_append, bsz, List.size_toArray, List.length_cons, List.length_nil]; omega))) only [go_sem, and_true, true_and, and_self, Int.natCast_nonneg, Nat.zero_add, Int.toNat_zero, Int.cast_ofNat_Int, trA_cells, List.head?_cons, *, ne_eq, not_false_eq_true, not_true_eq_false, Nat.reduceAdd, Nat.reduceSub, Nat.reduceMul, Nat.reduceBEq, Nat.reduceEqDiff, Nat.reduceLeDiff, Nat.reduceLT, Int.reduceNeg, Int.reduceAdd, Int.reduceSub, Int.reduceEq, Int.reduceLT, Int.reduceLE, reduceCtorEq, ↓reduceIte]) | (refine b_split _ _ _ (fun hc => ?_) (fun hc => ?_) <;> (try simp only [decide_eq_true_eq, decide_eq_false_iff_not, Bool.not_eq_true', Bool.not_eq_false'] at hc) <;> try simp -implicitDefEqProofs (disch := (first | omega | (simp only [List.length_map, ByteArray.size_append, bsz, List.size_toArray, List.length_cons, List.length_nil]; omega))) only [go_sem, and_true, true_and, and_self, Int.natCast_nonneg, Nat.zero_add, Int.toNat_zero, Int.cast_ofNat_Int, trA_cells, List.head?_cons, *, ne_eq, not_false_eq_true, not_true_eq_false, Nat.reduceAdd, Nat.reduceSub, Nat.reduceMul, Nat.reduceBEq, Nat.reduceEqDiff, Nat.reduceLeDiff, Nat.reduceLT, Int.reduceNeg, Int.reduceAdd, Int.reduceSub, Int.reduceEq, Int.reduceLT, Int.reduceLE, reduceCtorEq, ↓reduceIte]) | (refine g_split _ _ _ (fun hc => ?_) (fun hc => ?_) <;> (try simp only [decide_eq_true_eq, decide_eq_false_iff_not, Bool.not_eq_true', Bool.not_eq_false'] at hc) <;> try simp -implicitDefEqProofs (disch := (first | omega | (simp only [List.length_map, ByteArray.size_append, bsz, List.size_toArray, List.length_cons, List.length_nil]; omega))) only [go_sem, and_true, true_and, and_self, Int.natCast_nonneg, Nat.zero_add, Int.toNat_zero, Int.cast_ofNat_Int, trA_cells, List.head?_cons, *, ne_eq, not_false_eq_true, not_true_eq_false, Nat.reduceAdd, Nat.reduceSub, Nat.reduceMul, Nat.reduceBEq, Nat.reduceEqDiff, Nat.reduceLeDiff, Nat.reduceLT, Int.reduceNeg, Int.reduceAdd, Int.reduceSub, Int.reduceEq, Int.reduceLT, Int.reduceLE, reduceCtorEq, ↓reduceIte]) | (refine v_split _ _ _ (fun hc => ?_) (fun hc => ?_) <;> (try simp only [decide_eq_true_eq, decide_eq_false_iff_not, Bool.not_eq_true', Bool.not_eq_false'] at hc) <;> try simp -implicitDefEqProofs (disch := (first | omega | (simp only [List.length_map, ByteArray.size_append, bsz, List.size_toArray, List.length_cons, List.length_nil]; omega))) only [go_sem, and_true, true_and, and_self, Int.natCast_nonneg, Nat.zero_add, Int.toNat_zero, Int.cast_ofNat_Int, trA_cells, List.head?_cons, *, ne_eq, not_false_eq_true, not_true_eq_false, Nat.reduceAdd, Nat.reduceSub, Nat.reduceMul, Nat.reduceBEq, Nat.reduceEqDiff, Nat.reduceLeDiff, Nat.reduceLT, Int.reduceNeg, Int.reduceAdd, Int.reduceSub, Int.reduceEq, Int.reduceLT, Int.reduceLE, reduceCtorEq, ↓reduceIte]))
    · refine Done.lit ?_ trivial
      unfold madeM
      rw [← hM, Option.bind_some, oneM]
      · rfl
      · intro t ht
        simp [ht] at hc
    · match st, hc with
      | [t], _ =>
        simp -implicitDefEqProofs (disch := (first | omega | (simp only [List.length_map, ByteArray.size_append, bsz, List.size_toArray, List.length_cons, List.length_nil]; omega))) only [go_sem, and_true, true_and, and_self, Int.natCast_nonneg, Nat.zero_add, Int.toNat_zero, Int.cast_ofNat_Int, trA_cells, List.map_cons, ne_eq, not_false_eq_true, not_true_eq_false, Nat.reduceAdd, Nat.reduceSub, Nat.reduceMul, Nat.reduceBEq, Nat.reduceEqDiff, Nat.reduceLeDiff, Nat.reduceLT, Int.reduceNeg, Int.reduceAdd, Int.reduceSub, Int.reduceEq, Int.reduceLT, Int.reduceLE, reduceCtorEq, ↓reduceIte]
        refine Done.lit ?_ (trA_bel _ t)
        unfold madeM
        rw [← hM]
        rfl
  | succ m =>
    have h1 : (k : Int) < l.length := by omega
    obtain ⟨p, hp⟩ : ∃ p, l[k]? = some p := ⟨_, List.getElem?_eq_getElem (by omega)⟩
    have hp2 : partsM p.1 ≤ 2 := by unfold partsM; split <;> (try split) <;> omega
    have hd : l.drop k = p :: l.drop (k + 1) := by rw [List.drop_eq_getElem_cons (by omega)]; simp [(List.getElem?_eq_some_iff.1 hp).2]
    rw [hd, runM] at hM
    by_cases hm : mayM p = true ∧ partsM p.1 ≤ st.length
    · obtain ⟨hm, hps⟩ := hm
      have hst : pushM st p = some (st.take (st.length - partsM p.1) ++ [nodeM st p (st.length - partsM p.1)]) := by unfold pushM; rw [if_pos ⟨hm, hps⟩]
      rw [hst, Option.bind_some] at hM
      have hle : (st.take (st.length - partsM p.1) ++ [nodeM st p (st.length - partsM p.1)]).length ≤ k + 1 := by simp; omega
      have e1 : (st.length : Int) - (partsM p.1 : Int) = ((st.length - partsM p.1 : Nat) : Int) := by omega
      generalize hn : st.length - partsM p.1 = n at *
      have h2 : ¬ ((n : Int) < 0) := by omega
      simp -implicitDefEqProofs (disch := (first | omega | (simp only [List.length_map, ByteArray.size_append, bsz, List.size_toArray, List.length_cons, List.length_nil]; omega))) only [go_sem, and_true, true_and, and_self, Int.natCast_nonneg, Nat.zero_add, Int.toNat_zero, Int.cast_ofNat_Int, h1, hp, nd, ne_eq, not_false_eq_true, not_true_eq_false, Nat.reduceAdd, Nat.reduceSub, Nat.reduceMul, Nat.reduceBEq, Nat.reduceEqDiff, Nat.reduceLeDiff, Nat.reduceLT, Int.reduceNeg, Int.reduceAdd, Int.reduceSub, Int.reduceEq, Int.reduceLT, Int.reduceLE, reduceCtorEq, ↓reduceIte]
      refine call_same _ _ _ (parts_fun _ _) ?_
      simp -implicitDefEqProofs (disch := (first | omega | (simp only [List.length_map, ByteArray.size_append, bsz, List.size_toArray, List.length_cons, List.length_nil]; omega))) only [go_sem, and_true, true_and, and_self, Int.natCast_nonneg, Nat.zero_add, Int.toNat_zero, Int.cast_ofNat_Int, ne_eq, not_false_eq_true, not_true_eq_false, Nat.reduceAdd, Nat.reduceSub, Nat.reduceMul, Nat.reduceBEq, Nat.reduceEqDiff, Nat.reduceLeDiff, Nat.reduceLT, Int.reduceNeg, Int.reduceAdd, Int.reduceSub, Int.reduceEq, Int.reduceLT, Int.reduceLE, reduceCtorEq, ↓reduceIte]
      refine call_same _ _ _ (may_fun p _) ?_
      simp -implicitDefEqProofs (disch := (first | omega | (simp only [List.length_map, ByteArray.size_append, bsz, List.size_toArray, List.length_cons, List.length_nil]; omega))) only [go_sem, and_true, true_and, and_self, Int.natCast_nonneg, Nat.zero_add, Int.toNat_zero, Int.cast_ofNat_Int, hm, e1, h2, ne_eq, not_false_eq_true, not_true_eq_false, Nat.reduceAdd, Nat.reduceSub, Nat.reduceMul, Nat.reduceBEq, Nat.reduceEqDiff, Nat.reduceLeDiff, Nat.reduceLT, Int.reduceNeg, Int.reduceAdd, Int.reduceSub, Int.reduceEq, Int.reduceLT, Int.reduceLE, reduceCtorEq, ↓reduceIte]
      by_cases h3 : p.1 = 3
      · have hx : st[n]? = some (st.getD n default) := by
          have : partsM p.1 = 1 := by rw [h3]; rfl
          rw [List.getD_eq_getElem?_getD, List.getElem?_eq_getElem (by omega)]; rfl
        have hn' : (n : Int) < st.length := by
          have : partsM p.1 = 1 := by rw [h3]; rfl
          omega
        simp -implicitDefEqProofs (disch := (first | omega | (simp only [List.length_map, ByteArray.size_append, bsz, List.size_toArray, List.length_cons, List.length_nil]; omega))) only [go_sem, and_true, true_and, and_self, Int.natCast_nonneg, Nat.zero_add, Int.toNat_zero, Int.cast_ofNat_Int, h3, hn', hx, trA_cells, ne_eq, not_false_eq_true, not_true_eq_false, Nat.reduceAdd, Nat.reduceSub, Nat.reduceMul, Nat.reduceBEq, Nat.reduceEqDiff, Nat.reduceLeDiff, Nat.reduceLT, Int.reduceNeg, Int.reduceAdd, Int.reduceSub, Int.reduceEq, Int.reduceLT, Int.reduceLE, reduceCtorEq, ↓reduceIte]
        refine next_round m (by omega) _ ⟨k + 1, _, max hw (n + 1), by omega, hM, hle, ?_, rfl⟩ (by repeat (first | exact agree_ov _ _ _ | exact agree_self _ _ | refine agree_wr rfl ?_)) (by first | done | (simp -implicitDefEqProofs (disch := (first | omega | (simp only [List.length_map, ByteArray.size_append, bsz, List.size_toArray, List.length_cons, List.length_nil]; omega))) only [go_sem, and_true, true_and, and_self, Int.natCast_nonneg, Nat.zero_add, Int.toNat_zero, Int.cast_ofNat_Int, List.length_append, List.length_take, List.length_drop, List.length_cons, List.length_nil, Option.some.injEq, AV.own.injEq, AV.int.injEq, ne_eq, not_false_eq_true, not_true_eq_false, Nat.reduceAdd, Nat.reduceSub, Nat.reduceMul, Nat.reduceBEq, Nat.reduceEqDiff, Nat.reduceLeDiff, Nat.reduceLT, Int.reduceNeg, Int.reduceAdd, Int.reduceSub, Int.reduceEq, Int.reduceLT, Int.reduceLE, reduceCtorEq, ↓reduceIte]; done) | (simp -implicitDefEqProofs (disch := (first | omega | (simp only [List.length_map, ByteArray.size_append, bsz, List.size_toArray, List.length_cons, List.length_nil]; omega))) only [go_sem, and_true, true_and, and_self, Int.natCast_nonneg, Nat.zero_add, Int.toNat_zero, Int.cast_ofNat_Int, List.length_append, List.length_take, List.length_drop, List.length_cons, List.length_nil, Option.some.injEq, AV.own.injEq, AV.int.injEq, ne_eq, not_false_eq_true, not_true_eq_false, Nat.reduceAdd, Nat.reduceSub, Nat.reduceMul, Nat.reduceBEq, Nat.reduceEqDiff, Nat.reduceLeDiff, Nat.reduceLT, Int.reduceNeg, Int.reduceAdd, Int.reduceSub, Int.reduceEq, Int.reduceLT, Int.reduceLE, reduceCtorEq, ↓reduceIte]; omega) | (simp -implicitDefEqProofs (disch := (first | omega | (simp only [List.length_map, ByteArray.size_append, bsz, List.size_toArray, List.length_cons, List.length_nil]; omega))) only [go_sem, and_true, true_and, and_self, Int.natCast_nonneg, Nat.zero_add, Int.toNat_zero, Int.cast_ofNat_Int, List.length_append, List.length_take, List.length_drop, List.length_cons, List.length_nil, Option.some.injEq, AV.own.injEq, AV.int.injEq, ne_eq, not_false_eq_true, not_true_eq_false, Nat.reduceAdd, Nat.reduceSub, Nat.reduceMul, Nat.reduceBEq, Nat.reduceEqDiff, Nat.reduceLeDiff, Nat.reduceLT, Int.reduceNeg, Int.reduceAdd, Int.reduceSub, Int.reduceEq, Int.reduceLT, Int.reduceLE, reduceCtorEq, ↓reduceIte]; refine ⟨?_, ?_⟩ <;> congr 1 <;> omega))
        simp only [List.map_append, List.map_take, List.map_cons, List.map_nil, nodeM, h3, if_true, trA]
      · by_cases h4 : p.1 = 4 ∨ p.1 = 5
        · have h45 : partsM p.1 = 2 := by simp [partsM, h3, h4]
          have hx : st[n]? = some (st.getD n default) := by
            rw [List.getD_eq_getElem?_getD, List.getElem?_eq_getElem (by omega)]; rfl
          have hy : st[n + 1]? = some (st.getD (n + 1) default) := by
            rw [List.getD_eq_getElem?_getD, List.getElem?_eq_getElem (by omega)]; rfl
          have hn' : (n : Int) < st.length := by omega
          have hn1 : ((n : Int) + 1).toNat = n + 1 := by omega
          have hn2 : (n : Int) + 1 < st.length := by omega
          have hnd : nodeM st p n = .pair (decide (p.1 = 5)) (st.getD n default) (st.getD (n + 1) default) := by simp [nodeM, h3, h4]
          rcases h4 with h4 | h4
          all_goals
            simp -implicitDefEqProofs (disch := (first | omega | (simp only [List.length_map, ByteArray.size_append, bsz, List.size_toArray, List.length_cons, List.length_nil]; omega))) only [go_sem, and_true, true_and, and_self, Int.natCast_nonneg, Nat.zero_add, Int.toNat_zero, Int.cast_ofNat_Int, h3, h4, hn', hx, hy, hn1, hn2, trA_cells, ne_eq, not_false_eq_true, not_true_eq_false, Nat.reduceAdd, Nat.reduceSub, Nat.reduceMul, Nat.reduceBEq, Nat.reduceEqDiff, Nat.reduceLeDiff, Nat.reduceLT, Int.reduceNeg, Int.reduceAdd, Int.reduceSub, Int.reduceEq, Int.reduceLT, Int.reduceLE, reduceCtorEq, ↓reduceIte]
            refine ⟨by kernel_rfl, ?_⟩
            refine next_round m (by omega) _ ⟨k + 1, _, max hw (n + 1), by omega, hM, hle, ?_, rfl⟩ (by repeat (first | exact agree_ov _ _ _ | exact agree_self _ _ | refine agree_wr rfl ?_)) (by first | done | (simp -implicitDefEqProofs (disch := (first | omega | (simp only [List.length_map, ByteArray.size_append, bsz, List.size_toArray, List.length_cons, List.length_nil]; omega))) only [go_sem, and_true, true_and, and_self, Int.natCast_nonneg, Nat.zero_add, Int.toNat_zero, Int.cast_ofNat_Int, List.length_append, List.length_take, List.length_drop, List.length_cons, List.length_nil, Option.some.injEq, AV.own.injEq, AV.int.injEq, ne_eq, not_false_eq_true, not_true_eq_false, Nat.reduceAdd, Nat.reduceSub, Nat.reduceMul, Nat.reduceBEq, Nat.reduceEqDiff, Nat.reduceLeDiff, Nat.reduceLT, Int.reduceNeg, Int.reduceAdd, Int.reduceSub, Int.reduceEq, Int.reduceLT, Int.reduceLE, reduceCtorEq, ↓reduceIte]; done) | (simp -implicitDefEqProofs (disch := (first | omega | (simp only [List.length_map, ByteArray.size_append, bsz, List.size_toArray, List.length_cons, List.length_nil]; omega))) only [go_sem, and_true, true_and, and_self, Int.natCast_nonneg, Nat.zero_add, Int.toNat_zero, Int.cast_ofNat_Int, List.length_append, List.length_take, List.length_drop, List.length_cons, List.length_nil, Option.some.injEq, AV.own.injEq, AV.int.injEq, ne_eq, not_false_eq_true, not_true_eq_false, Nat.reduceAdd, Nat.reduceSub, Nat.reduceMul, Nat.reduceBEq, Nat.reduceEqDiff, Nat.reduceLeDiff, Nat.reduceLT, Int.reduceNeg, Int.reduceAdd, Int.reduceSub, Int.reduceEq, Int.reduceLT, Int.reduceLE, reduceCtorEq, ↓reduceIte]; omega) | (simp -implicitDefEqProofs (disch := (first | omega | (simp only [List.length_map, ByteArray.size_append, bsz, List.size_toArray, List.length_cons, List.length_nil]; omega))) only [go_sem, and_true, true_and, and_self, Int.natCast_nonneg, Nat.zero_add, Int.toNat_zero, Int.cast_ofNat_Int, List.length_append, List.length_take, List.length_drop, List.length_cons, List.length_nil, Option.some.injEq, AV.own.injEq, AV.int.injEq, ne_eq, not_false_eq_true, not_true_eq_false, Nat.reduceAdd, Nat.reduceSub, Nat.reduceMul, Nat.reduceBEq, Nat.reduceEqDiff, Nat.reduceLeDiff, Nat.reduceLT, Int.reduceNeg, Int.reduceAdd, Int.reduceSub, Int.reduceEq, Int.reduceLT, Int.reduceLE, reduceCtorEq, ↓reduceIte]; refine ⟨?_, ?_⟩ <;> congr 1 <;> omega))
            rw [hnd]
            simp only [List.map_append, List.map_take, List.map_cons, List.map_nil, h4, trA]
            rfl
        · have h5 : ¬ p.1 = 5 := fun h => h4 (.inr h)
          have h4 : ¬ p.1 = 4 := fun h => h4 (.inl h)
          simp -implicitDefEqProofs (disch := (first | omega | (simp only [List.length_map, ByteArray.size_append, bsz, List.size_toArray, List.length_cons, List.length_nil]; omega))) only [go_sem, and_true, true_and, and_self, Int.natCast_nonneg, Nat.zero_add, Int.toNat_zero, Int.cast_ofNat_Int, h3, h4, h5, ne_eq, not_false_eq_true, not_true_eq_false, Nat.reduceAdd, Nat.reduceSub, Nat.reduceMul, Nat.reduceBEq, Nat.reduceEqDiff, Nat.reduceLeDiff, Nat.reduceLT, Int.reduceNeg, Int.reduceAdd, Int.reduceSub, Int.reduceEq, Int.reduceLT, Int.reduceLE, reduceCtorEq, ↓reduceIte]
          refine next_round m (by omega) _ ⟨k + 1, _, max hw (n + 1), by omega, hM, hle, ?_, rfl⟩ (by repeat (first | exact agree_ov _ _ _ | exact agree_self _ _ | refine agree_wr rfl ?_)) (by first | done | (simp -implicitDefEqProofs (disch := (first | omega | (simp only [List.length_map, ByteArray.size_append, bsz, List.size_toArray, List.length_cons, List.length_nil]; omega))) only [go_sem, and_true, true_and, and_self, Int.natCast_nonneg, Nat.zero_add, Int.toNat_zero, Int.cast_ofNat_Int, List.length_append, List.length_take, List.length_drop, List.length_cons, List.length_nil, Option.some.injEq, AV.own.injEq, AV.int.injEq, ne_eq, not_false_eq_true, not_true_eq_false, Nat.reduceAdd, Nat.reduceSub, Nat.reduceMul, Nat.reduceBEq, Nat.reduceEqDiff, Nat.reduceLeDiff, Nat.reduceLT, Int.reduceNeg, Int.reduceAdd, Int.reduceSub, Int.reduceEq, Int.reduceLT, Int.reduceLE, reduceCtorEq, ↓reduceIte]; done) | (simp -implicitDefEqProofs (disch := (first | omega | (simp only [List.length_map, ByteArray.size_append, bsz, List.size_toArray, List.length_cons, List.length_nil]; omega))) only [go_sem, and_true, true_and, and_self, Int.natCast_nonneg, Nat.zero_add, Int.toNat_zero, Int.cast_ofNat_Int, List.length_append, List.length_take, List.length_drop, List.length_cons, List.length_nil, Option.some.injEq, AV.own.injEq, AV.int.injEq, ne_eq, not_false_eq_true, not_true_eq_false, Nat.reduceAdd, Nat.reduceSub, Nat.reduceMul, Nat.reduceBEq, Nat.reduceEqDiff, Nat.reduceLeDiff, Nat.reduceLT, Int.reduceNeg, Int.reduceAdd, Int.reduceSub, Int.reduceEq, Int.reduceLT, Int.reduceLE, reduceCtorEq, ↓reduceIte]; omega) | (simp -implicitDefEqProofs (disch := (first | omega | (simp only [List.length_map, ByteArray.size_append, bsz, List.size_toArray, List.length_cons, List.length_nil]; omega))) only [go_sem, and_true, true_and, and_self, Int.natCast_nonneg, Nat.zero_add, Int.toNat_zero, Int.cast_ofNat_Int, List.length_append, List.length_take, List.length_drop, List.length_cons, List.length_nil, Option.some.injEq, AV.own.injEq, AV.int.injEq, ne_eq, not_false_eq_true, not_true_eq_false, Nat.reduceAdd, Nat.reduceSub, Nat.reduceMul, Nat.reduceBEq, Nat.reduceEqDiff, Nat.reduceLeDiff, Nat.reduceLT, Int.reduceNeg, Int.reduceAdd, Int.reduceSub, Int.reduceEq, Int.reduceLT, Int.reduceLE, reduceCtorEq, ↓reduceIte]; refine ⟨?_, ?_⟩ <;> congr 1 <;> omega))
          simp only [List.map_append, List.map_take, List.map_cons, List.map_nil, nodeM, h3, h4, h5, if_false, or_self, trA]
          rfl
    · have hst : pushM st p = none := by unfold pushM; rw [if_neg hm]
      rw [hst, Option.bind_none] at hM
      have hno : madeM l = none := by unfold madeM; rw [← hM]; rfl
      simp -implicitDefEqProofs (disch := (first | omega | (simp only [List.length_map, ByteArray.size_append, bsz, List.size_toArray, List.length_cons, List.length_nil]; omega))) only [go_sem, and_true, true_and, and_self, Int.natCast_nonneg, Nat.zero_add, Int.toNat_zero, Int.cast_ofNat_Int, h1, hp, nd, ne_eq, not_false_eq_true, not_true_eq_false, Nat.reduceAdd, Nat.reduceSub, Nat.reduceMul, Nat.reduceBEq, Nat.reduceEqDiff, Nat.reduceLeDiff, Nat.reduceLT, Int.reduceNeg, Int.reduceAdd, Int.reduceSub, Int.reduceEq, Int.reduceLT, Int.reduceLE, reduceCtorEq, ↓reduceIte]
      refine call_same _ _ _ (parts_fun _ _) ?_
      simp -implicitDefEqProofs (disch := (first | omega | (simp only [List.length_map, ByteArray.size_append, bsz, List.size_toArray, List.length_cons, List.length_nil]; omega))) only [go_sem, and_true, true_and, and_self, Int.natCast_nonneg, Nat.zero_add, Int.toNat_zero, Int.cast_ofNat_Int, ne_eq, not_false_eq_true, not_true_eq_false, Nat.reduceAdd, Nat.reduceSub, Nat.reduceMul, Nat.reduceBEq, Nat.reduceEqDiff, Nat.reduceLeDiff, Nat.reduceLT, Int.reduceNeg, Int.reduceAdd, Int.reduceSub, Int.reduceEq, Int.reduceLT, Int.reduceLE, reduceCtorEq, ↓reduceIte]
      refine call_same _ _ _ (may_fun p _) ?_
      cases hm' : mayM p
      · simp -implicitDefEqProofs (disch := (first | omega | (simp only [List.length_map, ByteArray.size_append, bsz, List.size_toArray, List.length_cons, List.length_nil]; omega))) only [go_sem, and_true, true_and, and_self, Int.natCast_nonneg, Nat.zero_add, Int.toNat_zero, Int.cast_ofNat_Int, hm', ne_eq, not_false_eq_true, not_true_eq_false, Nat.reduceAdd, Nat.reduceSub, Nat.reduceMul, Nat.reduceBEq, Nat.reduceEqDiff, Nat.reduceLeDiff, Nat.reduceLT, Int.reduceNeg, Int.reduceAdd, Int.reduceSub, Int.reduceEq, Int.reduceLT, Int.reduceLE, reduceCtorEq, ↓reduceIte]
        rw [hno]
        exact Done.lit rfl trivial
      · have h2 : (st.length : Int) - (partsM p.1 : Int) < 0 := by
          rw [hm'] at hm
          simp only [true_and] at hm
          omega
        simp -implicitDefEqProofs (disch := (first | omega | (simp only [List.length_map, ByteArray.size_append, bsz, List.size_toArray, List.length_cons, List.length_nil]; omega))) only [go_sem, and_true, true_and, and_self, Int.natCast_nonneg, Nat.zero_add, Int.toNat_zero, Int.cast_ofNat_Int, hm', h2, ne_eq, not_false_eq_true, not_true_eq_false, Nat.reduceAdd, Nat.reduceSub, Nat.reduceMul, Nat.reduceBEq, Nat.reduceEqDiff, Nat.reduceLeDiff, Nat.reduceLT, Int.reduceNeg, Int.reduceAdd, Int.reduceSub, Int.reduceEq, Int.reduceLT, Int.reduceLE, reduceCtorEq, ↓reduceIte]
        rw [hno]
        exact Done.lit rfl trivial
end Go.Proofs.Ytigelnkhggkmcaa
end
section
namespace Go.Proofs.Ytigelnkhggkmcaa
open Go.Abs Go.Abs.Pl
set_option linter.unusedSimpArgs false
set_option maxHeartbeats 4000000
set_option maxRecDepth 20000
theorem deep_meth : ∀ (t : Tr) (σ : AH), sizeM t ≤ 100000 → MFun Try.prog "siskin/need.deep" (trA t) [] σ (.int .i64 (deepM t))
  | .leaf p, σ, _ => by
    refine ⟨280, [nd p], by simp -implicitDefEqProofs (disch := (first | omega | (simp only [List.length_map, ByteArray.size_append, bsz, List.size_toArray, List.length_cons, List.length_nil]; omega))) only [go_sem, and_true, true_and, and_self, Int.natCast_nonneg, Nat.zero_add, Int.toNat_zero, Int.cast_ofNat_Int, trA, ne_eq, not_false_eq_true, not_true_eq_false, Nat.reduceAdd, Nat.reduceSub, Nat.reduceMul, Nat.reduceBEq, Nat.reduceEqDiff, Nat.reduceLeDiff, Nat.reduceLT, Int.reduceNeg, Int.reduceAdd, Int.reduceSub, Int.reduceEq, Int.reduceLT, Int.reduceLE, reduceCtorEq, ↓reduceIte], ?_⟩
    refine fun_code [] Try.func280 rfl rfl (by kernel_rfl) rfl ?_
    simp -implicitDefEqProofs (disch := (first | omega | (simp only [List.length_map, ByteArray.size_append, bsz, List.size_toArray, List.length_cons, List.length_nil]; omega))) only [go_sem, and_true, true_and, and_self, Int.natCast_nonneg, Nat.zero_add, Int.toNat_zero, Int.cast_ofNat_Int, Try.ntmps280, nd, ne_eq, not_false_eq_true, not_true_eq_false, Nat.reduceAdd, Nat.reduceSub, Nat.reduceMul, Nat.reduceBEq, Nat.reduceEqDiff, Nat.reduceLeDiff, Nat.reduceLT, Int.reduceNeg, Int.reduceAdd, Int.reduceSub, Int.reduceEq, Int.reduceLT, Int.reduceLE, reduceCtorEq, ↓reduceIte]
    exact .plain
  | .turned t, σ, h => by
    refine ⟨282, [.agg [trA t]], by simp -implicitDefEqProofs (disch := (first | omega | (simp only [List.length_map, ByteArray.size_append, bsz, List.size_toArray, List.length_cons, List.length_nil]; omega))) only [go_sem, and_true, true_and, and_self, Int.natCast_nonneg, Nat.zero_add, Int.toNat_zero, Int.cast_ofNat_Int, trA, ne_eq, not_false_eq_true, not_true_eq_false, Nat.reduceAdd, Nat.reduceSub, Nat.reduceMul, Nat.reduceBEq, Nat.reduceEqDiff, Nat.reduceLeDiff, Nat.reduceLT, Int.reduceNeg, Int.reduceAdd, Int.reduceSub, Int.reduceEq, Int.reduceLT, Int.reduceLE, reduceCtorEq, ↓reduceIte], ?_⟩
    have h' : sizeM t ≤ 100000 := by simp only [sizeM] at h; omega
    have hd := deep_le t
    refine fun_code [] Try.func282 rfl rfl (by kernel_rfl) rfl ?_
    simp -implicitDefEqProofs (disch := (first | omega | (simp only [List.length_map, ByteArray.size_append, bsz, List.size_toArray, List.length_cons, List.length_nil]; omega))) only [go_sem, and_true, true_and, and_self, Int.natCast_nonneg, Nat.zero_add, Int.toNat_zero, Int.cast_ofNat_Int, Try.ntmps282, trA_ok, ne_eq, not_false_eq_true, not_true_eq_false, Nat.reduceAdd, Nat.reduceSub, Nat.reduceMul, Nat.reduceBEq, Nat.reduceEqDiff, Nat.reduceLeDiff, Nat.reduceLT, Int.reduceNeg, Int.reduceAdd, Int.reduceSub, Int.reduceEq, Int.reduceLT, Int.reduceLE, reduceCtorEq, ↓reduceIte]
    refine call_meth (deep_meth t _ h') ?_
    simp -implicitDefEqProofs (disch := (first | omega | (simp only [List.length_map, ByteArray.size_append, bsz, List.size_toArray, List.length_cons, List.length_nil]; omega))) only [go_sem, and_true, true_and, and_self, Int.natCast_nonneg, Nat.zero_add, Int.toNat_zero, Int.cast_ofNat_Int, ne_eq, not_false_eq_true, not_true_eq_false, Nat.reduceAdd, Nat.reduceSub, Nat.reduceMul, Nat.reduceBEq, Nat.reduceEqDiff, Nat.reduceLeDiff, Nat.reduceLT, Int.reduceNeg, Int.reduceAdd, Int.reduceSub, Int.reduceEq, Int.reduceLT, Int.reduceLE, reduceCtorEq, ↓reduceIte]
    refine Done.same ?_
    simp [deepM]
  | .pair o a b, σ, h => by
    refine ⟨284, [.agg [.bool o, trA a, trA b]], by simp -implicitDefEqProofs (disch := (first | omega | (simp only [List.length_map, ByteArray.size_append, bsz, List.size_toArray, List.length_cons, List.length_nil]; omega))) only [go_sem, and_true, true_and, and_self, Int.natCast_nonneg, Nat.zero_add, Int.toNat_zero, Int.cast_ofNat_Int, trA, ne_eq, not_false_eq_true, not_true_eq_false, Nat.reduceAdd, Nat.reduceSub, Nat.reduceMul, Nat.reduceBEq, Nat.reduceEqDiff, Nat.reduceLeDiff, Nat.reduceLT, Int.reduceNeg, Int.reduceAdd, Int.reduceSub, Int.reduceEq, Int.reduceLT, Int.reduceLE, reduceCtorEq, ↓reduceIte], ?_⟩
    have ha' : sizeM a ≤ 100000 := by simp only [sizeM] at h; omega
    have hb' : sizeM b ≤ 100000 := by simp only [sizeM] at h; omega
    have hd := deep_le a
    have he := deep_le b
    refine fun_code [] Try.func284 rfl rfl (by kernel_rfl) rfl ?_
    simp -implicitDefEqProofs (disch := (first | omega | (simp only [List.length_map, ByteArray.size_append, bsz, List.size_toArray, List.length_cons, List.length_nil]; omega))) only [go_sem, and_true, true_and, and_self, Int.natCast_nonneg, Nat.zero_add, Int.toNat_zero, Int.cast_ofNat_Int, Try.ntmps284, trA_ok, ne_eq, not_false_eq_true, not_true_eq_false, Nat.reduceAdd, Nat.reduceSub, Nat.reduceMul, Nat.reduceBEq, Nat.reduceEqDiff, Nat.reduceLeDiff, Nat.reduceLT, Int.reduceNeg, Int.reduceAdd, Int.reduceSub, Int.reduceEq, Int.reduceLT, Int.reduceLE, reduceCtorEq, ↓reduceIte]
    refine ⟨by kernel_rfl, ?_⟩
    refine call_meth (deep_meth a _ ha') ?_
    simp -implicitDefEqProofs (disch := (first | omega | (simp only [List.length_map, ByteArray.size_append, bsz, List.size_toArray, List.length_cons, List.length_nil]; omega))) only [go_sem, and_true, true_and, and_self, Int.natCast_nonneg, Nat.zero_add, Int.toNat_zero, Int.cast_ofNat_Int, ne_eq, not_false_eq_true, not_true_eq_false, Nat.reduceAdd, Nat.reduceSub, Nat.reduceMul, Nat.reduceBEq, Nat.reduceEqDiff, Nat.reduceLeDiff, Nat.reduceLT, Int.reduceNeg, Int.reduceAdd, Int.reduceSub, Int.reduceEq, Int.reduceLT, Int.reduceLE, reduceCtorEq, ↓reduceIte]
    refine call_meth (deep_meth b _ hb') ?_
    simp only [sizeM] at h
    simp -implicitDefEqProofs (disch := (first | omega | (simp only [List.length_map, ByteArray.size_append, bsz, List.size_toArray, List.length_cons, List.length_nil]; omega))) only [go_sem, and_true, true_and, and_self, Int.natCast_nonneg, Nat.zero_add, Int.toNat_zero, Int.cast_ofNat_Int, ne_eq, not_false_eq_true, not_true_eq_false, Nat.reduceAdd, Nat.reduceSub, Nat.reduceMul, Nat.reduceBEq, Nat.reduceEqDiff, Nat.reduceLeDiff, Nat.reduceLT, Int.reduceNeg, Int.reduceAdd, Int.reduceSub, Int.reduceEq, Int.reduceLT, Int.reduceLE, reduceCtorEq, ↓reduceIte]
    refine Done.same ?_
    simp only [deepM, AV.int.injEq, true_and]
    omega
theorem size_fun : ∀ (t : Tr) (σ : AH), sizeM t ≤ 100000 → AFun Try.prog 222 [trA t] σ (.ret (.int .i64 (sizeM t))) σ
  | .leaf p, σ, _ => by
    refine fun_code [] Try.func222 rfl rfl (by kernel_rfl) rfl ?_
    simp -implicitDefEqProofs (disch := (first | omega | (simp only [List.length_map, ByteArray.size_append, bsz, List.size_toArray, List.length_cons, List.length_nil]; omega))) only [go_sem, and_true, true_and, and_self, Int.natCast_nonneg, Nat.zero_add, Int.toNat_zero, Int.cast_ofNat_Int, Try.ntmps222, trA, nd, ne_eq, not_false_eq_true, not_true_eq_false, Nat.reduceAdd, Nat.reduceSub, Nat.reduceMul, Nat.reduceBEq, Nat.reduceEqDiff, Nat.reduceLeDiff, Nat.reduceLT, Int.reduceNeg, Int.reduceAdd, Int.reduceSub, Int.reduceEq, Int.reduceLT, Int.reduceLE, reduceCtorEq, ↓reduceIte]
    exact .plain
  | .turned t, σ, h => by
    have h' : sizeM t ≤ 100000 := by simp only [sizeM] at h; omega
    refine fun_code [] Try.func222 rfl rfl (by kernel_rfl) rfl ?_
    simp -implicitDefEqProofs (disch := (first | omega | (simp only [List.length_map, ByteArray.size_append, bsz, List.size_toArray, List.length_cons, List.length_nil]; omega))) only [go_sem, and_true, true_and, and_self, Int.natCast_nonneg, Nat.zero_add, Int.toNat_zero, Int.cast_ofNat_Int, Try.ntmps222, trA, trA_ok, ne_eq, not_false_eq_true, not_true_eq_false, Nat.reduceAdd, Nat.reduceSub, Nat.reduceMul, Nat.reduceBEq, Nat.reduceEqDiff, Nat.reduceLeDiff, Nat.reduceLT, Int.reduceNeg, Int.reduceAdd, Int.reduceSub, Int.reduceEq, Int.reduceLT, Int.reduceLE, reduceCtorEq, ↓reduceIte]
    refine call_same _ _ _ (size_fun t _ h') ?_
    simp only [sizeM] at h
    simp -implicitDefEqProofs (disch := (first | omega | (simp only [List.length_map, ByteArray.size_append, bsz, List.size_toArray, List.length_cons, List.length_nil]; omega))) only [go_sem, and_true, true_and, and_self, Int.natCast_nonneg, Nat.zero_add, Int.toNat_zero, Int.cast_ofNat_Int, ne_eq, not_false_eq_true, not_true_eq_false, Nat.reduceAdd, Nat.reduceSub, Nat.reduceMul, Nat.reduceBEq, Nat.reduceEqDiff, Nat.reduceLeDiff, Nat.reduceLT, Int.reduceNeg, Int.reduceAdd, Int.reduceSub, Int.reduceEq, Int.reduceLT, Int.reduceLE, reduceCtorEq, ↓reduceIte]
    refine Done.same ?_
    simp [sizeM]
  | .pair o a b, σ, h => by
    have ha : sizeM a ≤ 100000 := by simp only [sizeM] at h; omega
    have hb : sizeM b ≤ 100000 := by simp only [sizeM] at h; omega
    refine fun_code [] Try.func222 rfl rfl (by kernel_rfl) rfl ?_
    simp -implicitDefEqProofs (disch := (first | omega | (simp only [List.length_map, ByteArray.size_append, bsz, List.size_toArray, List.length_cons, List.length_nil]; omega))) only [go_sem, and_true, true_and, and_self, Int.natCast_nonneg, Nat.zero_add, Int.toNat_zero, Int.cast_ofNat_Int, Try.ntmps222, trA, trA_ok, ne_eq, not_false_eq_true, not_true_eq_false, Nat.reduceAdd, Nat.reduceSub, Nat.reduceMul, Nat.reduceBEq, Nat.reduceEqDiff, Nat.reduceLeDiff, Nat.reduceLT, Int.reduceNeg, Int.reduceAdd, Int.reduceSub, Int.reduceEq, Int.reduceLT, Int.reduceLE, reduceCtorEq, ↓reduceIte]
    refine ⟨by kernel_rfl, ?_⟩
    refine call_same _ _ _ (size_fun a _ ha) ?_
    simp -implicitDefEqProofs (disch := (first | omega | (simp only [List.length_map, ByteArray.size_append, bsz, List.size_toArray, List.length_cons, List.length_nil]; omega))) only [go_sem, and_true, true_and, and_self, Int.natCast_nonneg, Nat.zero_add, Int.toNat_zero, Int.cast_ofNat_Int, ne_eq, not_false_eq_true, not_true_eq_false, Nat.reduceAdd, Nat.reduceSub, Nat.reduceMul, Nat.reduceBEq, Nat.reduceEqDiff, Nat.reduceLeDiff, Nat.reduceLT, Int.reduceNeg, Int.reduceAdd, Int.reduceSub, Int.reduceEq, Int.reduceLT, Int.reduceLE, reduceCtorEq, ↓reduceIte]
    refine call_same _ _ _ (size_fun b _ hb) ?_
    simp only [sizeM] at h
    simp -implicitDefEqProofs (disch := (first | omega | (simp only [List.length_map, ByteArray.size_append, bsz, List.size_toArray, List.length_cons, List.length_nil]; omega))) only [go_sem, and_true, true_and, and_self, Int.natCast_nonneg, Nat.zero_add, Int.toNat_zero, Int.cast_ofNat_Int, ne_eq, not_false_eq_true, not_true_eq_false, Nat.reduceAdd, Nat.reduceSub, Nat.reduceMul, Nat.reduceBEq, Nat.reduceEqDiff, Nat.reduceLeDiff, Nat.reduceLT, Int.reduceNeg, Int.reduceAdd, Int.reduceSub, Int.reduceEq, Int.reduceLT, Int.reduceLE, reduceCtorEq, ↓reduceIte]
    refine Done.same ?_
    simp [sizeM]
theorem copied_fun (l : List Nd) (σ : AH) (hl : l.length ≤ 100000) : AFun Try.prog 223 [nds l] σ (.ret (nds l)) σ := by
  refine fun_code [] Try.func223 rfl rfl (by kernel_rfl) rfl ?_
  simp -implicitDefEqProofs (disch := (first | omega | (simp only [List.length_map, ByteArray.size_append, bsz, List.size_toArray, List.length_cons, List.length_nil]; omega))) only [go_sem, and_true, true_and, and_self, Int.natCast_nonneg, Nat.zero_add, Int.toNat_zero, Int.cast_ofNat_Int, Try.ntmps223, nds, ne_eq, not_false_eq_true, not_true_eq_false, Nat.reduceAdd, Nat.reduceSub, Nat.reduceMul, Nat.reduceBEq, Nat.reduceEqDiff, Nat.reduceLeDiff, Nat.reduceLT, Int.reduceNeg, Int.reduceAdd, Int.reduceSub, Int.reduceEq, Int.reduceLT, Int.reduceLE, reduceCtorEq, ↓reduceIte]
  exact .plain
theorem madeM_size {l : List Nd} {t : Tr} (h : madeM l = some t) : sizeM t = l.length := by
  obtain ⟨_, rfl⟩ := (made_iff l t).1 h
  exact (flat_length t).symm
theorem trA_iface (t : Tr) : ∃ ty x, trA t = .iface ty x := by cases t <;> exact ⟨_, _, rfl⟩
theorem eqNil (t : Tr) (P : Program) (ty : TypeId) (c : Bool) : evBin P .eql ty c (trA t) .nilIface = under_ (isIf P ty = true) (some (.bool false)) := by cases t <;> exact bin_if_eql ..
theorem Check_fun (l : List Nd) (σ : AH) (hl : l.length ≤ 100000) : AFun Try.prog 26 [nds l] σ (.ret (.int .i64 (checkM l))) σ := by
  by_cases h1 : (31 : Int) < l.length
  · refine fun_code [] Try.func26 rfl rfl (by kernel_rfl) rfl ?_
    simp -implicitDefEqProofs (disch := (first | omega | (simp only [List.length_map, ByteArray.size_append, bsz, List.size_toArray, List.length_cons, List.length_nil]; omega))) only [go_sem, and_true, true_and, and_self, Int.natCast_nonneg, Nat.zero_add, Int.toNat_zero, Int.cast_ofNat_Int, Try.ntmps26, nds, h1, ne_eq, not_false_eq_true, not_true_eq_false, Nat.reduceAdd, Nat.reduceSub, Nat.reduceMul, Nat.reduceBEq, Nat.reduceEqDiff, Nat.reduceLeDiff, Nat.reduceLT, Int.reduceNeg, Int.reduceAdd, Int.reduceSub, Int.reduceEq, Int.reduceLT, Int.reduceLE, reduceCtorEq, ↓reduceIte]
    refine Done.same ?_
    simp only [checkM]
    rw [if_pos (by omega)]
    rfl
  · have hc : checkM l = match madeM l with
      | none => 1
      | some t => if 8 < deepM t then 4 else 0 := by unfold checkM; rw [if_neg (by omega)]; rfl
    refine fun_code [] Try.func26 rfl rfl (by kernel_rfl) rfl ?_
    simp -implicitDefEqProofs (disch := (first | omega | (simp only [List.length_map, ByteArray.size_append, bsz, List.size_toArray, List.length_cons, List.length_nil]; omega))) only [go_sem, and_true, true_and, and_self, Int.natCast_nonneg, Nat.zero_add, Int.toNat_zero, Int.cast_ofNat_Int, Try.ntmps26, nds, h1, ne_eq, not_false_eq_true, not_true_eq_false, Nat.reduceAdd, Nat.reduceSub, Nat.reduceMul, Nat.reduceBEq, Nat.reduceEqDiff, Nat.reduceLeDiff, Nat.reduceLT, Int.reduceNeg, Int.reduceAdd, Int.reduceSub, Int.reduceEq, Int.reduceLT, Int.reduceLE, reduceCtorEq, ↓reduceIte]
    refine call_same _ _ _ (made_fun l _ hl) ?_
    rw [hc]
    cases hm : madeM l with
    | none =>
      simp -implicitDefEqProofs (disch := (first | omega | (simp only [List.length_map, ByteArray.size_append, bsz, List.size_toArray, List.length_cons, List.length_nil]; omega))) only [go_sem, and_true, true_and, and_self, Int.natCast_nonneg, Nat.zero_add, Int.toNat_zero, Int.cast_ofNat_Int, optA, ne_eq, not_false_eq_true, not_true_eq_false, Nat.reduceAdd, Nat.reduceSub, Nat.reduceMul, Nat.reduceBEq, Nat.reduceEqDiff, Nat.reduceLeDiff, Nat.reduceLT, Int.reduceNeg, Int.reduceAdd, Int.reduceSub, Int.reduceEq, Int.reduceLT, Int.reduceLE, reduceCtorEq, ↓reduceIte]
      exact .plain
    | some t =>
      have hs := madeM_size hm
      simp -implicitDefEqProofs (disch := (first | omega | (simp only [List.length_map, ByteArray.size_append, bsz, List.size_toArray, List.length_cons, List.length_nil]; omega))) only [go_sem, and_true, true_and, and_self, Int.natCast_nonneg, Nat.zero_add, Int.toNat_zero, Int.cast_ofNat_Int, optA, eqNil, ne_eq, not_false_eq_true, not_true_eq_false, Nat.reduceAdd, Nat.reduceSub, Nat.reduceMul, Nat.reduceBEq, Nat.reduceEqDiff, Nat.reduceLeDiff, Nat.reduceLT, Int.reduceNeg, Int.reduceAdd, Int.reduceSub, Int.reduceEq, Int.reduceLT, Int.reduceLE, reduceCtorEq, ↓reduceIte]
      refine call_meth (deep_meth t _ (by omega)) ?_
      by_cases h2 : (8 : Int) < deepM t
      · simp -implicitDefEqProofs (disch := (first | omega | (simp only [List.length_map, ByteArray.size_append, bsz, List.size_toArray, List.length_cons, List.length_nil]; omega))) only [go_sem, and_true, true_and, and_self, Int.natCast_nonneg, Nat.zero_add, Int.toNat_zero, Int.cast_ofNat_Int, h2, ne_eq, not_false_eq_true, not_true_eq_false, Nat.reduceAdd, Nat.reduceSub, Nat.reduceMul, Nat.reduceBEq, Nat.reduceEqDiff, Nat.reduceLeDiff, Nat.reduceLT, Int.reduceNeg, Int.reduceAdd, Int.reduceSub, Int.reduceEq, Int.reduceLT, Int.reduceLE, reduceCtorEq, ↓reduceIte]
        refine Done.same ?_
        rw [if_pos (by omega)]; rfl
      · simp -implicitDefEqProofs (disch := (first | omega | (simp only [List.length_map, ByteArray.size_append, bsz, List.size_toArray, List.length_cons, List.length_nil]; omega))) only [go_sem, and_true, true_and, and_self, Int.natCast_nonneg, Nat.zero_add, Int.toNat_zero, Int.cast_ofNat_Int, h2, ne_eq, not_false_eq_true, not_true_eq_false, Nat.reduceAdd, Nat.reduceSub, Nat.reduceMul, Nat.reduceBEq, Nat.reduceEqDiff, Nat.reduceLeDiff, Nat.reduceLT, Int.reduceNeg, Int.reduceAdd, Int.reduceSub, Int.reduceEq, Int.reduceLT, Int.reduceLE, reduceCtorEq, ↓reduceIte]
        refine Done.same ?_
        rw [if_neg (by omega)]; rfl
theorem check_zero {l : List Nd} (h : checkM l = 0) : ∃ t, madeM l = some t ∧ deepM t ≤ 8 ∧ l.length ≤ 31 := by
  unfold checkM at h
  split at h
  · cases h
  · cases hm : madeM l with
    | none => rw [hm] at h; cases h
    | some t =>
      rw [hm] at h
      simp only at h
      split at h
      · cases h
      · exact ⟨t, rfl, by omega, by omega⟩
def ndss (l : List (List Nd)) : AV := .sl 1 (l.map nds)
def partsOf : Tr → List (List Nd)
  | .leaf _ => []
  | .turned t => [flat t]
  | .pair _ a b => [flat a, flat b]
theorem Parts_fun (t : Tr) (σ : AH) (hw : wf t) (h8 : deepM t ≤ 8) (h31 : sizeM t ≤ 31) : AFun Try.prog 177 [nds (flat t)] σ (.ret (ndss (partsOf t))) σ := by
  refine AFun.bel (by kernel_rfl) fun hB => ?_
  have hm : madeM (flat t) = some t := (made_iff _ _).2 ⟨hw, rfl⟩
  have hl := flat_length t
  have hc : checkM (flat t) = 0 := by
    unfold checkM
    rw [if_neg (by omega), hm]
    simp only
    rw [if_neg (by omega)]
  refine fun_code [] Try.func177 rfl rfl (by kernel_rfl) rfl ?_
  simp -implicitDefEqProofs (disch := (first | omega | (simp only [List.length_map, ByteArray.size_append, bsz, List.size_toArray, List.length_cons, List.length_nil]; omega))) only [go_sem, and_true, true_and, and_self, Int.natCast_nonneg, Nat.zero_add, Int.toNat_zero, Int.cast_ofNat_Int, Try.ntmps177, nds, ne_eq, not_false_eq_true, not_true_eq_false, Nat.reduceAdd, Nat.reduceSub, Nat.reduceMul, Nat.reduceBEq, Nat.reduceEqDiff, Nat.reduceLeDiff, Nat.reduceLT, Int.reduceNeg, Int.reduceAdd, Int.reduceSub, Int.reduceEq, Int.reduceLT, Int.reduceLE, reduceCtorEq, ↓reduceIte]
  refine call_same _ _ _ (Check_fun (flat t) _ (by omega)) ?_
  rw [hc]
  simp -implicitDefEqProofs (disch := (first | omega | (simp only [List.length_map, ByteArray.size_append, bsz, List.size_toArray, List.length_cons, List.length_nil]; omega))) only [go_sem, and_true, true_and, and_self, Int.natCast_nonneg, Nat.zero_add, Int.toNat_zero, Int.cast_ofNat_Int, ne_eq, not_false_eq_true, not_true_eq_false, Nat.reduceAdd, Nat.reduceSub, Nat.reduceMul, Nat.reduceBEq, Nat.reduceEqDiff, Nat.reduceLeDiff, Nat.reduceLT, Int.reduceNeg, Int.reduceAdd, Int.reduceSub, Int.reduceEq, Int.reduceLT, Int.reduceLE, reduceCtorEq, ↓reduceIte]
  refine call_same _ _ _ (made_fun (flat t) _ (by omega)) ?_
  rw [hm]
  cases t with
  | leaf p =>
    simp -implicitDefEqProofs (disch := (first | omega | (simp only [List.length_map, ByteArray.size_append, bsz, List.size_toArray, List.length_cons, List.length_nil]; omega))) only [go_sem, and_true, true_and, and_self, Int.natCast_nonneg, Nat.zero_add, Int.toNat_zero, Int.cast_ofNat_Int, optA, trA, nd, ne_eq, not_false_eq_true, not_true_eq_false, Nat.reduceAdd, Nat.reduceSub, Nat.reduceMul, Nat.reduceBEq, Nat.reduceEqDiff, Nat.reduceLeDiff, Nat.reduceLT, Int.reduceNeg, Int.reduceAdd, Int.reduceSub, Int.reduceEq, Int.reduceLT, Int.reduceLE, reduceCtorEq, ↓reduceIte]
    exact .weak (fun _ => .nil 1) hB
  | turned t =>
    have hl' : (flat (.turned t)).length = (flat t).length + 1 := by simp [flat]
    have e : ((((flat t).length + 1 : Nat) : Int) - 1).toNat = (flat t).length := by omega
    have e2 : List.take (flat t).length (List.map nd (flat (.turned t))) = List.map nd (flat t) := by simp [flat]
    simp -implicitDefEqProofs (disch := (first | omega | (simp only [List.length_map, ByteArray.size_append, bsz, List.size_toArray, List.length_cons, List.length_nil]; omega))) only [go_sem, and_true, true_and, and_self, Int.natCast_nonneg, Nat.zero_add, Int.toNat_zero, Int.cast_ofNat_Int, optA, trA, trA_ok, hl', e, e2, ne_eq, not_false_eq_true, not_true_eq_false, Nat.reduceAdd, Nat.reduceSub, Nat.reduceMul, Nat.reduceBEq, Nat.reduceEqDiff, Nat.reduceLeDiff, Nat.reduceLT, Int.reduceNeg, Int.reduceAdd, Int.reduceSub, Int.reduceEq, Int.reduceLT, Int.reduceLE, reduceCtorEq, ↓reduceIte]
    refine call_same _ _ _ (copied_fun (flat t) _ (by omega)) ?_
    simp -implicitDefEqProofs (disch := (first | omega | (simp only [List.length_map, ByteArray.size_append, bsz, List.size_toArray, List.length_cons, List.length_nil]; omega))) only [go_sem, and_true, true_and, and_self, Int.natCast_nonneg, Nat.zero_add, Int.toNat_zero, Int.cast_ofNat_Int, nds, ne_eq, not_false_eq_true, not_true_eq_false, Nat.reduceAdd, Nat.reduceSub, Nat.reduceMul, Nat.reduceBEq, Nat.reduceEqDiff, Nat.reduceLeDiff, Nat.reduceLT, Int.reduceNeg, Int.reduceAdd, Int.reduceSub, Int.reduceEq, Int.reduceLT, Int.reduceLE, reduceCtorEq, ↓reduceIte]
    exact .plain
  | pair o a b =>
    have hl' : (flat (.pair o a b)).length = (flat a).length + (flat b).length + 1 := by simp [flat]; omega
    have e : ((((flat a).length + (flat b).length + 1 : Nat) : Int) - 1).toNat = (flat a).length + (flat b).length := by omega
    have e2 : List.take (sizeM a) (List.map nd (flat (.pair o a b))) = List.map nd (flat a) := by
      rw [← flat_length]
      simp [flat]
    have e3 : List.drop (sizeM a) (List.take ((flat a).length + (flat b).length) (List.map nd (flat (.pair o a b)))) = List.map nd (flat b) := by
      rw [← flat_length]
      simp [flat, List.take_append]
    have fa := flat_length a
    have fb := flat_length b
    simp -implicitDefEqProofs (disch := (first | omega | (simp only [List.length_map, ByteArray.size_append, bsz, List.size_toArray, List.length_cons, List.length_nil]; omega))) only [go_sem, and_true, true_and, and_self, Int.natCast_nonneg, Nat.zero_add, Int.toNat_zero, Int.cast_ofNat_Int, optA, trA, trA_ok, ne_eq, not_false_eq_true, not_true_eq_false, Nat.reduceAdd, Nat.reduceSub, Nat.reduceMul, Nat.reduceBEq, Nat.reduceEqDiff, Nat.reduceLeDiff, Nat.reduceLT, Int.reduceNeg, Int.reduceAdd, Int.reduceSub, Int.reduceEq, Int.reduceLT, Int.reduceLE, reduceCtorEq, ↓reduceIte]
    refine call_same _ _ _ (size_fun a _ (by omega)) ?_
    simp -implicitDefEqProofs (disch := (first | omega | (simp only [List.length_map, ByteArray.size_append, bsz, List.size_toArray, List.length_cons, List.length_nil]; omega))) only [go_sem, and_true, true_and, and_self, Int.natCast_nonneg, Nat.zero_add, Int.toNat_zero, Int.cast_ofNat_Int, hl', e, e2, e3, ne_eq, not_false_eq_true, not_true_eq_false, Nat.reduceAdd, Nat.reduceSub, Nat.reduceMul, Nat.reduceBEq, Nat.reduceEqDiff, Nat.reduceLeDiff, Nat.reduceLT, Int.reduceNeg, Int.reduceAdd, Int.reduceSub, Int.reduceEq, Int.reduceLT, Int.reduceLE, reduceCtorEq, ↓reduceIte]
    refine ⟨by kernel_rfl, ?_⟩
    refine call_same _ _ _ (copied_fun (flat a) _ (by omega)) ?_
    simp -implicitDefEqProofs (disch := (first | omega | (simp only [List.length_map, ByteArray.size_append, bsz, List.size_toArray, List.length_cons, List.length_nil]; omega))) only [go_sem, and_true, true_and, and_self, Int.natCast_nonneg, Nat.zero_add, Int.toNat_zero, Int.cast_ofNat_Int, hl', e, e2, e3, ne_eq, not_false_eq_true, not_true_eq_false, Nat.reduceAdd, Nat.reduceSub, Nat.reduceMul, Nat.reduceBEq, Nat.reduceEqDiff, Nat.reduceLeDiff, Nat.reduceLT, Int.reduceNeg, Int.reduceAdd, Int.reduceSub, Int.reduceEq, Int.reduceLT, Int.reduceLE, reduceCtorEq, ↓reduceIte]
    refine call_same _ _ _ (copied_fun (flat b) _ (by omega)) ?_
    simp -implicitDefEqProofs (disch := (first | omega | (simp only [List.length_map, ByteArray.size_append, bsz, List.size_toArray, List.length_cons, List.length_nil]; omega))) only [go_sem, and_true, true_and, and_self, Int.natCast_nonneg, Nat.zero_add, Int.toNat_zero, Int.cast_ofNat_Int, nds, ne_eq, not_false_eq_true, not_true_eq_false, Nat.reduceAdd, Nat.reduceSub, Nat.reduceMul, Nat.reduceBEq, Nat.reduceEqDiff, Nat.reduceLeDiff, Nat.reduceLT, Int.reduceNeg, Int.reduceAdd, Int.reduceSub, Int.reduceEq, Int.reduceLT, Int.reduceLE, reduceCtorEq, ↓reduceIte]
    exact .plain
end Go.Proofs.Ytigelnkhggkmcaa
end
section
namespace Go.Proofs.Ytigelnkhggkmcaa
open Go.Abs Go.Abs.Pl
set_option linter.unusedSimpArgs false
set_option maxHeartbeats 4000000
set_option maxRecDepth 20000
theorem take_rev (l : List Nd) (m : Nat) (p : Nd) (h : l[m]? = some p) : (l.take (m + 1)).reverse = p :: (l.take m).reverse := by
  rw [List.take_succ, h]
  simp
theorem partsM_le (op : Int) : partsM op ≤ 2 := by unfold partsM; split <;> (try split) <;> omega
theorem Begin_fun (l : List Nd) (m : Nat) (σ : AH) (hl : l.length ≤ 100000) (hm : m ≤ l.length) : AFun Try.prog 111 [nds l, .int .i64 ((m : Int) - 1)] σ (.ret (.int .i64 (begM l m))) σ := by
  refine fun_code [] Try.func111 rfl rfl (by kernel_rfl) rfl ?_
  simp -implicitDefEqProofs (disch := (first | omega | (simp only [List.length_map, ByteArray.size_append, bsz, List.size_toArray, List.length_cons, List.length_nil]; omega))) only [go_sem, and_true, true_and, and_self, Int.natCast_nonneg, Nat.zero_add, Int.toNat_zero, Int.cast_ofNat_Int, Try.ntmps111, nds, ne_eq, not_false_eq_true, not_true_eq_false, Nat.reduceAdd, Nat.reduceSub, Nat.reduceMul, Nat.reduceBEq, Nat.reduceEqDiff, Nat.reduceLeDiff, Nat.reduceLT, Int.reduceNeg, Int.reduceAdd, Int.reduceSub, Int.reduceEq, Int.reduceLT, Int.reduceLE, reduceCtorEq, ↓reduceIte]
  refine loop_keep [(4, 6), (8, 23)] (fun j s τ => ∃ n : Nat, j ≤ m ∧ n + 2 * j ≤ 1 + 2 * m ∧ 0 < n ∧ begR (l.take j).reverse n = begR (l.take m).reverse 1 ∧ τ = σ ∧
    s = [(5, .int .i64 n), (6, .int .i64 ((j : Int) - 1))]) m _ ⟨1, by omega, by omega, by omega, rfl, rfl, rfl⟩ (by first | done | (simp -implicitDefEqProofs (disch := (first | omega | (simp only [List.length_map, ByteArray.size_append, bsz, List.size_toArray, List.length_cons, List.length_nil]; omega))) only [go_sem, and_true, true_and, and_self, Int.natCast_nonneg, Nat.zero_add, Int.toNat_zero, Int.cast_ofNat_Int, List.length_append, List.length_take, List.length_drop, List.length_cons, List.length_nil, Option.some.injEq, AV.own.injEq, AV.int.injEq, ne_eq, not_false_eq_true, not_true_eq_false, Nat.reduceAdd, Nat.reduceSub, Nat.reduceMul, Nat.reduceBEq, Nat.reduceEqDiff, Nat.reduceLeDiff, Nat.reduceLT, Int.reduceNeg, Int.reduceAdd, Int.reduceSub, Int.reduceEq, Int.reduceLT, Int.reduceLE, reduceCtorEq, ↓reduceIte]; done) | (simp -implicitDefEqProofs (disch := (first | omega | (simp only [List.length_map, ByteArray.size_append, bsz, List.size_toArray, List.length_cons, List.length_nil]; omega))) only [go_sem, and_true, true_and, and_self, Int.natCast_nonneg, Nat.zero_add, Int.toNat_zero, Int.cast_ofNat_Int, List.length_append, List.length_take, List.length_drop, List.length_cons, List.length_nil, Option.some.injEq, AV.own.injEq, AV.int.injEq, ne_eq, not_false_eq_true, not_true_eq_false, Nat.reduceAdd, Nat.reduceSub, Nat.reduceMul, Nat.reduceBEq, Nat.reduceEqDiff, Nat.reduceLeDiff, Nat.reduceLT, Int.reduceNeg, Int.reduceAdd, Int.reduceSub, Int.reduceEq, Int.reduceLT, Int.reduceLE, reduceCtorEq, ↓reduceIte]; omega) | (simp -implicitDefEqProofs (disch := (first | omega | (simp only [List.length_map, ByteArray.size_append, bsz, List.size_toArray, List.length_cons, List.length_nil]; omega))) only [go_sem, and_true, true_and, and_self, Int.natCast_nonneg, Nat.zero_add, Int.toNat_zero, Int.cast_ofNat_Int, List.length_append, List.length_take, List.length_drop, List.length_cons, List.length_nil, Option.some.injEq, AV.own.injEq, AV.int.injEq, ne_eq, not_false_eq_true, not_true_eq_false, Nat.reduceAdd, Nat.reduceSub, Nat.reduceMul, Nat.reduceBEq, Nat.reduceEqDiff, Nat.reduceLeDiff, Nat.reduceLT, Int.reduceNeg, Int.reduceAdd, Int.reduceSub, Int.reduceEq, Int.reduceLT, Int.reduceLE, reduceCtorEq, ↓reduceIte]; refine ⟨?_, ?_⟩ <;> congr 1 <;> omega)) ?_
  rintro j s g τ ⟨n, hj, hn, hn0, hM, rfl, rfl⟩
  cases j with
  | zero =>
    have h1 : ¬ (0 : Int) ≤ ((0 : Nat) : Int) - 1 := by omega
    simp -implicitDefEqProofs (disch := (first | omega | (simp only [List.length_map, ByteArray.size_append, bsz, List.size_toArray, List.length_cons, List.length_nil]; omega))) only [go_sem, and_true, true_and, and_self, Int.natCast_nonneg, Nat.zero_add, Int.toNat_zero, Int.cast_ofNat_Int, h1, ne_eq, not_false_eq_true, not_true_eq_false, Nat.reduceAdd, Nat.reduceSub, Nat.reduceMul, Nat.reduceBEq, Nat.reduceEqDiff, Nat.reduceLeDiff, Nat.reduceLT, Int.reduceNeg, Int.reduceAdd, Int.reduceSub, Int.reduceEq, Int.reduceLT, Int.reduceLE, reduceCtorEq, ↓reduceIte]
    refine Done.same ?_
    unfold begM
    rw [← hM]
    simp [begR]
  | succ j =>
    obtain ⟨p, hp⟩ : ∃ p, l[j]? = some p := ⟨_, List.getElem?_eq_getElem (by omega)⟩
    have e1 : (((j + 1 : Nat) : Int) - 1) = j := by omega
    have h2 : (j : Int) < l.length := by omega
    have hp2 := partsM_le p.1
    rw [take_rev l j p hp, begR] at hM
    simp -implicitDefEqProofs (disch := (first | omega | (simp only [List.length_map, ByteArray.size_append, bsz, List.size_toArray, List.length_cons, List.length_nil]; omega))) only [go_sem, and_true, true_and, and_self, Int.natCast_nonneg, Nat.zero_add, Int.toNat_zero, Int.cast_ofNat_Int, e1, hp, h2, nd, ne_eq, not_false_eq_true, not_true_eq_false, Nat.reduceAdd, Nat.reduceSub, Nat.reduceMul, Nat.reduceBEq, Nat.reduceEqDiff, Nat.reduceLeDiff, Nat.reduceLT, Int.reduceNeg, Int.reduceAdd, Int.reduceSub, Int.reduceEq, Int.reduceLT, Int.reduceLE, reduceCtorEq, ↓reduceIte]
    refine call_same _ _ _ (Parts0_fun _ _) ?_
    simp -implicitDefEqProofs (disch := (first | omega | (simp only [List.length_map, ByteArray.size_append, bsz, List.size_toArray, List.length_cons, List.length_nil]; omega))) only [go_sem, and_true, true_and, and_self, Int.natCast_nonneg, Nat.zero_add, Int.toNat_zero, Int.cast_ofNat_Int, ne_eq, not_false_eq_true, not_true_eq_false, Nat.reduceAdd, Nat.reduceSub, Nat.reduceMul, Nat.reduceBEq, Nat.reduceEqDiff, Nat.reduceLeDiff, Nat.reduceLT, Int.reduceNeg, Int.reduceAdd, Int.reduceSub, Int.reduceEq, Int.reduceLT, Int.reduceLE, reduceCtorEq, ↓reduceIte]
    by_cases h0 : n - 1 + partsM p.1 = 0
    · have h3 : (n : Int) - 1 + (partsM p.1 : Int) = 0 := by omega
      rw [if_pos h0] at hM
      simp -implicitDefEqProofs (disch := (first | omega | (simp only [List.length_map, ByteArray.size_append, bsz, List.size_toArray, List.length_cons, List.length_nil]; omega))) only [go_sem, and_true, true_and, and_self, Int.natCast_nonneg, Nat.zero_add, Int.toNat_zero, Int.cast_ofNat_Int, h3, ne_eq, not_false_eq_true, not_true_eq_false, Nat.reduceAdd, Nat.reduceSub, Nat.reduceMul, Nat.reduceBEq, Nat.reduceEqDiff, Nat.reduceLeDiff, Nat.reduceLT, Int.reduceNeg, Int.reduceAdd, Int.reduceSub, Int.reduceEq, Int.reduceLT, Int.reduceLE, reduceCtorEq, ↓reduceIte]
      refine Done.same ?_
      unfold begM
      rw [← hM]
      simp
      omega
    · have h3 : ¬ (n : Int) - 1 + (partsM p.1 : Int) = 0 := by omega
      rw [if_neg h0] at hM
      simp -implicitDefEqProofs (disch := (first | omega | (simp only [List.length_map, ByteArray.size_append, bsz, List.size_toArray, List.length_cons, List.length_nil]; omega))) only [go_sem, and_true, true_and, and_self, Int.natCast_nonneg, Nat.zero_add, Int.toNat_zero, Int.cast_ofNat_Int, h3, ne_eq, not_false_eq_true, not_true_eq_false, Nat.reduceAdd, Nat.reduceSub, Nat.reduceMul, Nat.reduceBEq, Nat.reduceEqDiff, Nat.reduceLeDiff, Nat.reduceLT, Int.reduceNeg, Int.reduceAdd, Int.reduceSub, Int.reduceEq, Int.reduceLT, Int.reduceLE, reduceCtorEq, ↓reduceIte]
      refine next_round j (by omega) _ ⟨n - 1 + partsM p.1, by omega, by omega, by omega, hM, rfl, rfl⟩ (by repeat (first | exact agree_ov _ _ _ | exact agree_self _ _ | refine agree_wr rfl ?_)) ?_
      simp -implicitDefEqProofs (disch := (first | omega | (simp only [List.length_map, ByteArray.size_append, bsz, List.size_toArray, List.length_cons, List.length_nil]; omega))) only [go_sem, and_true, true_and, and_self, Int.natCast_nonneg, Nat.zero_add, Int.toNat_zero, Int.cast_ofNat_Int, Option.some.injEq, AV.int.injEq, ne_eq, not_false_eq_true, not_true_eq_false, Nat.reduceAdd, Nat.reduceSub, Nat.reduceMul, Nat.reduceBEq, Nat.reduceEqDiff, Nat.reduceLeDiff, Nat.reduceLT, Int.reduceNeg, Int.reduceAdd, Int.reduceSub, Int.reduceEq, Int.reduceLT, Int.reduceLE, reduceCtorEq, ↓reduceIte]
      omega
theorem Depth0_fun : ∀ (t : Tr) (pre post l : List Nd) (σ : AH), l = pre ++ flat t ++ post → l.length ≤ 100000 → wf t →
    AFun Try.prog 112 [nds l, .int .i64 ((pre.length + sizeM t : Nat) - 1 : Int)] σ (.ret (.int .i64 (deepM t))) σ
  | .leaf p, pre, post, l, σ, hl, hn, hw => by
    have hx : l[pre.length]? = some p := by simp [hl, flat]
    have e : ((pre.length + sizeM (.leaf p) : Nat) : Int) - 1 = pre.length := by simp only [sizeM]; omega
    have hlt : (pre.length : Int) < l.length := by have := (List.getElem?_eq_some_iff.1 hx).1; omega
    rw [e]
    refine fun_code [] Try.func112 rfl rfl (by kernel_rfl) rfl ?_
    simp -implicitDefEqProofs (disch := (first | omega | (simp only [List.length_map, ByteArray.size_append, bsz, List.size_toArray, List.length_cons, List.length_nil]; omega))) only [go_sem, and_true, true_and, and_self, Int.natCast_nonneg, Nat.zero_add, Int.toNat_zero, Int.cast_ofNat_Int, Try.ntmps112, nds, hx, nd, hlt, ne_eq, not_false_eq_true, not_true_eq_false, Nat.reduceAdd, Nat.reduceSub, Nat.reduceMul, Nat.reduceBEq, Nat.reduceEqDiff, Nat.reduceLeDiff, Nat.reduceLT, Int.reduceNeg, Int.reduceAdd, Int.reduceSub, Int.reduceEq, Int.reduceLT, Int.reduceLE, reduceCtorEq, ↓reduceIte]
    refine call_same _ _ _ (Parts0_fun _ _) ?_
    rw [hw.2]
    simp -implicitDefEqProofs (disch := (first | omega | (simp only [List.length_map, ByteArray.size_append, bsz, List.size_toArray, List.length_cons, List.length_nil]; omega))) only [go_sem, and_true, true_and, and_self, Int.natCast_nonneg, Nat.zero_add, Int.toNat_zero, Int.cast_ofNat_Int, ne_eq, not_false_eq_true, not_true_eq_false, Nat.reduceAdd, Nat.reduceSub, Nat.reduceMul, Nat.reduceBEq, Nat.reduceEqDiff, Nat.reduceLeDiff, Nat.reduceLT, Int.reduceNeg, Int.reduceAdd, Int.reduceSub, Int.reduceEq, Int.reduceLT, Int.reduceLE, reduceCtorEq, ↓reduceIte]
    exact .plain
  | .turned t, pre, post, l, σ, hl, hn, hw => by
    have hx : l[pre.length + sizeM t]? = some (3, 0) := by
      have := flat_length t
      simp [hl, flat, ← this, List.getElem?_append_right]
    have e : ((pre.length + sizeM (.turned t) : Nat) : Int) - 1 = ((pre.length + sizeM t : Nat) : Int) := by simp only [sizeM]; omega
    have hlt : ((pre.length + sizeM t : Nat) : Int) < l.length := by have := (List.getElem?_eq_some_iff.1 hx).1; omega
    have ih := Depth0_fun t pre ((3, 0) :: post) l σ (by simp [hl, flat]) hn hw
    have hd := deep_le t
    rw [e]
    refine fun_code [] Try.func112 rfl rfl (by kernel_rfl) rfl ?_
    simp -implicitDefEqProofs (disch := (first | omega | (simp only [List.length_map, ByteArray.size_append, bsz, List.size_toArray, List.length_cons, List.length_nil]; omega))) only [go_sem, and_true, true_and, and_self, Int.natCast_nonneg, Nat.zero_add, Int.toNat_zero, Int.cast_ofNat_Int, Try.ntmps112, nds, hx, nd, hlt, ne_eq, not_false_eq_true, not_true_eq_false, Nat.reduceAdd, Nat.reduceSub, Nat.reduceMul, Nat.reduceBEq, Nat.reduceEqDiff, Nat.reduceLeDiff, Nat.reduceLT, Int.reduceNeg, Int.reduceAdd, Int.reduceSub, Int.reduceEq, Int.reduceLT, Int.reduceLE, reduceCtorEq, ↓reduceIte]
    refine call_same _ _ _ (Parts0_fun _ _) ?_
    simp only [show partsM 3 = 1 from rfl]
    simp -implicitDefEqProofs (disch := (first | omega | (simp only [List.length_map, ByteArray.size_append, bsz, List.size_toArray, List.length_cons, List.length_nil]; omega))) only [go_sem, and_true, true_and, and_self, Int.natCast_nonneg, Nat.zero_add, Int.toNat_zero, Int.cast_ofNat_Int, ne_eq, not_false_eq_true, not_true_eq_false, Nat.reduceAdd, Nat.reduceSub, Nat.reduceMul, Nat.reduceBEq, Nat.reduceEqDiff, Nat.reduceLeDiff, Nat.reduceLT, Int.reduceNeg, Int.reduceAdd, Int.reduceSub, Int.reduceEq, Int.reduceLT, Int.reduceLE, reduceCtorEq, ↓reduceIte]
    refine call_same _ _ _ ih ?_
    simp -implicitDefEqProofs (disch := (first | omega | (simp only [List.length_map, ByteArray.size_append, bsz, List.size_toArray, List.length_cons, List.length_nil]; omega))) only [go_sem, and_true, true_and, and_self, Int.natCast_nonneg, Nat.zero_add, Int.toNat_zero, Int.cast_ofNat_Int, ne_eq, not_false_eq_true, not_true_eq_false, Nat.reduceAdd, Nat.reduceSub, Nat.reduceMul, Nat.reduceBEq, Nat.reduceEqDiff, Nat.reduceLeDiff, Nat.reduceLT, Int.reduceNeg, Int.reduceAdd, Int.reduceSub, Int.reduceEq, Int.reduceLT, Int.reduceLE, reduceCtorEq, ↓reduceIte]
    refine Done.same ?_
    simp [deepM]
  | .pair o a b, pre, post, l, σ, hl, hn, hw => by
    have fa := flat_length a
    have fb := flat_length b
    have hx : l[pre.length + sizeM a + sizeM b]? = some (if o = true then 5 else 4, 0) := by
      simp [hl, flat, ← fa, ← fb, List.getElem?_append_right, Nat.add_assoc]
    have e : ((pre.length + sizeM (.pair o a b) : Nat) : Int) - 1 = ((pre.length + sizeM a + sizeM b : Nat) : Int) := by simp only [sizeM]; omega
    have hlt : ((pre.length + sizeM a + sizeM b : Nat) : Int) < l.length := by have := (List.getElem?_eq_some_iff.1 hx).1; omega
    have ihb := Depth0_fun b (pre ++ flat a) ((if o = true then 5 else 4, 0) :: post) l σ (by simp [hl, flat]) hn hw.2
    have iha := Depth0_fun a pre (flat b ++ (if o = true then 5 else 4, 0) :: post) l σ (by simp [hl, flat]) hn hw.1
    have hb := Begin_fun l (pre.length + sizeM a + sizeM b) σ hn (by omega)
    have hB : begM l (pre.length + sizeM a + sizeM b) = (pre.length + sizeM a : Nat) := by
      have := begM_flat b (pre ++ flat a) ((if o = true then 5 else 4, 0) :: post) hw.2
      rw [List.length_append, fa] at this
      rw [← this, hl]
      simp [flat]
    rw [hB] at hb
    rw [List.length_append, fa] at ihb
    have hda := deep_le a
    have hdb := deep_le b
    have hp : partsM (if o = true then 5 else 4) = 2 := by cases o <;> rfl
    rw [e]
    refine fun_code [] Try.func112 rfl rfl (by kernel_rfl) rfl ?_
    simp -implicitDefEqProofs (disch := (first | omega | (simp only [List.length_map, ByteArray.size_append, bsz, List.size_toArray, List.length_cons, List.length_nil]; omega))) only [go_sem, and_true, true_and, and_self, Int.natCast_nonneg, Nat.zero_add, Int.toNat_zero, Int.cast_ofNat_Int, Try.ntmps112, nds, hx, nd, hlt, ne_eq, not_false_eq_true, not_true_eq_false, Nat.reduceAdd, Nat.reduceSub, Nat.reduceMul, Nat.reduceBEq, Nat.reduceEqDiff, Nat.reduceLeDiff, Nat.reduceLT, Int.reduceNeg, Int.reduceAdd, Int.reduceSub, Int.reduceEq, Int.reduceLT, Int.reduceLE, reduceCtorEq, ↓reduceIte]
    refine call_same _ _ _ (Parts0_fun _ _) ?_
    rw [hp]
    simp -implicitDefEqProofs (disch := (first | omega | (simp only [List.length_map, ByteArray.size_append, bsz, List.size_toArray, List.length_cons, List.length_nil]; omega))) only [go_sem, and_true, true_and, and_self, Int.natCast_nonneg, Nat.zero_add, Int.toNat_zero, Int.cast_ofNat_Int, ne_eq, not_false_eq_true, not_true_eq_false, Nat.reduceAdd, Nat.reduceSub, Nat.reduceMul, Nat.reduceBEq, Nat.reduceEqDiff, Nat.reduceLeDiff, Nat.reduceLT, Int.reduceNeg, Int.reduceAdd, Int.reduceSub, Int.reduceEq, Int.reduceLT, Int.reduceLE, reduceCtorEq, ↓reduceIte]
    refine call_same _ _ _ ihb ?_
    simp -implicitDefEqProofs (disch := (first | omega | (simp only [List.length_map, ByteArray.size_append, bsz, List.size_toArray, List.length_cons, List.length_nil]; omega))) only [go_sem, and_true, true_and, and_self, Int.natCast_nonneg, Nat.zero_add, Int.toNat_zero, Int.cast_ofNat_Int, ne_eq, not_false_eq_true, not_true_eq_false, Nat.reduceAdd, Nat.reduceSub, Nat.reduceMul, Nat.reduceBEq, Nat.reduceEqDiff, Nat.reduceLeDiff, Nat.reduceLT, Int.reduceNeg, Int.reduceAdd, Int.reduceSub, Int.reduceEq, Int.reduceLT, Int.reduceLE, reduceCtorEq, ↓reduceIte]
    refine call_same _ _ _ hb ?_
    simp -implicitDefEqProofs (disch := (first | omega | (simp only [List.length_map, ByteArray.size_append, bsz, List.size_toArray, List.length_cons, List.length_nil]; omega))) only [go_sem, and_true, true_and, and_self, Int.natCast_nonneg, Nat.zero_add, Int.toNat_zero, Int.cast_ofNat_Int, ne_eq, not_false_eq_true, not_true_eq_false, Nat.reduceAdd, Nat.reduceSub, Nat.reduceMul, Nat.reduceBEq, Nat.reduceEqDiff, Nat.reduceLeDiff, Nat.reduceLT, Int.reduceNeg, Int.reduceAdd, Int.reduceSub, Int.reduceEq, Int.reduceLT, Int.reduceLE, reduceCtorEq, ↓reduceIte]
    refine call_same _ _ _ iha ?_
    simp -implicitDefEqProofs (disch := (first | omega | (simp only [List.length_map, ByteArray.size_append, bsz, List.size_toArray, List.length_cons, List.length_nil]; omega))) only [go_sem, and_true, true_and, and_self, Int.natCast_nonneg, Nat.zero_add, Int.toNat_zero, Int.cast_ofNat_Int, ne_eq, not_false_eq_true, not_true_eq_false, Nat.reduceAdd, Nat.reduceSub, Nat.reduceMul, Nat.reduceBEq, Nat.reduceEqDiff, Nat.reduceLeDiff, Nat.reduceLT, Int.reduceNeg, Int.reduceAdd, Int.reduceSub, Int.reduceEq, Int.reduceLT, Int.reduceLE, reduceCtorEq, ↓reduceIte]
    refine Done.same ?_
    simp only [deepM, AV.int.injEq, true_and]
    omega
theorem RCheck_fun (l : List Nd) (σ : AH) (hl : l.length ≤ 100000) : AFun Try.prog 37 [nds l] σ (.ret (.int .i64 (checkM l))) σ := by
  by_cases h1 : (31 : Int) < l.length
  · refine fun_code [] Try.func37 rfl rfl (by kernel_rfl) rfl ?_
    simp -implicitDefEqProofs (disch := (first | omega | (simp only [List.length_map, ByteArray.size_append, bsz, List.size_toArray, List.length_cons, List.length_nil]; omega))) only [go_sem, and_true, true_and, and_self, Int.natCast_nonneg, Nat.zero_add, Int.toNat_zero, Int.cast_ofNat_Int, Try.ntmps37, nds, h1, ne_eq, not_false_eq_true, not_true_eq_false, Nat.reduceAdd, Nat.reduceSub, Nat.reduceMul, Nat.reduceBEq, Nat.reduceEqDiff, Nat.reduceLeDiff, Nat.reduceLT, Int.reduceNeg, Int.reduceAdd, Int.reduceSub, Int.reduceEq, Int.reduceLT, Int.reduceLE, reduceCtorEq, ↓reduceIte]
    refine Done.same ?_
    simp only [checkM]
    rw [if_pos (by omega)]
    rfl
  · have hc : checkM l = match madeM l with
      | none => 1
      | some t => if 8 < deepM t then 4 else 0 := by unfold checkM; rw [if_neg (by omega)]; rfl
    refine fun_code [] Try.func37 rfl rfl (by kernel_rfl) rfl ?_
    simp -implicitDefEqProofs (disch := (first | omega | (simp only [List.length_map, ByteArray.size_append, bsz, List.size_toArray, List.length_cons, List.length_nil]; omega))) only [go_sem, and_true, true_and, and_self, Int.natCast_nonneg, Nat.zero_add, Int.toNat_zero, Int.cast_ofNat_Int, Try.ntmps37, nds, h1, ne_eq, not_false_eq_true, not_true_eq_false, Nat.reduceAdd, Nat.reduceSub, Nat.reduceMul, Nat.reduceBEq, Nat.reduceEqDiff, Nat.reduceLeDiff, Nat.reduceLT, Int.reduceNeg, Int.reduceAdd, Int.reduceSub, Int.reduceEq, Int.reduceLT, Int.reduceLE, reduceCtorEq, ↓reduceIte]
    refine loop_keep [(2, 3), (7, 18)] (fun j s τ => ∃ k : Nat, k + j = l.length ∧ (∀ p ∈ l.take k, mayM p = true) ∧ τ = σ ∧ s = [(3, .int .i64 k)]) l.length _ ⟨0, by omega, by simp, rfl, rfl⟩ (by first | done | (simp -implicitDefEqProofs (disch := (first | omega | (simp only [List.length_map, ByteArray.size_append, bsz, List.size_toArray, List.length_cons, List.length_nil]; omega))) only [go_sem, and_true, true_and, and_self, Int.natCast_nonneg, Nat.zero_add, Int.toNat_zero, Int.cast_ofNat_Int, List.length_append, List.length_take, List.length_drop, List.length_cons, List.length_nil, Option.some.injEq, AV.own.injEq, AV.int.injEq, ne_eq, not_false_eq_true, not_true_eq_false, Nat.reduceAdd, Nat.reduceSub, Nat.reduceMul, Nat.reduceBEq, Nat.reduceEqDiff, Nat.reduceLeDiff, Nat.reduceLT, Int.reduceNeg, Int.reduceAdd, Int.reduceSub, Int.reduceEq, Int.reduceLT, Int.reduceLE, reduceCtorEq, ↓reduceIte]; done) | (simp -implicitDefEqProofs (disch := (first | omega | (simp only [List.length_map, ByteArray.size_append, bsz, List.size_toArray, List.length_cons, List.length_nil]; omega))) only [go_sem, and_true, true_and, and_self, Int.natCast_nonneg, Nat.zero_add, Int.toNat_zero, Int.cast_ofNat_Int, List.length_append, List.length_take, List.length_drop, List.length_cons, List.length_nil, Option.some.injEq, AV.own.injEq, AV.int.injEq, ne_eq, not_false_eq_true, not_true_eq_false, Nat.reduceAdd, Nat.reduceSub, Nat.reduceMul, Nat.reduceBEq, Nat.reduceEqDiff, Nat.reduceLeDiff, Nat.reduceLT, Int.reduceNeg, Int.reduceAdd, Int.reduceSub, Int.reduceEq, Int.reduceLT, Int.reduceLE, reduceCtorEq, ↓reduceIte]; omega) | (simp -implicitDefEqProofs (disch := (first | omega | (simp only [List.length_map, ByteArray.size_append, bsz, List.size_toArray, List.length_cons, List.length_nil]; omega))) only [go_sem, and_true, true_and, and_self, Int.natCast_nonneg, Nat.zero_add, Int.toNat_zero, Int.cast_ofNat_Int, List.length_append, List.length_take, List.length_drop, List.length_cons, List.length_nil, Option.some.injEq, AV.own.injEq, AV.int.injEq, ne_eq, not_false_eq_true, not_true_eq_false, Nat.reduceAdd, Nat.reduceSub, Nat.reduceMul, Nat.reduceBEq, Nat.reduceEqDiff, Nat.reduceLeDiff, Nat.reduceLT, Int.reduceNeg, Int.reduceAdd, Int.reduceSub, Int.reduceEq, Int.reduceLT, Int.reduceLE, reduceCtorEq, ↓reduceIte]; refine ⟨?_, ?_⟩ <;> congr 1 <;> omega)) ?_
    rintro j s g τ ⟨k, hk, hmay, rfl, rfl⟩
    cases j with
    | succ j =>
      obtain ⟨p, hp⟩ : ∃ p, l[k]? = some p := ⟨_, List.getElem?_eq_getElem (by omega)⟩
      have h2 : (k : Int) < l.length := by omega
      simp -implicitDefEqProofs (disch := (first | omega | (simp only [List.length_map, ByteArray.size_append, bsz, List.size_toArray, List.length_cons, List.length_nil]; omega))) only [go_sem, and_true, true_and, and_self, Int.natCast_nonneg, Nat.zero_add, Int.toNat_zero, Int.cast_ofNat_Int, h2, hp, nd, ne_eq, not_false_eq_true, not_true_eq_false, Nat.reduceAdd, Nat.reduceSub, Nat.reduceMul, Nat.reduceBEq, Nat.reduceEqDiff, Nat.reduceLeDiff, Nat.reduceLT, Int.reduceNeg, Int.reduceAdd, Int.reduceSub, Int.reduceEq, Int.reduceLT, Int.reduceLE, reduceCtorEq, ↓reduceIte]
      refine call_same _ _ _ (May_fun p _) ?_
      cases hm : mayM p with
      | true =>
        simp -implicitDefEqProofs (disch := (first | omega | (simp only [List.length_map, ByteArray.size_append, bsz, List.size_toArray, List.length_cons, List.length_nil]; omega))) only [go_sem, and_true, true_and, and_self, Int.natCast_nonneg, Nat.zero_add, Int.toNat_zero, Int.cast_ofNat_Int, ne_eq, not_false_eq_true, not_true_eq_false, Nat.reduceAdd, Nat.reduceSub, Nat.reduceMul, Nat.reduceBEq, Nat.reduceEqDiff, Nat.reduceLeDiff, Nat.reduceLT, Int.reduceNeg, Int.reduceAdd, Int.reduceSub, Int.reduceEq, Int.reduceLT, Int.reduceLE, reduceCtorEq, ↓reduceIte]
        refine next_round j (by omega) _ ⟨k + 1, by omega, ?_, rfl, rfl⟩ (by repeat (first | exact agree_ov _ _ _ | exact agree_self _ _ | refine agree_wr rfl ?_)) (by first | done | (simp -implicitDefEqProofs (disch := (first | omega | (simp only [List.length_map, ByteArray.size_append, bsz, List.size_toArray, List.length_cons, List.length_nil]; omega))) only [go_sem, and_true, true_and, and_self, Int.natCast_nonneg, Nat.zero_add, Int.toNat_zero, Int.cast_ofNat_Int, List.length_append, List.length_take, List.length_drop, List.length_cons, List.length_nil, Option.some.injEq, AV.own.injEq, AV.int.injEq, ne_eq, not_false_eq_true, not_true_eq_false, Nat.reduceAdd, Nat.reduceSub, Nat.reduceMul, Nat.reduceBEq, Nat.reduceEqDiff, Nat.reduceLeDiff, Nat.reduceLT, Int.reduceNeg, Int.reduceAdd, Int.reduceSub, Int.reduceEq, Int.reduceLT, Int.reduceLE, reduceCtorEq, ↓reduceIte]; done) | (simp -implicitDefEqProofs (disch := (first | omega | (simp only [List.length_map, ByteArray.size_append, bsz, List.size_toArray, List.length_cons, List.length_nil]; omega))) only [go_sem, and_true, true_and, and_self, Int.natCast_nonneg, Nat.zero_add, Int.toNat_zero, Int.cast_ofNat_Int, List.length_append, List.length_take, List.length_drop, List.length_cons, List.length_nil, Option.some.injEq, AV.own.injEq, AV.int.injEq, ne_eq, not_false_eq_true, not_true_eq_false, Nat.reduceAdd, Nat.reduceSub, Nat.reduceMul, Nat.reduceBEq, Nat.reduceEqDiff, Nat.reduceLeDiff, Nat.reduceLT, Int.reduceNeg, Int.reduceAdd, Int.reduceSub, Int.reduceEq, Int.reduceLT, Int.reduceLE, reduceCtorEq, ↓reduceIte]; omega) | (simp -implicitDefEqProofs (disch := (first | omega | (simp only [List.length_map, ByteArray.size_append, bsz, List.size_toArray, List.length_cons, List.length_nil]; omega))) only [go_sem, and_true, true_and, and_self, Int.natCast_nonneg, Nat.zero_add, Int.toNat_zero, Int.cast_ofNat_Int, List.length_append, List.length_take, List.length_drop, List.length_cons, List.length_nil, Option.some.injEq, AV.own.injEq, AV.int.injEq, ne_eq, not_false_eq_true, not_true_eq_false, Nat.reduceAdd, Nat.reduceSub, Nat.reduceMul, Nat.reduceBEq, Nat.reduceEqDiff, Nat.reduceLeDiff, Nat.reduceLT, Int.reduceNeg, Int.reduceAdd, Int.reduceSub, Int.reduceEq, Int.reduceLT, Int.reduceLE, reduceCtorEq, ↓reduceIte]; refine ⟨?_, ?_⟩ <;> congr 1 <;> omega))
        rw [List.take_succ, hp]
        intro q hq
        rcases List.mem_append.1 hq with hq | hq
        · exact hmay q hq
        · simp at hq
          subst hq
          exact hm
      | false =>
        have hno : madeM l = none := by
          cases hx : madeM l with
          | none => rfl
          | some t =>
            have := ((made_none_iff l).1 ⟨t, hx⟩).1 p (List.mem_of_getElem? hp)
            rw [hm] at this
            cases this
        simp -implicitDefEqProofs (disch := (first | omega | (simp only [List.length_map, ByteArray.size_append, bsz, List.size_toArray, List.length_cons, List.length_nil]; omega))) only [go_sem, and_true, true_and, and_self, Int.natCast_nonneg, Nat.zero_add, Int.toNat_zero, Int.cast_ofNat_Int, ne_eq, not_false_eq_true, not_true_eq_false, Nat.reduceAdd, Nat.reduceSub, Nat.reduceMul, Nat.reduceBEq, Nat.reduceEqDiff, Nat.reduceLeDiff, Nat.reduceLT, Int.reduceNeg, Int.reduceAdd, Int.reduceSub, Int.reduceEq, Int.reduceLT, Int.reduceLE, reduceCtorEq, ↓reduceIte]
        rw [hc, hno]
        exact .plain
    | zero =>
      have hk' : l.take k = l := List.take_of_length_le (by omega)
      rw [hk'] at hmay
      have h2 : ¬ (k : Int) < l.length := by omega
      simp -implicitDefEqProofs (disch := (first | omega | (simp only [List.length_map, ByteArray.size_append, bsz, List.size_toArray, List.length_cons, List.length_nil]; omega))) only [go_sem, and_true, true_and, and_self, Int.natCast_nonneg, Nat.zero_add, Int.toNat_zero, Int.cast_ofNat_Int, h2, ne_eq, not_false_eq_true, not_true_eq_false, Nat.reduceAdd, Nat.reduceSub, Nat.reduceMul, Nat.reduceBEq, Nat.reduceEqDiff, Nat.reduceLeDiff, Nat.reduceLT, Int.reduceNeg, Int.reduceAdd, Int.reduceSub, Int.reduceEq, Int.reduceLT, Int.reduceLE, reduceCtorEq, ↓reduceIte]
      by_cases h0 : l.length = 0
      · have hl0 : l = [] := List.eq_nil_of_length_eq_zero h0
        subst hl0
        simp -implicitDefEqProofs (disch := (first | omega | (simp only [List.length_map, ByteArray.size_append, bsz, List.size_toArray, List.length_cons, List.length_nil]; omega))) only [go_sem, and_true, true_and, and_self, Int.natCast_nonneg, Nat.zero_add, Int.toNat_zero, Int.cast_ofNat_Int, ne_eq, not_false_eq_true, not_true_eq_false, Nat.reduceAdd, Nat.reduceSub, Nat.reduceMul, Nat.reduceBEq, Nat.reduceEqDiff, Nat.reduceLeDiff, Nat.reduceLT, Int.reduceNeg, Int.reduceAdd, Int.reduceSub, Int.reduceEq, Int.reduceLT, Int.reduceLE, reduceCtorEq, ↓reduceIte]
        rw [hc]
        exact .plain
      · have h3 : ¬ (l.length : Int) = 0 := by omega
        simp -implicitDefEqProofs (disch := (first | omega | (simp only [List.length_map, ByteArray.size_append, bsz, List.size_toArray, List.length_cons, List.length_nil]; omega))) only [go_sem, and_true, true_and, and_self, Int.natCast_nonneg, Nat.zero_add, Int.toNat_zero, Int.cast_ofNat_Int, h3, ne_eq, not_false_eq_true, not_true_eq_false, Nat.reduceAdd, Nat.reduceSub, Nat.reduceMul, Nat.reduceBEq, Nat.reduceEqDiff, Nat.reduceLeDiff, Nat.reduceLT, Int.reduceNeg, Int.reduceAdd, Int.reduceSub, Int.reduceEq, Int.reduceLT, Int.reduceLE, reduceCtorEq, ↓reduceIte]
        refine call_same _ _ _ (Begin_fun l l.length _ hl (Nat.le_refl _)) ?_
        by_cases h4 : begM l l.length = 0
        · obtain ⟨t, ht⟩ := (made_none_iff l).2 ⟨hmay, fun h => h0 (by rw [h]; rfl), (begM_zero l).1 h4⟩
          obtain ⟨hw, hf⟩ := (made_iff l t).1 ht
          have hd := Depth0_fun t [] [] l τ (by simp [hf]) hl hw
          have fl := flat_length t
          rw [hf] at fl
          rw [List.length_nil, Nat.zero_add, ← fl] at hd
          simp -implicitDefEqProofs (disch := (first | omega | (simp only [List.length_map, ByteArray.size_append, bsz, List.size_toArray, List.length_cons, List.length_nil]; omega))) only [go_sem, and_true, true_and, and_self, Int.natCast_nonneg, Nat.zero_add, Int.toNat_zero, Int.cast_ofNat_Int, h4, ne_eq, not_false_eq_true, not_true_eq_false, Nat.reduceAdd, Nat.reduceSub, Nat.reduceMul, Nat.reduceBEq, Nat.reduceEqDiff, Nat.reduceLeDiff, Nat.reduceLT, Int.reduceNeg, Int.reduceAdd, Int.reduceSub, Int.reduceEq, Int.reduceLT, Int.reduceLE, reduceCtorEq, ↓reduceIte]
          refine call_same _ _ _ hd ?_
          rw [hc, ht]
          by_cases h5 : (8 : Int) < deepM t
          · simp -implicitDefEqProofs (disch := (first | omega | (simp only [List.length_map, ByteArray.size_append, bsz, List.size_toArray, List.length_cons, List.length_nil]; omega))) only [go_sem, and_true, true_and, and_self, Int.natCast_nonneg, Nat.zero_add, Int.toNat_zero, Int.cast_ofNat_Int, h5, ne_eq, not_false_eq_true, not_true_eq_false, Nat.reduceAdd, Nat.reduceSub, Nat.reduceMul, Nat.reduceBEq, Nat.reduceEqDiff, Nat.reduceLeDiff, Nat.reduceLT, Int.reduceNeg, Int.reduceAdd, Int.reduceSub, Int.reduceEq, Int.reduceLT, Int.reduceLE, reduceCtorEq, ↓reduceIte]
            refine Done.same ?_
            rw [if_pos (by omega)]; rfl
          · simp -implicitDefEqProofs (disch := (first | omega | (simp only [List.length_map, ByteArray.size_append, bsz, List.size_toArray, List.length_cons, List.length_nil]; omega))) only [go_sem, and_true, true_and, and_self, Int.natCast_nonneg, Nat.zero_add, Int.toNat_zero, Int.cast_ofNat_Int, h5, ne_eq, not_false_eq_true, not_true_eq_false, Nat.reduceAdd, Nat.reduceSub, Nat.reduceMul, Nat.reduceBEq, Nat.reduceEqDiff, Nat.reduceLeDiff, Nat.reduceLT, Int.reduceNeg, Int.reduceAdd, Int.reduceSub, Int.reduceEq, Int.reduceLT, Int.reduceLE, reduceCtorEq, ↓reduceIte]
            refine Done.same ?_
            rw [if_neg (by omega)]; rfl
        · have hno : madeM l = none := by
            cases hx : madeM l with
            | none => rfl
            | some t => exact absurd ((begM_zero l).2 ((made_none_iff l).1 ⟨t, hx⟩).2.2) h4
          simp -implicitDefEqProofs (disch := (first | omega | (simp only [List.length_map, ByteArray.size_append, bsz, List.size_toArray, List.length_cons, List.length_nil]; omega))) only [go_sem, and_true, true_and, and_self, Int.natCast_nonneg, Nat.zero_add, Int.toNat_zero, Int.cast_ofNat_Int, h4, ne_eq, not_false_eq_true, not_true_eq_false, Nat.reduceAdd, Nat.reduceSub, Nat.reduceMul, Nat.reduceBEq, Nat.reduceEqDiff, Nat.reduceLeDiff, Nat.reduceLT, Int.reduceNeg, Int.reduceAdd, Int.reduceSub, Int.reduceEq, Int.reduceLT, Int.reduceLE, reduceCtorEq, ↓reduceIte]
          rw [hc, hno]
          exact .plain
end Go.Proofs.Ytigelnkhggkmcaa
end
section
namespace Go.Proofs.Ytigelnkhggkmcaa
open Go.Abs Go.Abs.Pl
set_option linter.unusedSimpArgs false
set_option maxHeartbeats 4000000
set_option maxRecDepth 20000
theorem noEscape_fun (x : AV) (σ : AH) : AFun Try.prog 225 [x] σ (.ret x) σ := by
  refine ARun.ext (fn := Try.f225) (e := Extern.AbiNoEscape.same) rfl (by kernel_rfl) (by kernel_rfl) (by kernel_rfl) (by kernel_rfl) fun z w vs hI hR => ?_
  obtain ⟨u, us, e, hr, hn⟩ := hR
  rw [show us = [] from hn] at e
  have ev : vs = #[u] := by apply Array.ext'; rw [e]
  subst ev
  exact ⟨u, rfl, hr⟩
/-- A strings.Builder: its own address, its bytes. -/
def bld (a b : AV) : ARow := avar 151 2 (.agg [a, b])
theorem bld_sz (a b : AV) : (bld a b).sz = 2 := rfl
theorem bld_hw (a b : AV) : (bld a b).hw = 1 := rfl
theorem bld_xs (a b : AV) : (bld a b).xs = [.agg [a, b]] := rfl
theorem bld_kd (a b : AV) : (bld a b).kd = .of 151 := rfl
theorem bld_fold (a b : AV) : (⟨2, 1, [.agg [a, b]], .of 151⟩ : ARow) = bld a b := rfl
theorem copy1_fun (σ g : AH) (b : AV) (hb : okA b = true) : AFun Try.prog 181 [.ptr σ.length 1 0 0] (σ ++ bld .nilptr b :: g) (.ret (.tuple [])) (σ ++ bld (.ptr σ.length 1 0 0) b :: g) := by
  refine fun_code [] Try.func181 rfl rfl (by kernel_rfl) rfl ?_
  simp -implicitDefEqProofs (disch := (first | omega | (simp only [List.length_map, ByteArray.size_append, bsz, List.size_toArray, List.length_cons, List.length_nil]; omega))) only [go_sem, and_true, true_and, and_self, Int.natCast_nonneg, Nat.zero_add, Int.toNat_zero, Int.cast_ofNat_Int, Try.ntmps181, bld_sz, bld_hw, bld_xs, bld_kd, hb, ne_eq, not_false_eq_true, not_true_eq_false, Nat.reduceAdd, Nat.reduceSub, Nat.reduceMul, Nat.reduceBEq, Nat.reduceEqDiff, Nat.reduceLeDiff, Nat.reduceLT, Int.reduceNeg, Int.reduceAdd, Int.reduceSub, Int.reduceEq, Int.reduceLT, Int.reduceLE, reduceCtorEq, ↓reduceIte]
  refine call_same _ _ _ (noEscape_fun _ _) ?_
  simp -implicitDefEqProofs (disch := (first | omega | (simp only [List.length_map, ByteArray.size_append, bsz, List.size_toArray, List.length_cons, List.length_nil]; omega))) only [go_sem, and_true, true_and, and_self, Int.natCast_nonneg, Nat.zero_add, Int.toNat_zero, Int.cast_ofNat_Int, bld_sz, bld_hw, bld_xs, bld_kd, hb, ne_eq, not_false_eq_true, not_true_eq_false, Nat.reduceAdd, Nat.reduceSub, Nat.reduceMul, Nat.reduceBEq, Nat.reduceEqDiff, Nat.reduceLeDiff, Nat.reduceLT, Int.reduceNeg, Int.reduceAdd, Int.reduceSub, Int.reduceEq, Int.reduceLT, Int.reduceLE, reduceCtorEq, ↓reduceIte]
  exact .plain
theorem copy2_fun (σ g : AH) (b : AV) : AFun Try.prog 181 [.ptr σ.length 1 0 0] (σ ++ bld (.ptr σ.length 1 0 0) b :: g) (.ret (.tuple [])) (σ ++ bld (.ptr σ.length 1 0 0) b :: g) := by
  refine fun_code [] Try.func181 rfl rfl (by kernel_rfl) rfl ?_
  simp -implicitDefEqProofs (disch := (first | omega | (simp only [List.length_map, ByteArray.size_append, bsz, List.size_toArray, List.length_cons, List.length_nil]; omega))) only [go_sem, and_true, true_and, and_self, Int.natCast_nonneg, Nat.zero_add, Int.toNat_zero, Int.cast_ofNat_Int, Try.ntmps181, bld_sz, bld_hw, bld_xs, bld_kd, ne_eq, not_false_eq_true, not_true_eq_false, Nat.reduceAdd, Nat.reduceSub, Nat.reduceMul, Nat.reduceBEq, Nat.reduceEqDiff, Nat.reduceLeDiff, Nat.reduceLT, Int.reduceNeg, Int.reduceAdd, Int.reduceSub, Int.reduceEq, Int.reduceLT, Int.reduceLE, reduceCtorEq, ↓reduceIte]
  exact .plain
theorem ptrElem : ptrE Try.prog 246 = some 5 := by kernel_rfl
/-- A builder that holds a text. -/
def IsB (σ : AH) (t : ByteArray) (τ : AH) : Prop := (t = .empty ∧ τ = σ ++ [bld .nilptr .nilsl]) ∨
  ∃ hw, τ = σ ++ [bld (.ptr σ.length 1 0 0) (.own (σ.length + 1) 1 hw 0 t.size), arow 5 1 hw (bytesA t)]
theorem write_fun (σ τ : AH) (t s : ByteArray) (hB : IsB σ t τ) (ht : t.size ≤ 1000000000000) (hs : s.size ≤ 1000000000000) :
    ∃ τ', (IsB σ (t ++ s) τ' ∧ (0 < t.size + s.size → ∃ hw, τ' = σ ++ [bld (.ptr σ.length 1 0 0) (.own (σ.length + 1) 1 hw 0 (t ++ s).size), arow 5 1 hw (bytesA (t ++ s))])) ∧
      AFun Try.prog 96 [.ptr σ.length 1 0 0, .str s] τ (.ret (.tuple [.int .i64 s.size, .nilIface])) τ' := by
  rcases hB with ⟨rfl, rfl⟩ | ⟨hw, rfl⟩
  · have e : ByteArray.empty ++ s = s := by simp
    rw [e]
    refine ⟨_, ⟨.inr ⟨s.size, rfl⟩, fun _ => ⟨s.size, rfl⟩⟩, ?_⟩
    refine fun_code [14] Try.func96 rfl rfl (by kernel_rfl) rfl ?_
    simp -implicitDefEqProofs (disch := (first | omega | (simp only [List.length_map, ByteArray.size_append, bsz, List.size_toArray, List.length_cons, List.length_nil]; omega))) only [go_sem, and_true, true_and, and_self, Int.natCast_nonneg, Nat.zero_add, Int.toNat_zero, Int.cast_ofNat_Int, Try.ntmps96, bld_sz, bld_hw, bld_xs, bld_kd, ne_eq, not_false_eq_true, not_true_eq_false, Nat.reduceAdd, Nat.reduceSub, Nat.reduceMul, Nat.reduceBEq, Nat.reduceEqDiff, Nat.reduceLeDiff, Nat.reduceLT, Int.reduceNeg, Int.reduceAdd, Int.reduceSub, Int.reduceEq, Int.reduceLT, Int.reduceLE, reduceCtorEq, ↓reduceIte]
    refine call_ret _ _ _ (copy1_fun σ [] .nilsl rfl) ?_
    simp -implicitDefEqProofs (disch := (first | omega | (simp only [List.length_map, ByteArray.size_append, bsz, List.size_toArray, List.length_cons, List.length_nil]; omega))) only [go_sem, and_true, true_and, and_self, Int.natCast_nonneg, Nat.zero_add, Int.toNat_zero, Int.cast_ofNat_Int, bld_sz, bld_hw, bld_xs, bld_kd, bytesA_length, ne_eq, not_false_eq_true, not_true_eq_false, Nat.reduceAdd, Nat.reduceSub, Nat.reduceMul, Nat.reduceBEq, Nat.reduceEqDiff, Nat.reduceLeDiff, Nat.reduceLT, Int.reduceNeg, Int.reduceAdd, Int.reduceSub, Int.reduceEq, Int.reduceLT, Int.reduceLE, reduceCtorEq, ↓reduceIte]
    exact .at rfl rfl
  · have e : (t ++ s).size = t.size + s.size := ByteArray.size_append
    refine ⟨_, ⟨.inr ⟨max hw (t.size + s.size), rfl⟩, fun _ => ⟨max hw (t.size + s.size), rfl⟩⟩, ?_⟩
    refine fun_code [14] Try.func96 rfl rfl (by kernel_rfl) rfl ?_
    simp -implicitDefEqProofs (disch := (first | omega | (simp only [List.length_map, ByteArray.size_append, bsz, List.size_toArray, List.length_cons, List.length_nil]; omega))) only [go_sem, and_true, true_and, and_self, Int.natCast_nonneg, Nat.zero_add, Int.toNat_zero, Int.cast_ofNat_Int, Try.ntmps96, bld_sz, bld_hw, bld_xs, bld_kd, ne_eq, not_false_eq_true, not_true_eq_false, Nat.reduceAdd, Nat.reduceSub, Nat.reduceMul, Nat.reduceBEq, Nat.reduceEqDiff, Nat.reduceLeDiff, Nat.reduceLT, Int.reduceNeg, Int.reduceAdd, Int.reduceSub, Int.reduceEq, Int.reduceLT, Int.reduceLE, reduceCtorEq, ↓reduceIte]
    refine call_ret _ _ _ (copy2_fun σ [arow 5 1 hw (bytesA t)] _) ?_
    simp -implicitDefEqProofs (disch := (first | omega | (simp only [List.length_map, ByteArray.size_append, bsz, List.size_toArray, List.length_cons, List.length_nil]; omega))) only [go_sem, and_true, true_and, and_self, Int.natCast_nonneg, Nat.zero_add, Int.toNat_zero, Int.cast_ofNat_Int, bld_sz, bld_hw, bld_xs, bld_kd, bytesA_length, ne_eq, not_false_eq_true, not_true_eq_false, Nat.reduceAdd, Nat.reduceSub, Nat.reduceMul, Nat.reduceBEq, Nat.reduceEqDiff, Nat.reduceLeDiff, Nat.reduceLT, Int.reduceNeg, Int.reduceAdd, Int.reduceSub, Int.reduceEq, Int.reduceLT, Int.reduceLE, reduceCtorEq, ↓reduceIte]
    refine .at rfl ?_
    rw [bytesA_append, List.take_of_length_le (by rw [bytesA_length]; exact Nat.le_refl _)]
    rfl
theorem string0_fun (σ : AH) : AFun Try.prog 97 [.ptr σ.length 1 0 0] (σ ++ [bld .nilptr .nilsl]) (.ret (.str .empty)) (σ ++ [bld .nilptr .nilsl]) := by
  refine fun_code [] Try.func97 rfl rfl (by kernel_rfl) rfl ?_
  simp -implicitDefEqProofs (disch := (first | omega | (simp only [List.length_map, ByteArray.size_append, bsz, List.size_toArray, List.length_cons, List.length_nil]; omega))) only [go_sem, and_true, true_and, and_self, Int.natCast_nonneg, Nat.zero_add, Int.toNat_zero, Int.cast_ofNat_Int, Try.ntmps97, bld_sz, bld_hw, bld_xs, bld_kd, unsStr_nil, ne_eq, not_false_eq_true, not_true_eq_false, Nat.reduceAdd, Nat.reduceSub, Nat.reduceMul, Nat.reduceBEq, Nat.reduceEqDiff, Nat.reduceLeDiff, Nat.reduceLT, Int.reduceNeg, Int.reduceAdd, Int.reduceSub, Int.reduceEq, Int.reduceLT, Int.reduceLE, reduceCtorEq, ↓reduceIte]
  refine ⟨by kernel_rfl, ?_⟩
  repeat' (first | exact .plain | (refine ⟨by kernel_rfl, ?_⟩; try simp -implicitDefEqProofs (disch := (first | omega | (simp only [List.length_map, ByteArray.size_append, bsz, List.size_toArray, List.length_cons, List.length_nil]; omega))) only [go_sem, and_true, true_and, and_self, Int.natCast_nonneg, Nat.zero_add, Int.toNat_zero, Int.cast_ofNat_Int, bld_sz, bld_hw, bld_xs, bld_kd, unsStr_nil, *, ne_eq, not_false_eq_true, not_true_eq_false, Nat.reduceAdd, Nat.reduceSub, Nat.reduceMul, Nat.reduceBEq, Nat.reduceEqDiff, Nat.reduceLeDiff, Nat.reduceLT, Int.reduceNeg, Int.reduceAdd, Int.reduceSub, Int.reduceEq, Int.reduceLT, Int.reduceLE, reduceCtorEq, ↓reduceIte]) | (refine b_split _ _ _ (fun hc => ?_) (fun hc => ?_) <;> (try simp only [decide_eq_true_eq, decide_eq_false_iff_not, Bool.not_eq_true', Bool.not_eq_false'] at hc) <;> try simp -implicitDefEqProofs (disch := (first | omega | (simp only [List.length_map, ByteArray.size_append, bsz, List.size_toArray, List.length_cons, List.length_nil]; omega))) only [go_sem, and_true, true_and, and_self, Int.natCast_nonneg, Nat.zero_add, Int.toNat_zero, Int.cast_ofNat_Int, bld_sz, bld_hw, bld_xs, bld_kd, unsStr_nil, *, ne_eq, not_false_eq_true, not_true_eq_false, Nat.reduceAdd, Nat.reduceSub, Nat.reduceMul, Nat.reduceBEq, Nat.reduceEqDiff, Nat.reduceLeDiff, Nat.reduceLT, Int.reduceNeg, Int.reduceAdd, Int.reduceSub, Int.reduceEq, Int.reduceLT, Int.reduceLE, reduceCtorEq, ↓reduceIte]) | (refine g_split _ _ _ (fun hc => ?_) (fun hc => ?_) <;> (try simp only [decide_eq_true_eq, decide_eq_false_iff_not, Bool.not_eq_true', Bool.not_eq_false'] at hc) <;> try simp -implicitDefEqProofs (disch := (first | omega | (simp only [List.length_map, ByteArray.size_append, bsz, List.size_toArray, List.length_cons, List.length_nil]; omega))) only [go_sem, and_true, true_and, and_self, Int.natCast_nonneg, Nat.zero_add, Int.toNat_zero, Int.cast_ofNat_Int, bld_sz, bld_hw, bld_xs, bld_kd, unsStr_nil, *, ne_eq, not_false_eq_true, not_true_eq_false, Nat.reduceAdd, Nat.reduceSub, Nat.reduceMul, Nat.reduceBEq, Nat.reduceEqDiff, Nat.reduceLeDiff, Nat.reduceLT, Int.reduceNeg, Int.reduceAdd, Int.reduceSub, Int.reduceEq, Int.reduceLT, Int.reduceLE, reduceCtorEq, ↓reduceIte]) | (refine v_split _ _ _ (fun hc => ?_) (fun hc => ?_) <;> (try simp only [decide_eq_true_eq, decide_eq_false_iff_not, Bool.not_eq_true', Bool.not_eq_false'] at hc) <;> try simp -implicitDefEqProofs (disch := (first | omega | (simp only [List.length_map, ByteArray.size_append, bsz, List.size_toArray, List.length_cons, List.length_nil]; omega))) only [go_sem, and_true, true_and, and_self, Int.natCast_nonneg, Nat.zero_add, Int.toNat_zero, Int.cast_ofNat_Int, bld_sz, bld_hw, bld_xs, bld_kd, unsStr_nil, *, ne_eq, not_false_eq_true, not_true_eq_false, Nat.reduceAdd, Nat.reduceSub, Nat.reduceMul, Nat.reduceBEq, Nat.reduceEqDiff, Nat.reduceLeDiff, Nat.reduceLT, Int.reduceNeg, Int.reduceAdd, Int.reduceSub, Int.reduceEq, Int.reduceLT, Int.reduceLE, reduceCtorEq, ↓reduceIte]))
theorem string_fun (σ : AH) (t : ByteArray) (hw : Nat) (h0 : 0 < t.size) (ht : t.size ≤ 1000000000000) :
    ∃ τ', τ'.length = 2 ∧ AFun Try.prog 97 [.ptr σ.length 1 0 0] (σ ++ [bld (.ptr σ.length 1 0 0) (.own (σ.length + 1) 1 hw 0 t.size), arow 5 1 hw (bytesA t)]) (.ret (.str t)) (σ ++ τ') := by
  refine ⟨[bld (.ptr σ.length 1 0 0) (.own (σ.length + 1) 1 hw 0 t.size), ⟨1, hw, bytesA t, .sealed⟩], rfl, ?_⟩
  refine fun_code [] Try.func97 rfl rfl (by kernel_rfl) rfl ?_
  simp -implicitDefEqProofs (disch := (first | omega | (simp only [List.length_map, ByteArray.size_append, bsz, List.size_toArray, List.length_cons, List.length_nil]; omega))) only [go_sem, and_true, true_and, and_self, Int.natCast_nonneg, Nat.zero_add, Int.toNat_zero, Int.cast_ofNat_Int, Try.ntmps97, bld_sz, bld_hw, bld_xs, bld_kd, unsStr_ptr, ptrElem, bytesA_length, byOf_bytesA, ne_eq, not_false_eq_true, not_true_eq_false, Nat.reduceAdd, Nat.reduceSub, Nat.reduceMul, Nat.reduceBEq, Nat.reduceEqDiff, Nat.reduceLeDiff, Nat.reduceLT, Int.reduceNeg, Int.reduceAdd, Int.reduceSub, Int.reduceEq, Int.reduceLT, Int.reduceLE, reduceCtorEq, ↓reduceIte]
  refine ⟨by kernel_rfl, ?_⟩
  refine .at ?_ rfl
  congr 1

end Go.Proofs.Ytigelnkhggkmcaa
end
