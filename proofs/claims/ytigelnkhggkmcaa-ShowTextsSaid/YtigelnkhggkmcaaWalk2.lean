/- Lemmas that the claim leans on. -/
import Derived.Test.YtigelnkhggkmcaaWalk1
import Derived.Test.YtigelnkhggkmcaaAbs3
set_option linter.all false
section
namespace Go.Proofs.Ytigelnkhggkmcaa
open Go.Abs Go.Abs.Pl
set_option linter.unusedSimpArgs false
set_option maxHeartbeats 4000000
set_option maxRecDepth 20000
def opT : Tr → Int
  | .leaf p => p.1
  | .turned _ => 3
  | .pair o _ _ => if o = true then 5 else 4
def partM (ks : List Int) (t : Tr) (s : ByteArray) : ByteArray := if opT t ∈ ks then ⟨#[40]⟩ ++ s ++ ⟨#[41]⟩ else s
def txtM (table : List ByteArray) : Tr → ByteArray
  | .leaf p => if p.1 = 1 then ⟨#[42]⟩ else table.getD p.2.toNat .empty
  | .turned t => ⟨#[33]⟩ ++ partM [4, 5] t (txtM table t)
  | .pair o a b => if o = true then partM [] a (txtM table a) ++ ⟨#[32]⟩ ++ ⟨#[124]⟩ ++ ⟨#[32]⟩ ++ partM [5] b (txtM table b) else partM [5] a (txtM table a) ++ ⟨#[32]⟩ ++ ⟨#[38]⟩ ++ ⟨#[32]⟩ ++ partM [4, 5] b (txtM table b)
def okT (n : Nat) : Tr → Prop
  | .leaf p => p.1 = 2 → p.2 < n
  | .turned t => okT n t
  | .pair _ a b => okT n a ∧ okT n b
theorem partM_size (ks : List Int) (t : Tr) (s : ByteArray) : (partM ks t s).size ≤ s.size + 2 := by
  unfold partM
  split
  · simp only [ByteArray.size_append, bsz, List.size_toArray, List.length_cons, List.length_nil]; omega
  · omega
theorem getD_size {table : List ByteArray} {M : Nat} (hT : ∀ s ∈ table, s.size ≤ M) (i : Nat) : (table.getD i .empty).size ≤ M := by
  rw [List.getD_eq_getElem?_getD]
  cases h : table[i]? with
  | none => exact Nat.zero_le _
  | some s => exact hT s (List.mem_of_getElem? h)
theorem txtM_size {table : List ByteArray} {M : Nat} (hT : ∀ s ∈ table, s.size ≤ M) : ∀ t, (txtM table t).size ≤ sizeM t * (M + 10)
  | .leaf p => by
    have := getD_size hT p.2.toNat
    simp only [txtM, sizeM]
    split
    · simp only [bsz, List.size_toArray, List.length_cons, List.length_nil]; omega
    · omega
  | .turned t => by
    have h1 := txtM_size hT t
    have h2 := partM_size [4, 5] t (txtM table t)
    simp only [txtM, sizeM, ByteArray.size_append, bsz, List.size_toArray, List.length_cons, List.length_nil]
    rw [Nat.add_mul]
    omega
  | .pair o a b => by
    have h1 := txtM_size hT a
    have h2 := txtM_size hT b
    have h3 := fun ks => partM_size ks a (txtM table a)
    have h4 := fun ks => partM_size ks b (txtM table b)
    have k1 := h3 []
    have k2 := h3 [5]
    have k3 := h4 [5]
    have k4 := h4 [4, 5]
    simp only [txtM, sizeM]
    rw [Nat.add_mul, Nat.add_mul]
    split
    · simp only [ByteArray.size_append, bsz, List.size_toArray, List.length_cons, List.length_nil]; omega
    · simp only [ByteArray.size_append, bsz, List.size_toArray, List.length_cons, List.length_nil]; omega
theorem flat_last : ∀ t, ∃ p, (flat t)[sizeM t - 1]? = some p ∧ p.1 = opT t
  | .leaf p => ⟨p, rfl, rfl⟩
  | .turned t => ⟨(3, 0), by simp [flat, sizeM, ← flat_length t], rfl⟩
  | .pair o a b => ⟨(if o = true then 5 else 4, 0), by simp [flat, sizeM, ← flat_length a, ← flat_length b], rfl⟩
theorem op_fun (t : Tr) (σ : AH) (h31 : sizeM t ≤ 31) : AFun Try.prog 224 [nds (flat t)] σ (.ret (.int .i64 (opT t))) σ := by
  obtain ⟨p, hp, ho⟩ := flat_last t
  have hl := flat_length t
  have hs := size_pos t
  have e : ((sizeM t : Nat) : Int) - 1 = ((sizeM t - 1 : Nat) : Int) := by omega
  have h1 : ((sizeM t - 1 : Nat) : Int) < (sizeM t : Int) := by omega
  refine fun_code [] Try.func224 rfl rfl (by kernel_rfl) rfl ?_
  simp -implicitDefEqProofs (disch := (first | omega | (simp only [List.length_map, ByteArray.size_append, bsz, List.size_toArray, List.length_cons, List.length_nil]; omega))) only [go_sem, and_true, true_and, and_self, Int.natCast_nonneg, Nat.zero_add, Int.toNat_zero, Int.cast_ofNat_Int, Try.ntmps224, nds, hl, e, h1, hp, nd, ne_eq, not_false_eq_true, not_true_eq_false, Nat.reduceAdd, Nat.reduceSub, Nat.reduceMul, Nat.reduceBEq, Nat.reduceEqDiff, Nat.reduceLeDiff, Nat.reduceLT, Int.reduceNeg, Int.reduceAdd, Int.reduceSub, Int.reduceEq, Int.reduceLT, Int.reduceLE, reduceCtorEq, ↓reduceIte]
  rw [ho]
  exact .plain
def shw (table : List ByteArray) : AV := .agg [strs table]
def IsK (ks : List Int) (a : AV) : Prop := (ks = [] ∧ a = .nilsl) ∨ a = .sl 1 (ks.map (.int .i64))
theorem part_fun (table : List ByteArray) (t : Tr) (ks : List Int) (a : AV) (σ : AH) (hk : IsK ks a) (hkl : ks.length ≤ 100) (h31 : sizeM t ≤ 31) (hx : (txtM table t).size ≤ 1000000000000)
    (ih : AFun Try.prog 94 [shw table, nds (flat t)] σ (.ret (.str (txtM table t))) σ) :
    AFun Try.prog 179 [shw table, nds (flat t), a] σ (.ret (.str (partM ks t (txtM table t)))) σ := by
  rcases hk with ⟨rfl, rfl⟩ | rfl
  · refine fun_code [] Try.func179 rfl rfl (by kernel_rfl) rfl ?_
    simp -implicitDefEqProofs (disch := (first | omega | (simp only [List.length_map, ByteArray.size_append, bsz, List.size_toArray, List.length_cons, List.length_nil]; omega))) only [go_sem, and_true, true_and, and_self, Int.natCast_nonneg, Nat.zero_add, Int.toNat_zero, Int.cast_ofNat_Int, Try.ntmps179, shw, strs, nds, ne_eq, not_false_eq_true, not_true_eq_false, Nat.reduceAdd, Nat.reduceSub, Nat.reduceMul, Nat.reduceBEq, Nat.reduceEqDiff, Nat.reduceLeDiff, Nat.reduceLT, Int.reduceNeg, Int.reduceAdd, Int.reduceSub, Int.reduceEq, Int.reduceLT, Int.reduceLE, reduceCtorEq, ↓reduceIte]
    refine call_same _ _ _ ih ?_
    simp -implicitDefEqProofs (disch := (first | omega | (simp only [List.length_map, ByteArray.size_append, bsz, List.size_toArray, List.length_cons, List.length_nil]; omega))) only [go_sem, and_true, true_and, and_self, Int.natCast_nonneg, Nat.zero_add, Int.toNat_zero, Int.cast_ofNat_Int, ne_eq, not_false_eq_true, not_true_eq_false, Nat.reduceAdd, Nat.reduceSub, Nat.reduceMul, Nat.reduceBEq, Nat.reduceEqDiff, Nat.reduceLeDiff, Nat.reduceLT, Int.reduceNeg, Int.reduceAdd, Int.reduceSub, Int.reduceEq, Int.reduceLT, Int.reduceLE, reduceCtorEq, ↓reduceIte]
    refine loop_keep [(6, 6), (9, 9), (15, 26)] (fun m s τ => τ = σ ∧ s = [(15, .int .i64 0)]) 0 _ ⟨rfl, rfl⟩ (by first | done | (simp -implicitDefEqProofs (disch := (first | omega | (simp only [List.length_map, ByteArray.size_append, bsz, List.size_toArray, List.length_cons, List.length_nil]; omega))) only [go_sem, and_true, true_and, and_self, Int.natCast_nonneg, Nat.zero_add, Int.toNat_zero, Int.cast_ofNat_Int, List.length_append, List.length_take, List.length_drop, List.length_cons, List.length_nil, Option.some.injEq, AV.own.injEq, AV.int.injEq, ne_eq, not_false_eq_true, not_true_eq_false, Nat.reduceAdd, Nat.reduceSub, Nat.reduceMul, Nat.reduceBEq, Nat.reduceEqDiff, Nat.reduceLeDiff, Nat.reduceLT, Int.reduceNeg, Int.reduceAdd, Int.reduceSub, Int.reduceEq, Int.reduceLT, Int.reduceLE, reduceCtorEq, ↓reduceIte]; done) | (simp -implicitDefEqProofs (disch := (first | omega | (simp only [List.length_map, ByteArray.size_append, bsz, List.size_toArray, List.length_cons, List.length_nil]; omega))) only [go_sem, and_true, true_and, and_self, Int.natCast_nonneg, Nat.zero_add, Int.toNat_zero, Int.cast_ofNat_Int, List.length_append, List.length_take, List.length_drop, List.length_cons, List.length_nil, Option.some.injEq, AV.own.injEq, AV.int.injEq, ne_eq, not_false_eq_true, not_true_eq_false, Nat.reduceAdd, Nat.reduceSub, Nat.reduceMul, Nat.reduceBEq, Nat.reduceEqDiff, Nat.reduceLeDiff, Nat.reduceLT, Int.reduceNeg, Int.reduceAdd, Int.reduceSub, Int.reduceEq, Int.reduceLT, Int.reduceLE, reduceCtorEq, ↓reduceIte]; omega) | (simp -implicitDefEqProofs (disch := (first | omega | (simp only [List.length_map, ByteArray.size_append, bsz, List.size_toArray, List.length_cons, List.length_nil]; omega))) only [go_sem, and_true, true_and, and_self, Int.natCast_nonneg, Nat.zero_add, Int.toNat_zero, Int.cast_ofNat_Int, List.length_append, List.length_take, List.length_drop, List.length_cons, List.length_nil, Option.some.injEq, AV.own.injEq, AV.int.injEq, ne_eq, not_false_eq_true, not_true_eq_false, Nat.reduceAdd, Nat.reduceSub, Nat.reduceMul, Nat.reduceBEq, Nat.reduceEqDiff, Nat.reduceLeDiff, Nat.reduceLT, Int.reduceNeg, Int.reduceAdd, Int.reduceSub, Int.reduceEq, Int.reduceLT, Int.reduceLE, reduceCtorEq, ↓reduceIte]; refine ⟨?_, ?_⟩ <;> congr 1 <;> omega)) ?_
    rintro m s g τ ⟨rfl, rfl⟩
    simp -implicitDefEqProofs (disch := (first | omega | (simp only [List.length_map, ByteArray.size_append, bsz, List.size_toArray, List.length_cons, List.length_nil]; omega))) only [go_sem, and_true, true_and, and_self, Int.natCast_nonneg, Nat.zero_add, Int.toNat_zero, Int.cast_ofNat_Int, ne_eq, not_false_eq_true, not_true_eq_false, Nat.reduceAdd, Nat.reduceSub, Nat.reduceMul, Nat.reduceBEq, Nat.reduceEqDiff, Nat.reduceLeDiff, Nat.reduceLT, Int.reduceNeg, Int.reduceAdd, Int.reduceSub, Int.reduceEq, Int.reduceLT, Int.reduceLE, reduceCtorEq, ↓reduceIte]
    refine Done.same ?_
    simp [partM]
  · refine fun_code [] Try.func179 rfl rfl (by kernel_rfl) rfl ?_
    simp -implicitDefEqProofs (disch := (first | omega | (simp only [List.length_map, ByteArray.size_append, bsz, List.size_toArray, List.length_cons, List.length_nil]; omega))) only [go_sem, and_true, true_and, and_self, Int.natCast_nonneg, Nat.zero_add, Int.toNat_zero, Int.cast_ofNat_Int, Try.ntmps179, shw, strs, nds, ne_eq, not_false_eq_true, not_true_eq_false, Nat.reduceAdd, Nat.reduceSub, Nat.reduceMul, Nat.reduceBEq, Nat.reduceEqDiff, Nat.reduceLeDiff, Nat.reduceLT, Int.reduceNeg, Int.reduceAdd, Int.reduceSub, Int.reduceEq, Int.reduceLT, Int.reduceLE, reduceCtorEq, ↓reduceIte]
    refine call_same _ _ _ ih ?_
    simp -implicitDefEqProofs (disch := (first | omega | (simp only [List.length_map, ByteArray.size_append, bsz, List.size_toArray, List.length_cons, List.length_nil]; omega))) only [go_sem, and_true, true_and, and_self, Int.natCast_nonneg, Nat.zero_add, Int.toNat_zero, Int.cast_ofNat_Int, ne_eq, not_false_eq_true, not_true_eq_false, Nat.reduceAdd, Nat.reduceSub, Nat.reduceMul, Nat.reduceBEq, Nat.reduceEqDiff, Nat.reduceLeDiff, Nat.reduceLT, Int.reduceNeg, Int.reduceAdd, Int.reduceSub, Int.reduceEq, Int.reduceLT, Int.reduceLE, reduceCtorEq, ↓reduceIte]
    refine loop_keep [(6, 6), (9, 9), (15, 26)] (fun m s τ => ∃ k : Nat, k + m = ks.length ∧ (∀ j ∈ ks.take k, j ≠ opT t) ∧ τ = σ ∧ s = [(15, .int .i64 k)]) ks.length _ ⟨0, by omega, by simp, rfl, rfl⟩ (by first | done | (simp -implicitDefEqProofs (disch := (first | omega | (simp only [List.length_map, ByteArray.size_append, bsz, List.size_toArray, List.length_cons, List.length_nil]; omega))) only [go_sem, and_true, true_and, and_self, Int.natCast_nonneg, Nat.zero_add, Int.toNat_zero, Int.cast_ofNat_Int, List.length_append, List.length_take, List.length_drop, List.length_cons, List.length_nil, Option.some.injEq, AV.own.injEq, AV.int.injEq, ne_eq, not_false_eq_true, not_true_eq_false, Nat.reduceAdd, Nat.reduceSub, Nat.reduceMul, Nat.reduceBEq, Nat.reduceEqDiff, Nat.reduceLeDiff, Nat.reduceLT, Int.reduceNeg, Int.reduceAdd, Int.reduceSub, Int.reduceEq, Int.reduceLT, Int.reduceLE, reduceCtorEq, ↓reduceIte]; done) | (simp -implicitDefEqProofs (disch := (first | omega | (simp only [List.length_map, ByteArray.size_append, bsz, List.size_toArray, List.length_cons, List.length_nil]; omega))) only [go_sem, and_true, true_and, and_self, Int.natCast_nonneg, Nat.zero_add, Int.toNat_zero, Int.cast_ofNat_Int, List.length_append, List.length_take, List.length_drop, List.length_cons, List.length_nil, Option.some.injEq, AV.own.injEq, AV.int.injEq, ne_eq, not_false_eq_true, not_true_eq_false, Nat.reduceAdd, Nat.reduceSub, Nat.reduceMul, Nat.reduceBEq, Nat.reduceEqDiff, Nat.reduceLeDiff, Nat.reduceLT, Int.reduceNeg, Int.reduceAdd, Int.reduceSub, Int.reduceEq, Int.reduceLT, Int.reduceLE, reduceCtorEq, ↓reduceIte]; omega) | (simp -implicitDefEqProofs (disch := (first | omega | (simp only [List.length_map, ByteArray.size_append, bsz, List.size_toArray, List.length_cons, List.length_nil]; omega))) only [go_sem, and_true, true_and, and_self, Int.natCast_nonneg, Nat.zero_add, Int.toNat_zero, Int.cast_ofNat_Int, List.length_append, List.length_take, List.length_drop, List.length_cons, List.length_nil, Option.some.injEq, AV.own.injEq, AV.int.injEq, ne_eq, not_false_eq_true, not_true_eq_false, Nat.reduceAdd, Nat.reduceSub, Nat.reduceMul, Nat.reduceBEq, Nat.reduceEqDiff, Nat.reduceLeDiff, Nat.reduceLT, Int.reduceNeg, Int.reduceAdd, Int.reduceSub, Int.reduceEq, Int.reduceLT, Int.reduceLE, reduceCtorEq, ↓reduceIte]; refine ⟨?_, ?_⟩ <;> congr 1 <;> omega)) ?_
    rintro m s g τ ⟨k, hk, hno, rfl, rfl⟩
    cases m with
    | zero =>
      have h1 : ¬ (k : Int) < ks.length := by omega
      simp -implicitDefEqProofs (disch := (first | omega | (simp only [List.length_map, ByteArray.size_append, bsz, List.size_toArray, List.length_cons, List.length_nil]; omega))) only [go_sem, and_true, true_and, and_self, Int.natCast_nonneg, Nat.zero_add, Int.toNat_zero, Int.cast_ofNat_Int, h1, ne_eq, not_false_eq_true, not_true_eq_false, Nat.reduceAdd, Nat.reduceSub, Nat.reduceMul, Nat.reduceBEq, Nat.reduceEqDiff, Nat.reduceLeDiff, Nat.reduceLT, Int.reduceNeg, Int.reduceAdd, Int.reduceSub, Int.reduceEq, Int.reduceLT, Int.reduceLE, reduceCtorEq, ↓reduceIte]
      refine Done.same ?_
      unfold partM
      rw [if_neg]
      intro hin
      rw [List.take_of_length_le (by omega)] at hno
      exact hno _ hin rfl
    | succ m =>
      obtain ⟨q, hq⟩ : ∃ q, ks[k]? = some q := ⟨_, List.getElem?_eq_getElem (by omega)⟩
      have h1 : (k : Int) < ks.length := by omega
      simp -implicitDefEqProofs (disch := (first | omega | (simp only [List.length_map, ByteArray.size_append, bsz, List.size_toArray, List.length_cons, List.length_nil]; omega))) only [go_sem, and_true, true_and, and_self, Int.natCast_nonneg, Nat.zero_add, Int.toNat_zero, Int.cast_ofNat_Int, h1, hq, ne_eq, not_false_eq_true, not_true_eq_false, Nat.reduceAdd, Nat.reduceSub, Nat.reduceMul, Nat.reduceBEq, Nat.reduceEqDiff, Nat.reduceLeDiff, Nat.reduceLT, Int.reduceNeg, Int.reduceAdd, Int.reduceSub, Int.reduceEq, Int.reduceLT, Int.reduceLE, reduceCtorEq, ↓reduceIte]
      refine call_same _ _ _ (op_fun t _ h31) ?_
      by_cases he : opT t = q
      · simp -implicitDefEqProofs (disch := (first | omega | (simp only [List.length_map, ByteArray.size_append, bsz, List.size_toArray, List.length_cons, List.length_nil]; omega))) only [go_sem, and_true, true_and, and_self, Int.natCast_nonneg, Nat.zero_add, Int.toNat_zero, Int.cast_ofNat_Int, he, ne_eq, not_false_eq_true, not_true_eq_false, Nat.reduceAdd, Nat.reduceSub, Nat.reduceMul, Nat.reduceBEq, Nat.reduceEqDiff, Nat.reduceLeDiff, Nat.reduceLT, Int.reduceNeg, Int.reduceAdd, Int.reduceSub, Int.reduceEq, Int.reduceLT, Int.reduceLE, reduceCtorEq, ↓reduceIte]
        refine Done.same ?_
        unfold partM
        rw [if_pos (by rw [he]; exact List.mem_of_getElem? hq)]
      · simp -implicitDefEqProofs (disch := (first | omega | (simp only [List.length_map, ByteArray.size_append, bsz, List.size_toArray, List.length_cons, List.length_nil]; omega))) only [go_sem, and_true, true_and, and_self, Int.natCast_nonneg, Nat.zero_add, Int.toNat_zero, Int.cast_ofNat_Int, he, ne_eq, not_false_eq_true, not_true_eq_false, Nat.reduceAdd, Nat.reduceSub, Nat.reduceMul, Nat.reduceBEq, Nat.reduceEqDiff, Nat.reduceLeDiff, Nat.reduceLT, Int.reduceNeg, Int.reduceAdd, Int.reduceSub, Int.reduceEq, Int.reduceLT, Int.reduceLE, reduceCtorEq, ↓reduceIte]
        refine next_round m (by omega) _ ⟨k + 1, by omega, ?_, rfl, rfl⟩ (by repeat (first | exact agree_ov _ _ _ | exact agree_self _ _ | refine agree_wr rfl ?_)) (by first | done | (simp -implicitDefEqProofs (disch := (first | omega | (simp only [List.length_map, ByteArray.size_append, bsz, List.size_toArray, List.length_cons, List.length_nil]; omega))) only [go_sem, and_true, true_and, and_self, Int.natCast_nonneg, Nat.zero_add, Int.toNat_zero, Int.cast_ofNat_Int, List.length_append, List.length_take, List.length_drop, List.length_cons, List.length_nil, Option.some.injEq, AV.own.injEq, AV.int.injEq, ne_eq, not_false_eq_true, not_true_eq_false, Nat.reduceAdd, Nat.reduceSub, Nat.reduceMul, Nat.reduceBEq, Nat.reduceEqDiff, Nat.reduceLeDiff, Nat.reduceLT, Int.reduceNeg, Int.reduceAdd, Int.reduceSub, Int.reduceEq, Int.reduceLT, Int.reduceLE, reduceCtorEq, ↓reduceIte]; done) | (simp -implicitDefEqProofs (disch := (first | omega | (simp only [List.length_map, ByteArray.size_append, bsz, List.size_toArray, List.length_cons, List.length_nil]; omega))) only [go_sem, and_true, true_and, and_self, Int.natCast_nonneg, Nat.zero_add, Int.toNat_zero, Int.cast_ofNat_Int, List.length_append, List.length_take, List.length_drop, List.length_cons, List.length_nil, Option.some.injEq, AV.own.injEq, AV.int.injEq, ne_eq, not_false_eq_true, not_true_eq_false, Nat.reduceAdd, Nat.reduceSub, Nat.reduceMul, Nat.reduceBEq, Nat.reduceEqDiff, Nat.reduceLeDiff, Nat.reduceLT, Int.reduceNeg, Int.reduceAdd, Int.reduceSub, Int.reduceEq, Int.reduceLT, Int.reduceLE, reduceCtorEq, ↓reduceIte]; omega) | (simp -implicitDefEqProofs (disch := (first | omega | (simp only [List.length_map, ByteArray.size_append, bsz, List.size_toArray, List.length_cons, List.length_nil]; omega))) only [go_sem, and_true, true_and, and_self, Int.natCast_nonneg, Nat.zero_add, Int.toNat_zero, Int.cast_ofNat_Int, List.length_append, List.length_take, List.length_drop, List.length_cons, List.length_nil, Option.some.injEq, AV.own.injEq, AV.int.injEq, ne_eq, not_false_eq_true, not_true_eq_false, Nat.reduceAdd, Nat.reduceSub, Nat.reduceMul, Nat.reduceBEq, Nat.reduceEqDiff, Nat.reduceLeDiff, Nat.reduceLT, Int.reduceNeg, Int.reduceAdd, Int.reduceSub, Int.reduceEq, Int.reduceLT, Int.reduceLE, reduceCtorEq, ↓reduceIte]; refine ⟨?_, ?_⟩ <;> congr 1 <;> omega))
        rw [List.take_succ, hq]
        intro j hj
        rcases List.mem_append.1 hj with hj | hj
        · exact hno j hj
        · simp at hj
          subst hj
          exact fun h => he h.symm
theorem two_fun (table : List ByteArray) (a b : Tr) (sg : ByteArray) (ka kb : List Int) (xa xb : AV) (σ : AH) (hsg : sg.size ≤ 100) (ha : IsK ka xa) (hb : IsK kb xb) (la : ka.length ≤ 100) (lb : kb.length ≤ 100) (sa : sizeM a ≤ 31) (sb : sizeM b ≤ 31)
    (za : (txtM table a).size ≤ 100000000000) (zb : (txtM table b).size ≤ 100000000000)
    (iha : AFun Try.prog 94 [shw table, nds (flat a)] σ (.ret (.str (txtM table a))) σ) (ihb : AFun Try.prog 94 [shw table, nds (flat b)] σ (.ret (.str (txtM table b))) σ) :
    AFun Try.prog 178 [.str sg, xa, xb, .elem [strs table], .elem [ndss [flat a, flat b]]] σ (.ret (.str (partM ka a (txtM table a) ++ ⟨#[32]⟩ ++ sg ++ ⟨#[32]⟩ ++ partM kb b (txtM table b)))) σ := by
  have pa := partM_size ka a (txtM table a)
  have pb := partM_size kb b (txtM table b)
  refine fun_code [] Try.func178 rfl rfl (by kernel_rfl) rfl ?_
  simp -implicitDefEqProofs (disch := (first | omega | (simp only [List.length_map, ByteArray.size_append, bsz, List.size_toArray, List.length_cons, List.length_nil]; omega))) only [go_sem, and_true, true_and, and_self, Int.natCast_nonneg, Nat.zero_add, Int.toNat_zero, Int.cast_ofNat_Int, Try.ntmps178, ndss, nds, List.map_cons, List.map_nil, ne_eq, not_false_eq_true, not_true_eq_false, Nat.reduceAdd, Nat.reduceSub, Nat.reduceMul, Nat.reduceBEq, Nat.reduceEqDiff, Nat.reduceLeDiff, Nat.reduceLT, Int.reduceNeg, Int.reduceAdd, Int.reduceSub, Int.reduceEq, Int.reduceLT, Int.reduceLE, reduceCtorEq, ↓reduceIte]
  refine ⟨by kernel_rfl, ?_⟩
  refine call_same _ _ _ (part_fun table a ka xa _ ha la sa (by omega) iha) ?_
  simp -implicitDefEqProofs (disch := (first | omega | (simp only [List.length_map, ByteArray.size_append, bsz, List.size_toArray, List.length_cons, List.length_nil]; omega))) only [go_sem, and_true, true_and, and_self, Int.natCast_nonneg, Nat.zero_add, Int.toNat_zero, Int.cast_ofNat_Int, ndss, nds, List.map_cons, List.map_nil, ne_eq, not_false_eq_true, not_true_eq_false, Nat.reduceAdd, Nat.reduceSub, Nat.reduceMul, Nat.reduceBEq, Nat.reduceEqDiff, Nat.reduceLeDiff, Nat.reduceLT, Int.reduceNeg, Int.reduceAdd, Int.reduceSub, Int.reduceEq, Int.reduceLT, Int.reduceLE, reduceCtorEq, ↓reduceIte]
  refine call_same _ _ _ (part_fun table b kb xb _ hb lb sb (by omega) ihb) ?_
  simp -implicitDefEqProofs (disch := (first | omega | (simp only [List.length_map, ByteArray.size_append, bsz, List.size_toArray, List.length_cons, List.length_nil]; omega))) only [go_sem, and_true, true_and, and_self, Int.natCast_nonneg, Nat.zero_add, Int.toNat_zero, Int.cast_ofNat_Int, ne_eq, not_false_eq_true, not_true_eq_false, Nat.reduceAdd, Nat.reduceSub, Nat.reduceMul, Nat.reduceBEq, Nat.reduceEqDiff, Nat.reduceLeDiff, Nat.reduceLT, Int.reduceNeg, Int.reduceAdd, Int.reduceSub, Int.reduceEq, Int.reduceLT, Int.reduceLE, reduceCtorEq, ↓reduceIte]
  exact .plain
theorem text_fun (table : List ByteArray) (hT : ∀ s ∈ table, s.size ≤ 1000000) : ∀ (t : Tr) (σ : AH), wf t → deepM t ≤ 8 → sizeM t ≤ 31 → okT table.length t →
    AFun Try.prog 94 [shw table, nds (flat t)] σ (.ret (.str (txtM table t))) σ
  | .leaf p, σ, hw, h8, h31, hok => by
    have hb := may_bounds hw.1
    have hp := hw.2
    have h3 : ¬ p.1 = 3 := fun h => by rw [h] at hp; cases hp
    have h45 : ¬ p.1 = 4 ∧ ¬ p.1 = 5 := by constructor <;> (intro h; rw [h] at hp; cases hp)
    have hpp : (flat (.leaf p)) = [p] := rfl
    have hparts := Parts_fun (.leaf p) σ hw h8 h31
    by_cases h1 : p.1 = 1
    · refine fun_code [] Try.func94 rfl rfl (by kernel_rfl) rfl ?_
      simp -implicitDefEqProofs (disch := (first | omega | (simp only [List.length_map, ByteArray.size_append, bsz, List.size_toArray, List.length_cons, List.length_nil]; omega))) only [go_sem, and_true, true_and, and_self, Int.natCast_nonneg, Nat.zero_add, Int.toNat_zero, Int.cast_ofNat_Int, Try.ntmps94, nds, shw, strs, hpp, List.map_cons, List.map_nil, nd, ne_eq, not_false_eq_true, not_true_eq_false, Nat.reduceAdd, Nat.reduceSub, Nat.reduceMul, Nat.reduceBEq, Nat.reduceEqDiff, Nat.reduceLeDiff, Nat.reduceLT, Int.reduceNeg, Int.reduceAdd, Int.reduceSub, Int.reduceEq, Int.reduceLT, Int.reduceLE, reduceCtorEq, ↓reduceIte]
      refine call_same _ _ _ hparts ?_
      simp -implicitDefEqProofs (disch := (first | omega | (simp only [List.length_map, ByteArray.size_append, bsz, List.size_toArray, List.length_cons, List.length_nil]; omega))) only [go_sem, and_true, true_and, and_self, Int.natCast_nonneg, Nat.zero_add, Int.toNat_zero, Int.cast_ofNat_Int, h1, ne_eq, not_false_eq_true, not_true_eq_false, Nat.reduceAdd, Nat.reduceSub, Nat.reduceMul, Nat.reduceBEq, Nat.reduceEqDiff, Nat.reduceLeDiff, Nat.reduceLT, Int.reduceNeg, Int.reduceAdd, Int.reduceSub, Int.reduceEq, Int.reduceLT, Int.reduceLE, reduceCtorEq, ↓reduceIte]
      refine Done.same ?_
      simp [txtM, h1]
    · have h2 : p.1 = 2 := by omega
      have hlt : p.2 < table.length := hok h2
      have hx : table[p.2.toNat]? = some (table.getD p.2.toNat .empty) := by
        rw [List.getD_eq_getElem?_getD, List.getElem?_eq_getElem (by omega)]; rfl
      have h0 : 0 ≤ p.2 := hb.2.2.2.1
      refine fun_code [] Try.func94 rfl rfl (by kernel_rfl) rfl ?_
      simp -implicitDefEqProofs (disch := (first | omega | (simp only [List.length_map, ByteArray.size_append, bsz, List.size_toArray, List.length_cons, List.length_nil]; omega))) only [go_sem, and_true, true_and, and_self, Int.natCast_nonneg, Nat.zero_add, Int.toNat_zero, Int.cast_ofNat_Int, Try.ntmps94, nds, shw, strs, hpp, List.map_cons, List.map_nil, nd, ne_eq, not_false_eq_true, not_true_eq_false, Nat.reduceAdd, Nat.reduceSub, Nat.reduceMul, Nat.reduceBEq, Nat.reduceEqDiff, Nat.reduceLeDiff, Nat.reduceLT, Int.reduceNeg, Int.reduceAdd, Int.reduceSub, Int.reduceEq, Int.reduceLT, Int.reduceLE, reduceCtorEq, ↓reduceIte]
      refine call_same _ _ _ hparts ?_
      simp -implicitDefEqProofs (disch := (first | omega | (simp only [List.length_map, ByteArray.size_append, bsz, List.size_toArray, List.length_cons, List.length_nil]; omega))) only [go_sem, and_true, true_and, and_self, Int.natCast_nonneg, Nat.zero_add, Int.toNat_zero, Int.cast_ofNat_Int, h2, strs, hx, hlt, h0, ne_eq, not_false_eq_true, not_true_eq_false, Nat.reduceAdd, Nat.reduceSub, Nat.reduceMul, Nat.reduceBEq, Nat.reduceEqDiff, Nat.reduceLeDiff, Nat.reduceLT, Int.reduceNeg, Int.reduceAdd, Int.reduceSub, Int.reduceEq, Int.reduceLT, Int.reduceLE, reduceCtorEq, ↓reduceIte]
      refine Done.same ?_
      simp [txtM, h1]
  | .turned t, σ, hw, h8, h31, hok => by
    have ih := text_fun table hT t σ hw (by simp only [deepM] at h8; omega) (by simp only [sizeM] at h31; omega) hok
    have hz := txtM_size hT t
    have h31' : sizeM t ≤ 30 := by simp only [sizeM] at h31; omega
    have hz' : (txtM table t).size ≤ 31 * 1000010 := Nat.le_trans hz (Nat.mul_le_mul (by omega) (Nat.le_refl _))
    have hp := partM_size [4, 5] t (txtM table t)
    have hl := flat_length (.turned t)
    have hlast : (flat (.turned t))[sizeM t]? = some (3, 0) := by simp [flat, ← flat_length t]
    have e : ((sizeM (.turned t) : Nat) : Int) - 1 = (sizeM t : Int) := by simp only [sizeM]; omega
    have hlt : (sizeM t : Int) < (sizeM (.turned t) : Int) := by simp only [sizeM]; omega
    have hparts := Parts_fun (.turned t) σ hw h8 h31
    simp only [partsOf] at hparts
    refine fun_code [] Try.func94 rfl rfl (by kernel_rfl) rfl ?_
    simp -implicitDefEqProofs (disch := (first | omega | (simp only [List.length_map, ByteArray.size_append, bsz, List.size_toArray, List.length_cons, List.length_nil]; omega))) only [go_sem, and_true, true_and, and_self, Int.natCast_nonneg, Nat.zero_add, Int.toNat_zero, Int.cast_ofNat_Int, Try.ntmps94, nds, shw, strs, nd, hl, e, hlast, hlt, ne_eq, not_false_eq_true, not_true_eq_false, Nat.reduceAdd, Nat.reduceSub, Nat.reduceMul, Nat.reduceBEq, Nat.reduceEqDiff, Nat.reduceLeDiff, Nat.reduceLT, Int.reduceNeg, Int.reduceAdd, Int.reduceSub, Int.reduceEq, Int.reduceLT, Int.reduceLE, reduceCtorEq, ↓reduceIte]
    refine call_same _ _ _ hparts ?_
    simp -implicitDefEqProofs (disch := (first | omega | (simp only [List.length_map, ByteArray.size_append, bsz, List.size_toArray, List.length_cons, List.length_nil]; omega))) only [go_sem, and_true, true_and, and_self, Int.natCast_nonneg, Nat.zero_add, Int.toNat_zero, Int.cast_ofNat_Int, ndss, nds, List.map_cons, List.map_nil, ne_eq, not_false_eq_true, not_true_eq_false, Nat.reduceAdd, Nat.reduceSub, Nat.reduceMul, Nat.reduceBEq, Nat.reduceEqDiff, Nat.reduceLeDiff, Nat.reduceLT, Int.reduceNeg, Int.reduceAdd, Int.reduceSub, Int.reduceEq, Int.reduceLT, Int.reduceLE, reduceCtorEq, ↓reduceIte]
    refine ⟨by kernel_rfl, ?_⟩
    refine call_same _ _ _ (part_fun table t [4, 5] _ _ (.inr rfl) (by simp) (by omega) (by omega) ih) ?_
    simp -implicitDefEqProofs (disch := (first | omega | (simp only [List.length_map, ByteArray.size_append, bsz, List.size_toArray, List.length_cons, List.length_nil]; omega))) only [go_sem, and_true, true_and, and_self, Int.natCast_nonneg, Nat.zero_add, Int.toNat_zero, Int.cast_ofNat_Int, ne_eq, not_false_eq_true, not_true_eq_false, Nat.reduceAdd, Nat.reduceSub, Nat.reduceMul, Nat.reduceBEq, Nat.reduceEqDiff, Nat.reduceLeDiff, Nat.reduceLT, Int.reduceNeg, Int.reduceAdd, Int.reduceSub, Int.reduceEq, Int.reduceLT, Int.reduceLE, reduceCtorEq, ↓reduceIte]
    exact .plain
  | .pair o a b, σ, hw, h8, h31, hok => by
    have iha := text_fun table hT a σ hw.1 (by simp only [deepM] at h8; omega) (by simp only [sizeM] at h31; omega) hok.1
    have ihb := text_fun table hT b σ hw.2 (by simp only [deepM] at h8; omega) (by simp only [sizeM] at h31; omega) hok.2
    have ha := txtM_size hT a
    have hb := txtM_size hT b
    have h31a : sizeM a ≤ 30 := by simp only [sizeM] at h31; omega
    have h31b : sizeM b ≤ 30 := by simp only [sizeM] at h31; omega
    have ha' : (txtM table a).size ≤ 31 * 1000010 := Nat.le_trans ha (Nat.mul_le_mul (by omega) (Nat.le_refl _))
    have hb' : (txtM table b).size ≤ 31 * 1000010 := Nat.le_trans hb (Nat.mul_le_mul (by omega) (Nat.le_refl _))
    have hl := flat_length (.pair o a b)
    have hlast : (flat (.pair o a b))[sizeM a + sizeM b]? = some (if o = true then 5 else 4, 0) := by simp [flat, ← flat_length a, ← flat_length b]
    have e : ((sizeM (.pair o a b) : Nat) : Int) - 1 = ((sizeM a + sizeM b : Nat) : Int) := by simp only [sizeM]; omega
    have hlt : ((sizeM a + sizeM b : Nat) : Int) < (sizeM (.pair o a b) : Int) := by simp only [sizeM]; omega
    have hparts := Parts_fun (.pair o a b) σ hw h8 h31
    simp only [partsOf] at hparts
    refine fun_code [] Try.func94 rfl rfl (by kernel_rfl) rfl ?_
    simp -implicitDefEqProofs (disch := (first | omega | (simp only [List.length_map, ByteArray.size_append, bsz, List.size_toArray, List.length_cons, List.length_nil]; omega))) only [go_sem, and_true, true_and, and_self, Int.natCast_nonneg, Nat.zero_add, Int.toNat_zero, Int.cast_ofNat_Int, Try.ntmps94, nds, shw, strs, nd, hl, e, hlast, hlt, ne_eq, not_false_eq_true, not_true_eq_false, Nat.reduceAdd, Nat.reduceSub, Nat.reduceMul, Nat.reduceBEq, Nat.reduceEqDiff, Nat.reduceLeDiff, Nat.reduceLT, Int.reduceNeg, Int.reduceAdd, Int.reduceSub, Int.reduceEq, Int.reduceLT, Int.reduceLE, reduceCtorEq, ↓reduceIte]
    refine call_same _ _ _ hparts ?_
    cases o
    · simp -implicitDefEqProofs (disch := (first | omega | (simp only [List.length_map, ByteArray.size_append, bsz, List.size_toArray, List.length_cons, List.length_nil]; omega))) only [go_sem, and_true, true_and, and_self, Int.natCast_nonneg, Nat.zero_add, Int.toNat_zero, Int.cast_ofNat_Int, ndss, nds, List.map_cons, List.map_nil, ne_eq, not_false_eq_true, not_true_eq_false, Nat.reduceAdd, Nat.reduceSub, Nat.reduceMul, Nat.reduceBEq, Nat.reduceEqDiff, Nat.reduceLeDiff, Nat.reduceLT, Int.reduceNeg, Int.reduceAdd, Int.reduceSub, Int.reduceEq, Int.reduceLT, Int.reduceLE, reduceCtorEq, ↓reduceIte]
      refine call_same _ _ _ (two_fun table a b ⟨#[38]⟩ [5] [4, 5] _ _ _ (by decide) (.inr rfl) (.inr rfl) (by simp) (by simp) (by omega) (by omega) (by omega) (by omega) iha ihb) ?_
      simp -implicitDefEqProofs (disch := (first | omega | (simp only [List.length_map, ByteArray.size_append, bsz, List.size_toArray, List.length_cons, List.length_nil]; omega))) only [go_sem, and_true, true_and, and_self, Int.natCast_nonneg, Nat.zero_add, Int.toNat_zero, Int.cast_ofNat_Int, ne_eq, not_false_eq_true, not_true_eq_false, Nat.reduceAdd, Nat.reduceSub, Nat.reduceMul, Nat.reduceBEq, Nat.reduceEqDiff, Nat.reduceLeDiff, Nat.reduceLT, Int.reduceNeg, Int.reduceAdd, Int.reduceSub, Int.reduceEq, Int.reduceLT, Int.reduceLE, reduceCtorEq, ↓reduceIte]
      exact .plain
    · simp -implicitDefEqProofs (disch := (first | omega | (simp only [List.length_map, ByteArray.size_append, bsz, List.size_toArray, List.length_cons, List.length_nil]; omega))) only [go_sem, and_true, true_and, and_self, Int.natCast_nonneg, Nat.zero_add, Int.toNat_zero, Int.cast_ofNat_Int, ndss, nds, List.map_cons, List.map_nil, ne_eq, not_false_eq_true, not_true_eq_false, Nat.reduceAdd, Nat.reduceSub, Nat.reduceMul, Nat.reduceBEq, Nat.reduceEqDiff, Nat.reduceLeDiff, Nat.reduceLT, Int.reduceNeg, Int.reduceAdd, Int.reduceSub, Int.reduceEq, Int.reduceLT, Int.reduceLE, reduceCtorEq, ↓reduceIte]
      refine call_same _ _ _ (two_fun table a b ⟨#[124]⟩ [] [5] _ _ _ (by decide) (.inl ⟨rfl, rfl⟩) (.inr rfl) (by simp) (by simp) (by omega) (by omega) (by omega) (by omega) iha ihb) ?_
      simp -implicitDefEqProofs (disch := (first | omega | (simp only [List.length_map, ByteArray.size_append, bsz, List.size_toArray, List.length_cons, List.length_nil]; omega))) only [go_sem, and_true, true_and, and_self, Int.natCast_nonneg, Nat.zero_add, Int.toNat_zero, Int.cast_ofNat_Int, ne_eq, not_false_eq_true, not_true_eq_false, Nat.reduceAdd, Nat.reduceSub, Nat.reduceMul, Nat.reduceBEq, Nat.reduceEqDiff, Nat.reduceLeDiff, Nat.reduceLT, Int.reduceNeg, Int.reduceAdd, Int.reduceSub, Int.reduceEq, Int.reduceLT, Int.reduceLE, reduceCtorEq, ↓reduceIte]
      exact .plain
end Go.Proofs.Ytigelnkhggkmcaa
end
section
namespace Go.Proofs.Ytigelnkhggkmcaa
open Go.Abs Go.Abs.Pl
set_option linter.unusedSimpArgs false
set_option maxHeartbeats 4000000
set_option maxRecDepth 20000
def badA (n : Nat) (p : Nd) : Bool := decide (p.1 = 2) && decide ((n : Int) ≤ p.2)
def textM (table : List ByteArray) (l : List Nd) : ByteArray :=
  if checkM l = 0 ∧ l.any (badA table.length) = false then (match madeM l with
    | some t => txtM table t
    | none => .empty) else .empty
theorem okT_of (n : Nat) : ∀ t, (∀ p ∈ flat t, badA n p = false) → okT n t
  | .leaf p, h => fun h2 => by
    have := h p (by simp [flat])
    simp [badA, h2] at this
    omega
  | .turned t, h => okT_of n t fun p hp => h p (by simp [flat, hp])
  | .pair o a b, h => ⟨okT_of n a fun p hp => h p (by simp [flat, hp]), okT_of n b fun p hp => h p (by simp [flat, hp])⟩
theorem textM_tree {table : List ByteArray} {t : Tr} (hw : wf t) (h8 : deepM t ≤ 8) (h31 : sizeM t ≤ 31) (hb : (flat t).any (badA table.length) = false) : textM table (flat t) = txtM table t := by
  have hm : madeM (flat t) = some t := (made_iff _ _).2 ⟨hw, rfl⟩
  have hl := flat_length t
  have hc : checkM (flat t) = 0 := by
    unfold checkM
    rw [if_neg (by omega), hm]
    simp only
    rw [if_neg (by omega)]
  unfold textM
  rw [if_pos ⟨hc, hb⟩, hm]
theorem any_bad {n : Nat} {l : List Nd} {k : Nat} (h : ∀ p ∈ l.take k, badA n p = false) (hk : l.length ≤ k) : l.any (badA n) = false := by
  rw [List.take_of_length_le hk] at h
  simpa using h
theorem Text_fun (table : List ByteArray) (l : List Nd) (σ : AH) (hT : ∀ s ∈ table, s.size ≤ 1000000) (hl : l.length ≤ 100000) : AFun Try.prog 20 [strs table, nds l] σ (.ret (.str (textM table l))) σ := by
  by_cases hc : checkM l = 0
  · obtain ⟨t, hm, h8, h31⟩ := check_zero hc
    obtain ⟨hw, rfl⟩ := (made_iff l t).1 hm
    have hfl := flat_length t
    refine fun_code [] Try.func20 rfl rfl (by kernel_rfl) rfl ?_
    simp -implicitDefEqProofs (disch := (first | omega | (simp only [List.length_map, ByteArray.size_append, bsz, List.size_toArray, List.length_cons, List.length_nil]; omega))) only [go_sem, and_true, true_and, and_self, Int.natCast_nonneg, Nat.zero_add, Int.toNat_zero, Int.cast_ofNat_Int, Try.ntmps20, nds, strs, ne_eq, not_false_eq_true, not_true_eq_false, Nat.reduceAdd, Nat.reduceSub, Nat.reduceMul, Nat.reduceBEq, Nat.reduceEqDiff, Nat.reduceLeDiff, Nat.reduceLT, Int.reduceNeg, Int.reduceAdd, Int.reduceSub, Int.reduceEq, Int.reduceLT, Int.reduceLE, reduceCtorEq, ↓reduceIte]
    refine call_same _ _ _ (Check_fun (flat t) _ hl) ?_
    simp -implicitDefEqProofs (disch := (first | omega | (simp only [List.length_map, ByteArray.size_append, bsz, List.size_toArray, List.length_cons, List.length_nil]; omega))) only [go_sem, and_true, true_and, and_self, Int.natCast_nonneg, Nat.zero_add, Int.toNat_zero, Int.cast_ofNat_Int, hc, ne_eq, not_false_eq_true, not_true_eq_false, Nat.reduceAdd, Nat.reduceSub, Nat.reduceMul, Nat.reduceBEq, Nat.reduceEqDiff, Nat.reduceLeDiff, Nat.reduceLT, Int.reduceNeg, Int.reduceAdd, Int.reduceSub, Int.reduceEq, Int.reduceLT, Int.reduceLE, reduceCtorEq, ↓reduceIte]
    refine loop_keep [(4, 4), (6, 6), (12, 26)] (fun m s τ => ∃ k : Nat, k + m = (flat t).length ∧ (∀ p ∈ (flat t).take k, badA table.length p = false) ∧ τ = σ ∧ s = [(12, .int .i64 k)]) (flat t).length _ ⟨0, by omega, by simp, rfl, rfl⟩ (by first | done | (simp -implicitDefEqProofs (disch := (first | omega | (simp only [List.length_map, ByteArray.size_append, bsz, List.size_toArray, List.length_cons, List.length_nil]; omega))) only [go_sem, and_true, true_and, and_self, Int.natCast_nonneg, Nat.zero_add, Int.toNat_zero, Int.cast_ofNat_Int, List.length_append, List.length_take, List.length_drop, List.length_cons, List.length_nil, Option.some.injEq, AV.own.injEq, AV.int.injEq, ne_eq, not_false_eq_true, not_true_eq_false, Nat.reduceAdd, Nat.reduceSub, Nat.reduceMul, Nat.reduceBEq, Nat.reduceEqDiff, Nat.reduceLeDiff, Nat.reduceLT, Int.reduceNeg, Int.reduceAdd, Int.reduceSub, Int.reduceEq, Int.reduceLT, Int.reduceLE, reduceCtorEq, ↓reduceIte]; done) | (simp -implicitDefEqProofs (disch := (first | omega | (simp only [List.length_map, ByteArray.size_append, bsz, List.size_toArray, List.length_cons, List.length_nil]; omega))) only [go_sem, and_true, true_and, and_self, Int.natCast_nonneg, Nat.zero_add, Int.toNat_zero, Int.cast_ofNat_Int, List.length_append, List.length_take, List.length_drop, List.length_cons, List.length_nil, Option.some.injEq, AV.own.injEq, AV.int.injEq, ne_eq, not_false_eq_true, not_true_eq_false, Nat.reduceAdd, Nat.reduceSub, Nat.reduceMul, Nat.reduceBEq, Nat.reduceEqDiff, Nat.reduceLeDiff, Nat.reduceLT, Int.reduceNeg, Int.reduceAdd, Int.reduceSub, Int.reduceEq, Int.reduceLT, Int.reduceLE, reduceCtorEq, ↓reduceIte]; omega) | (simp -implicitDefEqProofs (disch := (first | omega | (simp only [List.length_map, ByteArray.size_append, bsz, List.size_toArray, List.length_cons, List.length_nil]; omega))) only [go_sem, and_true, true_and, and_self, Int.natCast_nonneg, Nat.zero_add, Int.toNat_zero, Int.cast_ofNat_Int, List.length_append, List.length_take, List.length_drop, List.length_cons, List.length_nil, Option.some.injEq, AV.own.injEq, AV.int.injEq, ne_eq, not_false_eq_true, not_true_eq_false, Nat.reduceAdd, Nat.reduceSub, Nat.reduceMul, Nat.reduceBEq, Nat.reduceEqDiff, Nat.reduceLeDiff, Nat.reduceLT, Int.reduceNeg, Int.reduceAdd, Int.reduceSub, Int.reduceEq, Int.reduceLT, Int.reduceLE, reduceCtorEq, ↓reduceIte]; refine ⟨?_, ?_⟩ <;> congr 1 <;> omega)) ?_
    rintro m s g τ ⟨k, hk, hno, rfl, rfl⟩
    cases m with
    | zero =>
      have h1 : ¬ (k : Int) < (flat t).length := by omega
      have hb := any_bad hno (by omega)
      simp -implicitDefEqProofs (disch := (first | omega | (simp only [List.length_map, ByteArray.size_append, bsz, List.size_toArray, List.length_cons, List.length_nil]; omega))) only [go_sem, and_true, true_and, and_self, Int.natCast_nonneg, Nat.zero_add, Int.toNat_zero, Int.cast_ofNat_Int, h1, ne_eq, not_false_eq_true, not_true_eq_false, Nat.reduceAdd, Nat.reduceSub, Nat.reduceMul, Nat.reduceBEq, Nat.reduceEqDiff, Nat.reduceLeDiff, Nat.reduceLT, Int.reduceNeg, Int.reduceAdd, Int.reduceSub, Int.reduceEq, Int.reduceLT, Int.reduceLE, reduceCtorEq, ↓reduceIte]
      refine call_same _ _ _ (text_fun table hT t _ hw h8 (by omega) (okT_of _ t (by simpa using hb))) ?_
      simp -implicitDefEqProofs (disch := (first | omega | (simp only [List.length_map, ByteArray.size_append, bsz, List.size_toArray, List.length_cons, List.length_nil]; omega))) only [go_sem, and_true, true_and, and_self, Int.natCast_nonneg, Nat.zero_add, Int.toNat_zero, Int.cast_ofNat_Int, ne_eq, not_false_eq_true, not_true_eq_false, Nat.reduceAdd, Nat.reduceSub, Nat.reduceMul, Nat.reduceBEq, Nat.reduceEqDiff, Nat.reduceLeDiff, Nat.reduceLT, Int.reduceNeg, Int.reduceAdd, Int.reduceSub, Int.reduceEq, Int.reduceLT, Int.reduceLE, reduceCtorEq, ↓reduceIte]
      rw [textM_tree hw h8 (by omega) hb]
      exact .plain
    | succ m =>
      obtain ⟨p, hp⟩ : ∃ p, (flat t)[k]? = some p := ⟨_, List.getElem?_eq_getElem (by omega)⟩
      have h1 : (k : Int) < (flat t).length := by omega
      cases hbp : badA table.length p with
      | true =>
        have hb := hbp
        simp only [badA, Bool.and_eq_true, decide_eq_true_eq] at hb
        obtain ⟨b1, b2⟩ := hb
        simp -implicitDefEqProofs (disch := (first | omega | (simp only [List.length_map, ByteArray.size_append, bsz, List.size_toArray, List.length_cons, List.length_nil]; omega))) only [go_sem, and_true, true_and, and_self, Int.natCast_nonneg, Nat.zero_add, Int.toNat_zero, Int.cast_ofNat_Int, h1, hp, nd, b1, b2, ne_eq, not_false_eq_true, not_true_eq_false, Nat.reduceAdd, Nat.reduceSub, Nat.reduceMul, Nat.reduceBEq, Nat.reduceEqDiff, Nat.reduceLeDiff, Nat.reduceLT, Int.reduceNeg, Int.reduceAdd, Int.reduceSub, Int.reduceEq, Int.reduceLT, Int.reduceLE, reduceCtorEq, ↓reduceIte]
        refine Done.same ?_
        unfold textM
        rw [if_neg]
        · rfl
        · rintro ⟨_, h⟩
          have := List.any_eq_false.1 h p (List.mem_of_getElem? hp)
          rw [hbp] at this
          exact this rfl
      | false =>
        have next : ∀ q ∈ (flat t).take (k + 1), badA table.length q = false := by
          rw [List.take_succ, hp]
          intro q hq
          rcases List.mem_append.1 hq with hq | hq
          · exact hno q hq
          · simp at hq
            subst hq
            exact hbp
        have hb := hbp
        simp only [badA, Bool.and_eq_false_iff, decide_eq_false_iff_not] at hb
        by_cases b1 : p.1 = 2
        · have b2 : ¬ (table.length : Int) ≤ p.2 := by rcases hb with hb | hb; exact absurd b1 hb; exact hb
          simp -implicitDefEqProofs (disch := (first | omega | (simp only [List.length_map, ByteArray.size_append, bsz, List.size_toArray, List.length_cons, List.length_nil]; omega))) only [go_sem, and_true, true_and, and_self, Int.natCast_nonneg, Nat.zero_add, Int.toNat_zero, Int.cast_ofNat_Int, h1, hp, nd, b1, b2, ne_eq, not_false_eq_true, not_true_eq_false, Nat.reduceAdd, Nat.reduceSub, Nat.reduceMul, Nat.reduceBEq, Nat.reduceEqDiff, Nat.reduceLeDiff, Nat.reduceLT, Int.reduceNeg, Int.reduceAdd, Int.reduceSub, Int.reduceEq, Int.reduceLT, Int.reduceLE, reduceCtorEq, ↓reduceIte]
          exact next_round m (by omega) _ ⟨k + 1, by omega, next, rfl, rfl⟩ (by repeat (first | exact agree_ov _ _ _ | exact agree_self _ _ | refine agree_wr rfl ?_)) (by first | done | (simp -implicitDefEqProofs (disch := (first | omega | (simp only [List.length_map, ByteArray.size_append, bsz, List.size_toArray, List.length_cons, List.length_nil]; omega))) only [go_sem, and_true, true_and, and_self, Int.natCast_nonneg, Nat.zero_add, Int.toNat_zero, Int.cast_ofNat_Int, List.length_append, List.length_take, List.length_drop, List.length_cons, List.length_nil, Option.some.injEq, AV.own.injEq, AV.int.injEq, ne_eq, not_false_eq_true, not_true_eq_false, Nat.reduceAdd, Nat.reduceSub, Nat.reduceMul, Nat.reduceBEq, Nat.reduceEqDiff, Nat.reduceLeDiff, Nat.reduceLT, Int.reduceNeg, Int.reduceAdd, Int.reduceSub, Int.reduceEq, Int.reduceLT, Int.reduceLE, reduceCtorEq, ↓reduceIte]; done) | (simp -implicitDefEqProofs (disch := (first | omega | (simp only [List.length_map, ByteArray.size_append, bsz, List.size_toArray, List.length_cons, List.length_nil]; omega))) only [go_sem, and_true, true_and, and_self, Int.natCast_nonneg, Nat.zero_add, Int.toNat_zero, Int.cast_ofNat_Int, List.length_append, List.length_take, List.length_drop, List.length_cons, List.length_nil, Option.some.injEq, AV.own.injEq, AV.int.injEq, ne_eq, not_false_eq_true, not_true_eq_false, Nat.reduceAdd, Nat.reduceSub, Nat.reduceMul, Nat.reduceBEq, Nat.reduceEqDiff, Nat.reduceLeDiff, Nat.reduceLT, Int.reduceNeg, Int.reduceAdd, Int.reduceSub, Int.reduceEq, Int.reduceLT, Int.reduceLE, reduceCtorEq, ↓reduceIte]; omega) | (simp -implicitDefEqProofs (disch := (first | omega | (simp only [List.length_map, ByteArray.size_append, bsz, List.size_toArray, List.length_cons, List.length_nil]; omega))) only [go_sem, and_true, true_and, and_self, Int.natCast_nonneg, Nat.zero_add, Int.toNat_zero, Int.cast_ofNat_Int, List.length_append, List.length_take, List.length_drop, List.length_cons, List.length_nil, Option.some.injEq, AV.own.injEq, AV.int.injEq, ne_eq, not_false_eq_true, not_true_eq_false, Nat.reduceAdd, Nat.reduceSub, Nat.reduceMul, Nat.reduceBEq, Nat.reduceEqDiff, Nat.reduceLeDiff, Nat.reduceLT, Int.reduceNeg, Int.reduceAdd, Int.reduceSub, Int.reduceEq, Int.reduceLT, Int.reduceLE, reduceCtorEq, ↓reduceIte]; refine ⟨?_, ?_⟩ <;> congr 1 <;> omega))
        · simp -implicitDefEqProofs (disch := (first | omega | (simp only [List.length_map, ByteArray.size_append, bsz, List.size_toArray, List.length_cons, List.length_nil]; omega))) only [go_sem, and_true, true_and, and_self, Int.natCast_nonneg, Nat.zero_add, Int.toNat_zero, Int.cast_ofNat_Int, h1, hp, nd, b1, ne_eq, not_false_eq_true, not_true_eq_false, Nat.reduceAdd, Nat.reduceSub, Nat.reduceMul, Nat.reduceBEq, Nat.reduceEqDiff, Nat.reduceLeDiff, Nat.reduceLT, Int.reduceNeg, Int.reduceAdd, Int.reduceSub, Int.reduceEq, Int.reduceLT, Int.reduceLE, reduceCtorEq, ↓reduceIte]
          exact next_round m (by omega) _ ⟨k + 1, by omega, next, rfl, rfl⟩ (by repeat (first | exact agree_ov _ _ _ | exact agree_self _ _ | refine agree_wr rfl ?_)) (by first | done | (simp -implicitDefEqProofs (disch := (first | omega | (simp only [List.length_map, ByteArray.size_append, bsz, List.size_toArray, List.length_cons, List.length_nil]; omega))) only [go_sem, and_true, true_and, and_self, Int.natCast_nonneg, Nat.zero_add, Int.toNat_zero, Int.cast_ofNat_Int, List.length_append, List.length_take, List.length_drop, List.length_cons, List.length_nil, Option.some.injEq, AV.own.injEq, AV.int.injEq, ne_eq, not_false_eq_true, not_true_eq_false, Nat.reduceAdd, Nat.reduceSub, Nat.reduceMul, Nat.reduceBEq, Nat.reduceEqDiff, Nat.reduceLeDiff, Nat.reduceLT, Int.reduceNeg, Int.reduceAdd, Int.reduceSub, Int.reduceEq, Int.reduceLT, Int.reduceLE, reduceCtorEq, ↓reduceIte]; done) | (simp -implicitDefEqProofs (disch := (first | omega | (simp only [List.length_map, ByteArray.size_append, bsz, List.size_toArray, List.length_cons, List.length_nil]; omega))) only [go_sem, and_true, true_and, and_self, Int.natCast_nonneg, Nat.zero_add, Int.toNat_zero, Int.cast_ofNat_Int, List.length_append, List.length_take, List.length_drop, List.length_cons, List.length_nil, Option.some.injEq, AV.own.injEq, AV.int.injEq, ne_eq, not_false_eq_true, not_true_eq_false, Nat.reduceAdd, Nat.reduceSub, Nat.reduceMul, Nat.reduceBEq, Nat.reduceEqDiff, Nat.reduceLeDiff, Nat.reduceLT, Int.reduceNeg, Int.reduceAdd, Int.reduceSub, Int.reduceEq, Int.reduceLT, Int.reduceLE, reduceCtorEq, ↓reduceIte]; omega) | (simp -implicitDefEqProofs (disch := (first | omega | (simp only [List.length_map, ByteArray.size_append, bsz, List.size_toArray, List.length_cons, List.length_nil]; omega))) only [go_sem, and_true, true_and, and_self, Int.natCast_nonneg, Nat.zero_add, Int.toNat_zero, Int.cast_ofNat_Int, List.length_append, List.length_take, List.length_drop, List.length_cons, List.length_nil, Option.some.injEq, AV.own.injEq, AV.int.injEq, ne_eq, not_false_eq_true, not_true_eq_false, Nat.reduceAdd, Nat.reduceSub, Nat.reduceMul, Nat.reduceBEq, Nat.reduceEqDiff, Nat.reduceLeDiff, Nat.reduceLT, Int.reduceNeg, Int.reduceAdd, Int.reduceSub, Int.reduceEq, Int.reduceLT, Int.reduceLE, reduceCtorEq, ↓reduceIte]; refine ⟨?_, ?_⟩ <;> congr 1 <;> omega))
  · have hc' : ¬ (checkM l : Int) = 0 := by omega
    refine fun_code [] Try.func20 rfl rfl (by kernel_rfl) rfl ?_
    simp -implicitDefEqProofs (disch := (first | omega | (simp only [List.length_map, ByteArray.size_append, bsz, List.size_toArray, List.length_cons, List.length_nil]; omega))) only [go_sem, and_true, true_and, and_self, Int.natCast_nonneg, Nat.zero_add, Int.toNat_zero, Int.cast_ofNat_Int, Try.ntmps20, nds, strs, ne_eq, not_false_eq_true, not_true_eq_false, Nat.reduceAdd, Nat.reduceSub, Nat.reduceMul, Nat.reduceBEq, Nat.reduceEqDiff, Nat.reduceLeDiff, Nat.reduceLT, Int.reduceNeg, Int.reduceAdd, Int.reduceSub, Int.reduceEq, Int.reduceLT, Int.reduceLE, reduceCtorEq, ↓reduceIte]
    refine call_same _ _ _ (Check_fun l _ hl) ?_
    simp -implicitDefEqProofs (disch := (first | omega | (simp only [List.length_map, ByteArray.size_append, bsz, List.size_toArray, List.length_cons, List.length_nil]; omega))) only [go_sem, and_true, true_and, and_self, Int.natCast_nonneg, Nat.zero_add, Int.toNat_zero, Int.cast_ofNat_Int, hc', ne_eq, not_false_eq_true, not_true_eq_false, Nat.reduceAdd, Nat.reduceSub, Nat.reduceMul, Nat.reduceBEq, Nat.reduceEqDiff, Nat.reduceLeDiff, Nat.reduceLT, Int.reduceNeg, Int.reduceAdd, Int.reduceSub, Int.reduceEq, Int.reduceLT, Int.reduceLE, reduceCtorEq, ↓reduceIte]
    refine Done.same ?_
    unfold textM
    rw [if_neg (fun h => hc h.1)]
    rfl
/-! #### the reference -/
theorem rop {t : Tr} {pre post l : List Nd} (hl : l = pre ++ flat t ++ post) : ∃ p, l[pre.length + sizeM t - 1]? = some p ∧ p.1 = opT t := by
  obtain ⟨p, hp, ho⟩ := flat_last t
  have hs := size_pos t
  have hf := flat_length t
  refine ⟨p, ?_, ho⟩
  rw [hl, List.append_assoc, List.getElem?_append_right (by omega), List.getElem?_append_left (by omega), ← hp]
  congr 1
  omega
theorem RPart_fun (table : List ByteArray) (t : Tr) (a b : Int) (pre post l : List Nd) (σ : AH) (hl : l = pre ++ flat t ++ post) (hx : (txtM table t).size ≤ 1000000000000)
    (ih : AFun Try.prog 95 [strs table, nds l, .int .i64 ((pre.length + sizeM t : Nat) - 1 : Int)] σ (.ret (.str (txtM table t))) σ) :
    AFun Try.prog 180 [strs table, nds l, .int .i64 ((pre.length + sizeM t : Nat) - 1 : Int), .int .i64 a, .int .i64 b] σ (.ret (.str (partM [a, b] t (txtM table t)))) σ := by
  obtain ⟨p, hp, ho⟩ := rop hl
  have hs := size_pos t
  have hf := flat_length t
  have hlen : l.length = pre.length + sizeM t + post.length := by rw [hl]; simp [hf]; omega
  have e : ((pre.length + sizeM t : Nat) : Int) - 1 = ((pre.length + sizeM t - 1 : Nat) : Int) := by omega
  have hlt : ((pre.length + sizeM t - 1 : Nat) : Int) < l.length := by omega
  rw [e] at ih ⊢
  refine fun_code [] Try.func180 rfl rfl (by kernel_rfl) rfl ?_
  simp -implicitDefEqProofs (disch := (first | omega | (simp only [List.length_map, ByteArray.size_append, bsz, List.size_toArray, List.length_cons, List.length_nil]; omega))) only [go_sem, and_true, true_and, and_self, Int.natCast_nonneg, Nat.zero_add, Int.toNat_zero, Int.cast_ofNat_Int, Try.ntmps180, nds, strs, ne_eq, not_false_eq_true, not_true_eq_false, Nat.reduceAdd, Nat.reduceSub, Nat.reduceMul, Nat.reduceBEq, Nat.reduceEqDiff, Nat.reduceLeDiff, Nat.reduceLT, Int.reduceNeg, Int.reduceAdd, Int.reduceSub, Int.reduceEq, Int.reduceLT, Int.reduceLE, reduceCtorEq, ↓reduceIte]
  refine call_same _ _ _ ih ?_
  by_cases h1 : opT t = a
  · simp -implicitDefEqProofs (disch := (first | omega | (simp only [List.length_map, ByteArray.size_append, bsz, List.size_toArray, List.length_cons, List.length_nil]; omega))) only [go_sem, and_true, true_and, and_self, Int.natCast_nonneg, Nat.zero_add, Int.toNat_zero, Int.cast_ofNat_Int, nd, hp, ho, h1, hlt, ne_eq, not_false_eq_true, not_true_eq_false, Nat.reduceAdd, Nat.reduceSub, Nat.reduceMul, Nat.reduceBEq, Nat.reduceEqDiff, Nat.reduceLeDiff, Nat.reduceLT, Int.reduceNeg, Int.reduceAdd, Int.reduceSub, Int.reduceEq, Int.reduceLT, Int.reduceLE, reduceCtorEq, ↓reduceIte]
    refine Done.same ?_
    simp [partM, h1]
  · by_cases h2 : opT t = b
    · have h1' : ¬ b = a := by rw [← h2]; exact h1
      simp -implicitDefEqProofs (disch := (first | omega | (simp only [List.length_map, ByteArray.size_append, bsz, List.size_toArray, List.length_cons, List.length_nil]; omega))) only [go_sem, and_true, true_and, and_self, Int.natCast_nonneg, Nat.zero_add, Int.toNat_zero, Int.cast_ofNat_Int, nd, hp, ho, h1', h2, hlt, ne_eq, not_false_eq_true, not_true_eq_false, Nat.reduceAdd, Nat.reduceSub, Nat.reduceMul, Nat.reduceBEq, Nat.reduceEqDiff, Nat.reduceLeDiff, Nat.reduceLT, Int.reduceNeg, Int.reduceAdd, Int.reduceSub, Int.reduceEq, Int.reduceLT, Int.reduceLE, reduceCtorEq, ↓reduceIte]
      refine Done.same ?_
      simp [partM, h2]
    · simp -implicitDefEqProofs (disch := (first | omega | (simp only [List.length_map, ByteArray.size_append, bsz, List.size_toArray, List.length_cons, List.length_nil]; omega))) only [go_sem, and_true, true_and, and_self, Int.natCast_nonneg, Nat.zero_add, Int.toNat_zero, Int.cast_ofNat_Int, nd, hp, ho, h1, h2, hlt, ne_eq, not_false_eq_true, not_true_eq_false, Nat.reduceAdd, Nat.reduceSub, Nat.reduceMul, Nat.reduceBEq, Nat.reduceEqDiff, Nat.reduceLeDiff, Nat.reduceLT, Int.reduceNeg, Int.reduceAdd, Int.reduceSub, Int.reduceEq, Int.reduceLT, Int.reduceLE, reduceCtorEq, ↓reduceIte]
      refine Done.same ?_
      simp [partM, h1, h2]
theorem RText0_fun (table : List ByteArray) (hT : ∀ s ∈ table, s.size ≤ 1000000) : ∀ (t : Tr) (pre post l : List Nd) (σ : AH), l = pre ++ flat t ++ post → l.length ≤ 100000 → wf t → sizeM t ≤ 31 → okT table.length t →
    AFun Try.prog 95 [strs table, nds l, .int .i64 ((pre.length + sizeM t : Nat) - 1 : Int)] σ (.ret (.str (txtM table t))) σ
  | .leaf p, pre, post, l, σ, hl, hn, hw, h31, hok => by
    have hb := may_bounds hw.1
    have hp := hw.2
    have h3 : ¬ p.1 = 3 := fun h => by rw [h] at hp; cases hp
    have h45 : ¬ p.1 = 4 ∧ ¬ p.1 = 5 := by constructor <;> (intro h; rw [h] at hp; cases hp)
    have hx : l[pre.length]? = some p := by simp [hl, flat]
    have e : ((pre.length + sizeM (.leaf p) : Nat) : Int) - 1 = pre.length := by simp only [sizeM]; omega
    have hlt : (pre.length : Int) < l.length := by have := (List.getElem?_eq_some_iff.1 hx).1; omega
    rw [e]
    by_cases h1 : p.1 = 1
    · refine fun_code [] Try.func95 rfl rfl (by kernel_rfl) rfl ?_
      simp -implicitDefEqProofs (disch := (first | omega | (simp only [List.length_map, ByteArray.size_append, bsz, List.size_toArray, List.length_cons, List.length_nil]; omega))) only [go_sem, and_true, true_and, and_self, Int.natCast_nonneg, Nat.zero_add, Int.toNat_zero, Int.cast_ofNat_Int, Try.ntmps95, nds, strs, hx, nd, hlt, h1, ne_eq, not_false_eq_true, not_true_eq_false, Nat.reduceAdd, Nat.reduceSub, Nat.reduceMul, Nat.reduceBEq, Nat.reduceEqDiff, Nat.reduceLeDiff, Nat.reduceLT, Int.reduceNeg, Int.reduceAdd, Int.reduceSub, Int.reduceEq, Int.reduceLT, Int.reduceLE, reduceCtorEq, ↓reduceIte]
      refine Done.same ?_
      simp [txtM, h1]
    · have h2 : p.1 = 2 := by omega
      have hlt2 : p.2 < table.length := hok h2
      have hx2 : table[p.2.toNat]? = some (table.getD p.2.toNat .empty) := by
        rw [List.getD_eq_getElem?_getD, List.getElem?_eq_getElem (by omega)]; rfl
      have h0 : 0 ≤ p.2 := hb.2.2.2.1
      refine fun_code [] Try.func95 rfl rfl (by kernel_rfl) rfl ?_
      simp -implicitDefEqProofs (disch := (first | omega | (simp only [List.length_map, ByteArray.size_append, bsz, List.size_toArray, List.length_cons, List.length_nil]; omega))) only [go_sem, and_true, true_and, and_self, Int.natCast_nonneg, Nat.zero_add, Int.toNat_zero, Int.cast_ofNat_Int, Try.ntmps95, nds, strs, hx, nd, hlt, h2, hx2, hlt2, h0, ne_eq, not_false_eq_true, not_true_eq_false, Nat.reduceAdd, Nat.reduceSub, Nat.reduceMul, Nat.reduceBEq, Nat.reduceEqDiff, Nat.reduceLeDiff, Nat.reduceLT, Int.reduceNeg, Int.reduceAdd, Int.reduceSub, Int.reduceEq, Int.reduceLT, Int.reduceLE, reduceCtorEq, ↓reduceIte]
      refine Done.same ?_
      simp [txtM, h1]
  | .turned t, pre, post, l, σ, hl, hn, hw, h31, hok => by
    have ih := RText0_fun table hT t pre ((3, 0) :: post) l σ (by simp [hl, flat]) hn hw (by simp only [sizeM] at h31; omega) hok
    have hz := txtM_size hT t
    have h31' : sizeM t ≤ 30 := by simp only [sizeM] at h31; omega
    have hz' : (txtM table t).size ≤ 31 * 1000010 := Nat.le_trans hz (Nat.mul_le_mul (by omega) (Nat.le_refl _))
    have hps := partM_size [4, 5] t (txtM table t)
    have hP := RPart_fun table t 4 5 pre ((3, 0) :: post) l σ (by simp [hl, flat]) (by omega) ih
    have hx : l[pre.length + sizeM t]? = some (3, 0) := by
      have := flat_length t
      simp [hl, flat, ← this, List.getElem?_append_right]
    have e : ((pre.length + sizeM (.turned t) : Nat) : Int) - 1 = ((pre.length + sizeM t : Nat) : Int) := by simp only [sizeM]; omega
    have hlt : ((pre.length + sizeM t : Nat) : Int) < l.length := by have := (List.getElem?_eq_some_iff.1 hx).1; omega
    rw [e]
    refine fun_code [] Try.func95 rfl rfl (by kernel_rfl) rfl ?_
    simp -implicitDefEqProofs (disch := (first | omega | (simp only [List.length_map, ByteArray.size_append, bsz, List.size_toArray, List.length_cons, List.length_nil]; omega))) only [go_sem, and_true, true_and, and_self, Int.natCast_nonneg, Nat.zero_add, Int.toNat_zero, Int.cast_ofNat_Int, Try.ntmps95, nds, strs, hx, nd, hlt, ne_eq, not_false_eq_true, not_true_eq_false, Nat.reduceAdd, Nat.reduceSub, Nat.reduceMul, Nat.reduceBEq, Nat.reduceEqDiff, Nat.reduceLeDiff, Nat.reduceLT, Int.reduceNeg, Int.reduceAdd, Int.reduceSub, Int.reduceEq, Int.reduceLT, Int.reduceLE, reduceCtorEq, ↓reduceIte]
    refine call_same _ _ _ hP ?_
    simp -implicitDefEqProofs (disch := (first | omega | (simp only [List.length_map, ByteArray.size_append, bsz, List.size_toArray, List.length_cons, List.length_nil]; omega))) only [go_sem, and_true, true_and, and_self, Int.natCast_nonneg, Nat.zero_add, Int.toNat_zero, Int.cast_ofNat_Int, ne_eq, not_false_eq_true, not_true_eq_false, Nat.reduceAdd, Nat.reduceSub, Nat.reduceMul, Nat.reduceBEq, Nat.reduceEqDiff, Nat.reduceLeDiff, Nat.reduceLT, Int.reduceNeg, Int.reduceAdd, Int.reduceSub, Int.reduceEq, Int.reduceLT, Int.reduceLE, reduceCtorEq, ↓reduceIte]
    exact .plain
  | .pair o a b, pre, post, l, σ, hl, hn, hw, h31, hok => by
    have fa := flat_length a
    have fb := flat_length b
    have iha := RText0_fun table hT a pre (flat b ++ (if o = true then 5 else 4, 0) :: post) l σ (by simp [hl, flat]) hn hw.1 (by simp only [sizeM] at h31; omega) hok.1
    have ihb := RText0_fun table hT b (pre ++ flat a) ((if o = true then 5 else 4, 0) :: post) l σ (by simp [hl, flat]) hn hw.2 (by simp only [sizeM] at h31; omega) hok.2
    have ha := txtM_size hT a
    have hb := txtM_size hT b
    have h31a : sizeM a ≤ 30 := by simp only [sizeM] at h31; omega
    have h31b : sizeM b ≤ 30 := by simp only [sizeM] at h31; omega
    have ha' : (txtM table a).size ≤ 31 * 1000010 := Nat.le_trans ha (Nat.mul_le_mul (by omega) (Nat.le_refl _))
    have hb' : (txtM table b).size ≤ 31 * 1000010 := Nat.le_trans hb (Nat.mul_le_mul (by omega) (Nat.le_refl _))
    have pa := fun ks => partM_size ks a (txtM table a)
    have pb := fun ks => partM_size ks b (txtM table b)
    have pa0 := pa [0, 0]
    have pa5 := pa [5, 5]
    have pb45 := pb [4, 5]
    have pb5 := pb [5, 5]
    have PA := fun x y => RPart_fun table a x y pre (flat b ++ (if o = true then 5 else 4, 0) :: post) l σ (by simp [hl, flat]) (by omega) iha
    have PB := fun x y => RPart_fun table b x y (pre ++ flat a) ((if o = true then 5 else 4, 0) :: post) l σ (by simp [hl, flat]) (by omega) ihb
    have hx : l[pre.length + sizeM a + sizeM b]? = some (if o = true then 5 else 4, 0) := by
      simp [hl, flat, ← fa, ← fb, List.getElem?_append_right, Nat.add_assoc]
    have e : ((pre.length + sizeM (.pair o a b) : Nat) : Int) - 1 = ((pre.length + sizeM a + sizeM b : Nat) : Int) := by simp only [sizeM]; omega
    have hlt : ((pre.length + sizeM a + sizeM b : Nat) : Int) < l.length := by have := (List.getElem?_eq_some_iff.1 hx).1; omega
    have hBg := Begin_fun l (pre.length + sizeM a + sizeM b) σ hn (by omega)
    have hB : begM l (pre.length + sizeM a + sizeM b) = (pre.length + sizeM a : Nat) := by
      have := begM_flat b (pre ++ flat a) ((if o = true then 5 else 4, 0) :: post) hw.2
      rw [List.length_append, fa] at this
      rw [← this, hl]
      simp [flat]
    rw [hB] at hBg
    simp only [List.length_append, fa] at PB
    have q1 : partM [5, 5] a (txtM table a) = partM [5] a (txtM table a) := by simp [partM]
    have q2 : partM [5, 5] b (txtM table b) = partM [5] b (txtM table b) := by simp [partM]
    have q3 : partM [0, 0] a (txtM table a) = partM [] a (txtM table a) := by
      have : opT a ≠ 0 := by
        cases a with
        | leaf p => have := (may_bounds hw.1.1).1; simp only [opT]; omega
        | turned t => simp [opT]
        | pair o x y => cases o <;> simp [opT]
      simp [partM, this]
    rw [e]
    cases o
    · refine fun_code [] Try.func95 rfl rfl (by kernel_rfl) rfl ?_
      simp -implicitDefEqProofs (disch := (first | omega | (simp only [List.length_map, ByteArray.size_append, bsz, List.size_toArray, List.length_cons, List.length_nil]; omega))) only [go_sem, and_true, true_and, and_self, Int.natCast_nonneg, Nat.zero_add, Int.toNat_zero, Int.cast_ofNat_Int, Try.ntmps95, nds, strs, hx, nd, hlt, ne_eq, not_false_eq_true, not_true_eq_false, Nat.reduceAdd, Nat.reduceSub, Nat.reduceMul, Nat.reduceBEq, Nat.reduceEqDiff, Nat.reduceLeDiff, Nat.reduceLT, Int.reduceNeg, Int.reduceAdd, Int.reduceSub, Int.reduceEq, Int.reduceLT, Int.reduceLE, reduceCtorEq, ↓reduceIte]
      refine call_same _ _ _ hBg ?_
      simp -implicitDefEqProofs (disch := (first | omega | (simp only [List.length_map, ByteArray.size_append, bsz, List.size_toArray, List.length_cons, List.length_nil]; omega))) only [go_sem, and_true, true_and, and_self, Int.natCast_nonneg, Nat.zero_add, Int.toNat_zero, Int.cast_ofNat_Int, ne_eq, not_false_eq_true, not_true_eq_false, Nat.reduceAdd, Nat.reduceSub, Nat.reduceMul, Nat.reduceBEq, Nat.reduceEqDiff, Nat.reduceLeDiff, Nat.reduceLT, Int.reduceNeg, Int.reduceAdd, Int.reduceSub, Int.reduceEq, Int.reduceLT, Int.reduceLE, reduceCtorEq, ↓reduceIte]
      refine call_same _ _ _ (PA 5 5) ?_
      simp -implicitDefEqProofs (disch := (first | omega | (simp only [List.length_map, ByteArray.size_append, bsz, List.size_toArray, List.length_cons, List.length_nil]; omega))) only [go_sem, and_true, true_and, and_self, Int.natCast_nonneg, Nat.zero_add, Int.toNat_zero, Int.cast_ofNat_Int, ne_eq, not_false_eq_true, not_true_eq_false, Nat.reduceAdd, Nat.reduceSub, Nat.reduceMul, Nat.reduceBEq, Nat.reduceEqDiff, Nat.reduceLeDiff, Nat.reduceLT, Int.reduceNeg, Int.reduceAdd, Int.reduceSub, Int.reduceEq, Int.reduceLT, Int.reduceLE, reduceCtorEq, ↓reduceIte]
      refine call_same _ _ _ (PB 4 5) ?_
      simp -implicitDefEqProofs (disch := (first | omega | (simp only [List.length_map, ByteArray.size_append, bsz, List.size_toArray, List.length_cons, List.length_nil]; omega))) only [go_sem, and_true, true_and, and_self, Int.natCast_nonneg, Nat.zero_add, Int.toNat_zero, Int.cast_ofNat_Int, ne_eq, not_false_eq_true, not_true_eq_false, Nat.reduceAdd, Nat.reduceSub, Nat.reduceMul, Nat.reduceBEq, Nat.reduceEqDiff, Nat.reduceLeDiff, Nat.reduceLT, Int.reduceNeg, Int.reduceAdd, Int.reduceSub, Int.reduceEq, Int.reduceLT, Int.reduceLE, reduceCtorEq, ↓reduceIte]
      refine Done.same ?_
      simp only [txtM, q1, ByteArray.append_assoc]
      rfl
    · refine fun_code [] Try.func95 rfl rfl (by kernel_rfl) rfl ?_
      simp -implicitDefEqProofs (disch := (first | omega | (simp only [List.length_map, ByteArray.size_append, bsz, List.size_toArray, List.length_cons, List.length_nil]; omega))) only [go_sem, and_true, true_and, and_self, Int.natCast_nonneg, Nat.zero_add, Int.toNat_zero, Int.cast_ofNat_Int, Try.ntmps95, nds, strs, hx, nd, hlt, ne_eq, not_false_eq_true, not_true_eq_false, Nat.reduceAdd, Nat.reduceSub, Nat.reduceMul, Nat.reduceBEq, Nat.reduceEqDiff, Nat.reduceLeDiff, Nat.reduceLT, Int.reduceNeg, Int.reduceAdd, Int.reduceSub, Int.reduceEq, Int.reduceLT, Int.reduceLE, reduceCtorEq, ↓reduceIte]
      refine call_same _ _ _ hBg ?_
      simp -implicitDefEqProofs (disch := (first | omega | (simp only [List.length_map, ByteArray.size_append, bsz, List.size_toArray, List.length_cons, List.length_nil]; omega))) only [go_sem, and_true, true_and, and_self, Int.natCast_nonneg, Nat.zero_add, Int.toNat_zero, Int.cast_ofNat_Int, ne_eq, not_false_eq_true, not_true_eq_false, Nat.reduceAdd, Nat.reduceSub, Nat.reduceMul, Nat.reduceBEq, Nat.reduceEqDiff, Nat.reduceLeDiff, Nat.reduceLT, Int.reduceNeg, Int.reduceAdd, Int.reduceSub, Int.reduceEq, Int.reduceLT, Int.reduceLE, reduceCtorEq, ↓reduceIte]
      refine call_same _ _ _ (PA 0 0) ?_
      simp -implicitDefEqProofs (disch := (first | omega | (simp only [List.length_map, ByteArray.size_append, bsz, List.size_toArray, List.length_cons, List.length_nil]; omega))) only [go_sem, and_true, true_and, and_self, Int.natCast_nonneg, Nat.zero_add, Int.toNat_zero, Int.cast_ofNat_Int, ne_eq, not_false_eq_true, not_true_eq_false, Nat.reduceAdd, Nat.reduceSub, Nat.reduceMul, Nat.reduceBEq, Nat.reduceEqDiff, Nat.reduceLeDiff, Nat.reduceLT, Int.reduceNeg, Int.reduceAdd, Int.reduceSub, Int.reduceEq, Int.reduceLT, Int.reduceLE, reduceCtorEq, ↓reduceIte]
      refine call_same _ _ _ (PB 5 5) ?_
      simp -implicitDefEqProofs (disch := (first | omega | (simp only [List.length_map, ByteArray.size_append, bsz, List.size_toArray, List.length_cons, List.length_nil]; omega))) only [go_sem, and_true, true_and, and_self, Int.natCast_nonneg, Nat.zero_add, Int.toNat_zero, Int.cast_ofNat_Int, ne_eq, not_false_eq_true, not_true_eq_false, Nat.reduceAdd, Nat.reduceSub, Nat.reduceMul, Nat.reduceBEq, Nat.reduceEqDiff, Nat.reduceLeDiff, Nat.reduceLT, Int.reduceNeg, Int.reduceAdd, Int.reduceSub, Int.reduceEq, Int.reduceLT, Int.reduceLE, reduceCtorEq, ↓reduceIte]
      refine Done.same ?_
      simp only [txtM, q2, q3, ByteArray.append_assoc]
      rfl
end Go.Proofs.Ytigelnkhggkmcaa
end
section
namespace Go.Proofs.Ytigelnkhggkmcaa
open Go.Abs Go.Abs.Pl
set_option linter.unusedSimpArgs false
set_option maxHeartbeats 4000000
set_option maxRecDepth 20000
theorem RText_fun (table : List ByteArray) (l : List Nd) (σ : AH) (hT : ∀ s ∈ table, s.size ≤ 1000000) (hl : l.length ≤ 100000) : AFun Try.prog 21 [strs table, nds l] σ (.ret (.str (textM table l))) σ := by
  by_cases hc : checkM l = 0
  · obtain ⟨t, hm, h8, h31⟩ := check_zero hc
    obtain ⟨hw, rfl⟩ := (made_iff l t).1 hm
    have hfl := flat_length t
    refine fun_code [] Try.func21 rfl rfl (by kernel_rfl) rfl ?_
    simp -implicitDefEqProofs (disch := (first | omega | (simp only [List.length_map, ByteArray.size_append, bsz, List.size_toArray, List.length_cons, List.length_nil]; omega))) only [go_sem, and_true, true_and, and_self, Int.natCast_nonneg, Nat.zero_add, Int.toNat_zero, Int.cast_ofNat_Int, Try.ntmps21, nds, strs, ne_eq, not_false_eq_true, not_true_eq_false, Nat.reduceAdd, Nat.reduceSub, Nat.reduceMul, Nat.reduceBEq, Nat.reduceEqDiff, Nat.reduceLeDiff, Nat.reduceLT, Int.reduceNeg, Int.reduceAdd, Int.reduceSub, Int.reduceEq, Int.reduceLT, Int.reduceLE, reduceCtorEq, ↓reduceIte]
    refine call_same _ _ _ (RCheck_fun (flat t) _ hl) ?_
    simp -implicitDefEqProofs (disch := (first | omega | (simp only [List.length_map, ByteArray.size_append, bsz, List.size_toArray, List.length_cons, List.length_nil]; omega))) only [go_sem, and_true, true_and, and_self, Int.natCast_nonneg, Nat.zero_add, Int.toNat_zero, Int.cast_ofNat_Int, hc, ne_eq, not_false_eq_true, not_true_eq_false, Nat.reduceAdd, Nat.reduceSub, Nat.reduceMul, Nat.reduceBEq, Nat.reduceEqDiff, Nat.reduceLeDiff, Nat.reduceLT, Int.reduceNeg, Int.reduceAdd, Int.reduceSub, Int.reduceEq, Int.reduceLT, Int.reduceLE, reduceCtorEq, ↓reduceIte]
    refine loop_keep [(4, 5), (9, 30)] (fun m s τ => ∃ k : Nat, k + m = (flat t).length ∧ (∀ p ∈ (flat t).take k, badA table.length p = false) ∧ τ = σ ∧ s = [(5, .int .i64 k)]) (flat t).length _ ⟨0, by omega, by simp, rfl, rfl⟩ (by first | done | (simp -implicitDefEqProofs (disch := (first | omega | (simp only [List.length_map, ByteArray.size_append, bsz, List.size_toArray, List.length_cons, List.length_nil]; omega))) only [go_sem, and_true, true_and, and_self, Int.natCast_nonneg, Nat.zero_add, Int.toNat_zero, Int.cast_ofNat_Int, List.length_append, List.length_take, List.length_drop, List.length_cons, List.length_nil, Option.some.injEq, AV.own.injEq, AV.int.injEq, ne_eq, not_false_eq_true, not_true_eq_false, Nat.reduceAdd, Nat.reduceSub, Nat.reduceMul, Nat.reduceBEq, Nat.reduceEqDiff, Nat.reduceLeDiff, Nat.reduceLT, Int.reduceNeg, Int.reduceAdd, Int.reduceSub, Int.reduceEq, Int.reduceLT, Int.reduceLE, reduceCtorEq, ↓reduceIte]; done) | (simp -implicitDefEqProofs (disch := (first | omega | (simp only [List.length_map, ByteArray.size_append, bsz, List.size_toArray, List.length_cons, List.length_nil]; omega))) only [go_sem, and_true, true_and, and_self, Int.natCast_nonneg, Nat.zero_add, Int.toNat_zero, Int.cast_ofNat_Int, List.length_append, List.length_take, List.length_drop, List.length_cons, List.length_nil, Option.some.injEq, AV.own.injEq, AV.int.injEq, ne_eq, not_false_eq_true, not_true_eq_false, Nat.reduceAdd, Nat.reduceSub, Nat.reduceMul, Nat.reduceBEq, Nat.reduceEqDiff, Nat.reduceLeDiff, Nat.reduceLT, Int.reduceNeg, Int.reduceAdd, Int.reduceSub, Int.reduceEq, Int.reduceLT, Int.reduceLE, reduceCtorEq, ↓reduceIte]; omega) | (simp -implicitDefEqProofs (disch := (first | omega | (simp only [List.length_map, ByteArray.size_append, bsz, List.size_toArray, List.length_cons, List.length_nil]; omega))) only [go_sem, and_true, true_and, and_self, Int.natCast_nonneg, Nat.zero_add, Int.toNat_zero, Int.cast_ofNat_Int, List.length_append, List.length_take, List.length_drop, List.length_cons, List.length_nil, Option.some.injEq, AV.own.injEq, AV.int.injEq, ne_eq, not_false_eq_true, not_true_eq_false, Nat.reduceAdd, Nat.reduceSub, Nat.reduceMul, Nat.reduceBEq, Nat.reduceEqDiff, Nat.reduceLeDiff, Nat.reduceLT, Int.reduceNeg, Int.reduceAdd, Int.reduceSub, Int.reduceEq, Int.reduceLT, Int.reduceLE, reduceCtorEq, ↓reduceIte]; refine ⟨?_, ?_⟩ <;> congr 1 <;> omega)) ?_
    rintro m s g τ ⟨k, hk, hno, rfl, rfl⟩
    cases m with
    | zero =>
      have h1 : ¬ (k : Int) < (flat t).length := by omega
      have hb := any_bad hno (by omega)
      have ht := RText0_fun table hT t [] [] (flat t) τ (by simp) hl hw (by omega) (okT_of _ t (by simpa using hb))
      rw [List.length_nil, Nat.zero_add, ← hfl] at ht
      simp -implicitDefEqProofs (disch := (first | omega | (simp only [List.length_map, ByteArray.size_append, bsz, List.size_toArray, List.length_cons, List.length_nil]; omega))) only [go_sem, and_true, true_and, and_self, Int.natCast_nonneg, Nat.zero_add, Int.toNat_zero, Int.cast_ofNat_Int, h1, ne_eq, not_false_eq_true, not_true_eq_false, Nat.reduceAdd, Nat.reduceSub, Nat.reduceMul, Nat.reduceBEq, Nat.reduceEqDiff, Nat.reduceLeDiff, Nat.reduceLT, Int.reduceNeg, Int.reduceAdd, Int.reduceSub, Int.reduceEq, Int.reduceLT, Int.reduceLE, reduceCtorEq, ↓reduceIte]
      refine call_same _ _ _ ht ?_
      simp -implicitDefEqProofs (disch := (first | omega | (simp only [List.length_map, ByteArray.size_append, bsz, List.size_toArray, List.length_cons, List.length_nil]; omega))) only [go_sem, and_true, true_and, and_self, Int.natCast_nonneg, Nat.zero_add, Int.toNat_zero, Int.cast_ofNat_Int, ne_eq, not_false_eq_true, not_true_eq_false, Nat.reduceAdd, Nat.reduceSub, Nat.reduceMul, Nat.reduceBEq, Nat.reduceEqDiff, Nat.reduceLeDiff, Nat.reduceLT, Int.reduceNeg, Int.reduceAdd, Int.reduceSub, Int.reduceEq, Int.reduceLT, Int.reduceLE, reduceCtorEq, ↓reduceIte]
      rw [textM_tree hw h8 (by omega) hb]
      exact .plain
    | succ m =>
      obtain ⟨p, hp⟩ : ∃ p, (flat t)[k]? = some p := ⟨_, List.getElem?_eq_getElem (by omega)⟩
      have h1 : (k : Int) < (flat t).length := by omega
      cases hbp : badA table.length p with
      | true =>
        have hb := hbp
        simp only [badA, Bool.and_eq_true, decide_eq_true_eq] at hb
        obtain ⟨b1, b2⟩ := hb
        simp -implicitDefEqProofs (disch := (first | omega | (simp only [List.length_map, ByteArray.size_append, bsz, List.size_toArray, List.length_cons, List.length_nil]; omega))) only [go_sem, and_true, true_and, and_self, Int.natCast_nonneg, Nat.zero_add, Int.toNat_zero, Int.cast_ofNat_Int, h1, hp, nd, b1, b2, ne_eq, not_false_eq_true, not_true_eq_false, Nat.reduceAdd, Nat.reduceSub, Nat.reduceMul, Nat.reduceBEq, Nat.reduceEqDiff, Nat.reduceLeDiff, Nat.reduceLT, Int.reduceNeg, Int.reduceAdd, Int.reduceSub, Int.reduceEq, Int.reduceLT, Int.reduceLE, reduceCtorEq, ↓reduceIte]
        refine Done.same ?_
        unfold textM
        rw [if_neg]
        · rfl
        · rintro ⟨_, h⟩
          have := List.any_eq_false.1 h p (List.mem_of_getElem? hp)
          rw [hbp] at this
          exact this rfl
      | false =>
        have next : ∀ q ∈ (flat t).take (k + 1), badA table.length q = false := by
          rw [List.take_succ, hp]
          intro q hq
          rcases List.mem_append.1 hq with hq | hq
          · exact hno q hq
          · simp at hq
            subst hq
            exact hbp
        have hb := hbp
        simp only [badA, Bool.and_eq_false_iff, decide_eq_false_iff_not] at hb
        by_cases b1 : p.1 = 2
        · have b2 : ¬ (table.length : Int) ≤ p.2 := by rcases hb with hb | hb; exact absurd b1 hb; exact hb
          simp -implicitDefEqProofs (disch := (first | omega | (simp only [List.length_map, ByteArray.size_append, bsz, List.size_toArray, List.length_cons, List.length_nil]; omega))) only [go_sem, and_true, true_and, and_self, Int.natCast_nonneg, Nat.zero_add, Int.toNat_zero, Int.cast_ofNat_Int, h1, hp, nd, b1, b2, ne_eq, not_false_eq_true, not_true_eq_false, Nat.reduceAdd, Nat.reduceSub, Nat.reduceMul, Nat.reduceBEq, Nat.reduceEqDiff, Nat.reduceLeDiff, Nat.reduceLT, Int.reduceNeg, Int.reduceAdd, Int.reduceSub, Int.reduceEq, Int.reduceLT, Int.reduceLE, reduceCtorEq, ↓reduceIte]
          exact next_round m (by omega) _ ⟨k + 1, by omega, next, rfl, rfl⟩ (by repeat (first | exact agree_ov _ _ _ | exact agree_self _ _ | refine agree_wr rfl ?_)) (by first | done | (simp -implicitDefEqProofs (disch := (first | omega | (simp only [List.length_map, ByteArray.size_append, bsz, List.size_toArray, List.length_cons, List.length_nil]; omega))) only [go_sem, and_true, true_and, and_self, Int.natCast_nonneg, Nat.zero_add, Int.toNat_zero, Int.cast_ofNat_Int, List.length_append, List.length_take, List.length_drop, List.length_cons, List.length_nil, Option.some.injEq, AV.own.injEq, AV.int.injEq, ne_eq, not_false_eq_true, not_true_eq_false, Nat.reduceAdd, Nat.reduceSub, Nat.reduceMul, Nat.reduceBEq, Nat.reduceEqDiff, Nat.reduceLeDiff, Nat.reduceLT, Int.reduceNeg, Int.reduceAdd, Int.reduceSub, Int.reduceEq, Int.reduceLT, Int.reduceLE, reduceCtorEq, ↓reduceIte]; done) | (simp -implicitDefEqProofs (disch := (first | omega | (simp only [List.length_map, ByteArray.size_append, bsz, List.size_toArray, List.length_cons, List.length_nil]; omega))) only [go_sem, and_true, true_and, and_self, Int.natCast_nonneg, Nat.zero_add, Int.toNat_zero, Int.cast_ofNat_Int, List.length_append, List.length_take, List.length_drop, List.length_cons, List.length_nil, Option.some.injEq, AV.own.injEq, AV.int.injEq, ne_eq, not_false_eq_true, not_true_eq_false, Nat.reduceAdd, Nat.reduceSub, Nat.reduceMul, Nat.reduceBEq, Nat.reduceEqDiff, Nat.reduceLeDiff, Nat.reduceLT, Int.reduceNeg, Int.reduceAdd, Int.reduceSub, Int.reduceEq, Int.reduceLT, Int.reduceLE, reduceCtorEq, ↓reduceIte]; omega) | (simp -implicitDefEqProofs (disch := (first | omega | (simp only [List.length_map, ByteArray.size_append, bsz, List.size_toArray, List.length_cons, List.length_nil]; omega))) only [go_sem, and_true, true_and, and_self, Int.natCast_nonneg, Nat.zero_add, Int.toNat_zero, Int.cast_ofNat_Int, List.length_append, List.length_take, List.length_drop, List.length_cons, List.length_nil, Option.some.injEq, AV.own.injEq, AV.int.injEq, ne_eq, not_false_eq_true, not_true_eq_false, Nat.reduceAdd, Nat.reduceSub, Nat.reduceMul, Nat.reduceBEq, Nat.reduceEqDiff, Nat.reduceLeDiff, Nat.reduceLT, Int.reduceNeg, Int.reduceAdd, Int.reduceSub, Int.reduceEq, Int.reduceLT, Int.reduceLE, reduceCtorEq, ↓reduceIte]; refine ⟨?_, ?_⟩ <;> congr 1 <;> omega))
        · simp -implicitDefEqProofs (disch := (first | omega | (simp only [List.length_map, ByteArray.size_append, bsz, List.size_toArray, List.length_cons, List.length_nil]; omega))) only [go_sem, and_true, true_and, and_self, Int.natCast_nonneg, Nat.zero_add, Int.toNat_zero, Int.cast_ofNat_Int, h1, hp, nd, b1, ne_eq, not_false_eq_true, not_true_eq_false, Nat.reduceAdd, Nat.reduceSub, Nat.reduceMul, Nat.reduceBEq, Nat.reduceEqDiff, Nat.reduceLeDiff, Nat.reduceLT, Int.reduceNeg, Int.reduceAdd, Int.reduceSub, Int.reduceEq, Int.reduceLT, Int.reduceLE, reduceCtorEq, ↓reduceIte]
          exact next_round m (by omega) _ ⟨k + 1, by omega, next, rfl, rfl⟩ (by repeat (first | exact agree_ov _ _ _ | exact agree_self _ _ | refine agree_wr rfl ?_)) (by first | done | (simp -implicitDefEqProofs (disch := (first | omega | (simp only [List.length_map, ByteArray.size_append, bsz, List.size_toArray, List.length_cons, List.length_nil]; omega))) only [go_sem, and_true, true_and, and_self, Int.natCast_nonneg, Nat.zero_add, Int.toNat_zero, Int.cast_ofNat_Int, List.length_append, List.length_take, List.length_drop, List.length_cons, List.length_nil, Option.some.injEq, AV.own.injEq, AV.int.injEq, ne_eq, not_false_eq_true, not_true_eq_false, Nat.reduceAdd, Nat.reduceSub, Nat.reduceMul, Nat.reduceBEq, Nat.reduceEqDiff, Nat.reduceLeDiff, Nat.reduceLT, Int.reduceNeg, Int.reduceAdd, Int.reduceSub, Int.reduceEq, Int.reduceLT, Int.reduceLE, reduceCtorEq, ↓reduceIte]; done) | (simp -implicitDefEqProofs (disch := (first | omega | (simp only [List.length_map, ByteArray.size_append, bsz, List.size_toArray, List.length_cons, List.length_nil]; omega))) only [go_sem, and_true, true_and, and_self, Int.natCast_nonneg, Nat.zero_add, Int.toNat_zero, Int.cast_ofNat_Int, List.length_append, List.length_take, List.length_drop, List.length_cons, List.length_nil, Option.some.injEq, AV.own.injEq, AV.int.injEq, ne_eq, not_false_eq_true, not_true_eq_false, Nat.reduceAdd, Nat.reduceSub, Nat.reduceMul, Nat.reduceBEq, Nat.reduceEqDiff, Nat.reduceLeDiff, Nat.reduceLT, Int.reduceNeg, Int.reduceAdd, Int.reduceSub, Int.reduceEq, Int.reduceLT, Int.reduceLE, reduceCtorEq, ↓reduceIte]; omega) | (simp -implicitDefEqProofs (disch := (first | omega | (simp only [List.length_map, ByteArray.size_append, bsz, List.size_toArray, List.length_cons, List.length_nil]; omega))) only [go_sem, and_true, true_and, and_self, Int.natCast_nonneg, Nat.zero_add, Int.toNat_zero, Int.cast_ofNat_Int, List.length_append, List.length_take, List.length_drop, List.length_cons, List.length_nil, Option.some.injEq, AV.own.injEq, AV.int.injEq, ne_eq, not_false_eq_true, not_true_eq_false, Nat.reduceAdd, Nat.reduceSub, Nat.reduceMul, Nat.reduceBEq, Nat.reduceEqDiff, Nat.reduceLeDiff, Nat.reduceLT, Int.reduceNeg, Int.reduceAdd, Int.reduceSub, Int.reduceEq, Int.reduceLT, Int.reduceLE, reduceCtorEq, ↓reduceIte]; refine ⟨?_, ?_⟩ <;> congr 1 <;> omega))
  · have hc' : ¬ (checkM l : Int) = 0 := by omega
    refine fun_code [] Try.func21 rfl rfl (by kernel_rfl) rfl ?_
    simp -implicitDefEqProofs (disch := (first | omega | (simp only [List.length_map, ByteArray.size_append, bsz, List.size_toArray, List.length_cons, List.length_nil]; omega))) only [go_sem, and_true, true_and, and_self, Int.natCast_nonneg, Nat.zero_add, Int.toNat_zero, Int.cast_ofNat_Int, Try.ntmps21, nds, strs, ne_eq, not_false_eq_true, not_true_eq_false, Nat.reduceAdd, Nat.reduceSub, Nat.reduceMul, Nat.reduceBEq, Nat.reduceEqDiff, Nat.reduceLeDiff, Nat.reduceLT, Int.reduceNeg, Int.reduceAdd, Int.reduceSub, Int.reduceEq, Int.reduceLT, Int.reduceLE, reduceCtorEq, ↓reduceIte]
    refine call_same _ _ _ (RCheck_fun l _ hl) ?_
    simp -implicitDefEqProofs (disch := (first | omega | (simp only [List.length_map, ByteArray.size_append, bsz, List.size_toArray, List.length_cons, List.length_nil]; omega))) only [go_sem, and_true, true_and, and_self, Int.natCast_nonneg, Nat.zero_add, Int.toNat_zero, Int.cast_ofNat_Int, hc', ne_eq, not_false_eq_true, not_true_eq_false, Nat.reduceAdd, Nat.reduceSub, Nat.reduceMul, Nat.reduceBEq, Nat.reduceEqDiff, Nat.reduceLeDiff, Nat.reduceLT, Int.reduceNeg, Int.reduceAdd, Int.reduceSub, Int.reduceEq, Int.reduceLT, Int.reduceLE, reduceCtorEq, ↓reduceIte]
    refine Done.same ?_
    unfold textM
    rw [if_neg (fun h => hc h.1)]
    rfl
theorem textM_size {table : List ByteArray} (hT : ∀ s ∈ table, s.size ≤ 1000000) (l : List Nd) : (textM table l).size ≤ 31 * 1000010 := by
  unfold textM
  split
  · rename_i h
    obtain ⟨t, hm, h8, h31⟩ := check_zero h.1
    rw [hm]
    have := madeM_size hm
    exact Nat.le_trans (txtM_size hT t) (Nat.mul_le_mul (by omega) (Nat.le_refl _))
  · exact Nat.zero_le _
def linesM (table : List ByteArray) (ls : List (List Nd)) : ByteArray := ls.foldl (fun acc l => acc ++ textM table l ++ ⟨#[10]⟩) .empty
theorem lines_succ (table : List ByteArray) (ls : List (List Nd)) (k : Nat) (l : List Nd) (h : ls[k]? = some l) : linesM table (ls.take (k + 1)) = linesM table (ls.take k) ++ textM table l ++ ⟨#[10]⟩ := by
  rw [List.take_succ, h]
  simp [linesM]
theorem Lines_fun (table : List ByteArray) (ls : List (List Nd)) (σ : AH) (hT : ∀ s ∈ table, s.size ≤ 1000000) (hl : ls.length ≤ 100) (hll : ∀ l ∈ ls, l.length ≤ 100000) : AFun Try.prog 22 [strs table, ndss ls] σ (.ret (.str (linesM table ls))) σ := by
  refine fun_code [5] Try.func22 rfl rfl (by kernel_rfl) rfl ?_
  simp -implicitDefEqProofs (disch := (first | omega | (simp only [List.length_map, ByteArray.size_append, bsz, List.size_toArray, List.length_cons, List.length_nil]; omega))) only [go_sem, and_true, true_and, and_self, Int.natCast_nonneg, Nat.zero_add, Int.toNat_zero, Int.cast_ofNat_Int, Try.ntmps22, ndss, strs, ne_eq, not_false_eq_true, not_true_eq_false, Nat.reduceAdd, Nat.reduceSub, Nat.reduceMul, Nat.reduceBEq, Nat.reduceEqDiff, Nat.reduceLeDiff, Nat.reduceLT, Int.reduceNeg, Int.reduceAdd, Int.reduceSub, Int.reduceEq, Int.reduceLT, Int.reduceLE, reduceCtorEq, ↓reduceIte]
  refine loop_keep [(7, 7), (10, 19)] (fun m s τ => ∃ k : Nat, k + m = ls.length ∧ (linesM table (ls.take k)).size ≤ k * (31 * 1000010 + 1) ∧ IsB σ (linesM table (ls.take k)) τ ∧
    (0 < k → 0 < (linesM table (ls.take k)).size ∧ ∃ hw, τ = σ ++ [bld (.ptr σ.length 1 0 0) (.own (σ.length + 1) 1 hw 0 (linesM table (ls.take k)).size), arow 5 1 hw (bytesA (linesM table (ls.take k)))]) ∧
    (k = 0 → τ = σ ++ [bld .nilptr .nilsl]) ∧ s = [(10, .int .i64 k)]) ls.length _ ⟨0, by omega, by simp [linesM], .inl ⟨rfl, rfl⟩, by omega, fun _ => rfl, rfl⟩ (by first | done | (simp -implicitDefEqProofs (disch := (first | omega | (simp only [List.length_map, ByteArray.size_append, bsz, List.size_toArray, List.length_cons, List.length_nil]; omega))) only [go_sem, and_true, true_and, and_self, Int.natCast_nonneg, Nat.zero_add, Int.toNat_zero, Int.cast_ofNat_Int, List.length_append, List.length_take, List.length_drop, List.length_cons, List.length_nil, Option.some.injEq, AV.own.injEq, AV.int.injEq, ne_eq, not_false_eq_true, not_true_eq_false, Nat.reduceAdd, Nat.reduceSub, Nat.reduceMul, Nat.reduceBEq, Nat.reduceEqDiff, Nat.reduceLeDiff, Nat.reduceLT, Int.reduceNeg, Int.reduceAdd, Int.reduceSub, Int.reduceEq, Int.reduceLT, Int.reduceLE, reduceCtorEq, ↓reduceIte]; done) | (simp -implicitDefEqProofs (disch := (first | omega | (simp only [List.length_map, ByteArray.size_append, bsz, List.size_toArray, List.length_cons, List.length_nil]; omega))) only [go_sem, and_true, true_and, and_self, Int.natCast_nonneg, Nat.zero_add, Int.toNat_zero, Int.cast_ofNat_Int, List.length_append, List.length_take, List.length_drop, List.length_cons, List.length_nil, Option.some.injEq, AV.own.injEq, AV.int.injEq, ne_eq, not_false_eq_true, not_true_eq_false, Nat.reduceAdd, Nat.reduceSub, Nat.reduceMul, Nat.reduceBEq, Nat.reduceEqDiff, Nat.reduceLeDiff, Nat.reduceLT, Int.reduceNeg, Int.reduceAdd, Int.reduceSub, Int.reduceEq, Int.reduceLT, Int.reduceLE, reduceCtorEq, ↓reduceIte]; omega) | (simp -implicitDefEqProofs (disch := (first | omega | (simp only [List.length_map, ByteArray.size_append, bsz, List.size_toArray, List.length_cons, List.length_nil]; omega))) only [go_sem, and_true, true_and, and_self, Int.natCast_nonneg, Nat.zero_add, Int.toNat_zero, Int.cast_ofNat_Int, List.length_append, List.length_take, List.length_drop, List.length_cons, List.length_nil, Option.some.injEq, AV.own.injEq, AV.int.injEq, ne_eq, not_false_eq_true, not_true_eq_false, Nat.reduceAdd, Nat.reduceSub, Nat.reduceMul, Nat.reduceBEq, Nat.reduceEqDiff, Nat.reduceLeDiff, Nat.reduceLT, Int.reduceNeg, Int.reduceAdd, Int.reduceSub, Int.reduceEq, Int.reduceLT, Int.reduceLE, reduceCtorEq, ↓reduceIte]; refine ⟨?_, ?_⟩ <;> congr 1 <;> omega)) ?_
  rintro m s g τ ⟨k, hk, hsz, hB, hp, h0, rfl⟩
  cases m with
  | zero =>
    have h1 : ¬ (k : Int) < ls.length := by omega
    have hfull : ls.take k = ls := List.take_of_length_le (by omega)
    simp -implicitDefEqProofs (disch := (first | omega | (simp only [List.length_map, ByteArray.size_append, bsz, List.size_toArray, List.length_cons, List.length_nil]; omega))) only [go_sem, and_true, true_and, and_self, Int.natCast_nonneg, Nat.zero_add, Int.toNat_zero, Int.cast_ofNat_Int, h1, ne_eq, not_false_eq_true, not_true_eq_false, Nat.reduceAdd, Nat.reduceSub, Nat.reduceMul, Nat.reduceBEq, Nat.reduceEqDiff, Nat.reduceLeDiff, Nat.reduceLT, Int.reduceNeg, Int.reduceAdd, Int.reduceSub, Int.reduceEq, Int.reduceLT, Int.reduceLE, reduceCtorEq, ↓reduceIte]
    by_cases hk0 : k = 0
    · rw [h0 hk0]
      have hls : ls = [] := List.eq_nil_of_length_eq_zero (by omega)
      refine call_ret _ _ _ (string0_fun σ) ?_
      simp -implicitDefEqProofs (disch := (first | omega | (simp only [List.length_map, ByteArray.size_append, bsz, List.size_toArray, List.length_cons, List.length_nil]; omega))) only [go_sem, and_true, true_and, and_self, Int.natCast_nonneg, Nat.zero_add, Int.toNat_zero, Int.cast_ofNat_Int, ne_eq, not_false_eq_true, not_true_eq_false, Nat.reduceAdd, Nat.reduceSub, Nat.reduceMul, Nat.reduceBEq, Nat.reduceEqDiff, Nat.reduceLeDiff, Nat.reduceLT, Int.reduceNeg, Int.reduceAdd, Int.reduceSub, Int.reduceEq, Int.reduceLT, Int.reduceLE, reduceCtorEq, ↓reduceIte]
      refine Done.lit ?_ trivial
      rw [hls]
      rfl
    · obtain ⟨hpos, hw, rfl⟩ := hp (by omega)
      rw [hfull] at hpos hsz ⊢
      have hk100 : (linesM table ls).size ≤ 100 * (31 * 1000010 + 1) := Nat.le_trans hsz (Nat.mul_le_mul (by omega) (Nat.le_refl _))
      obtain ⟨τ', _, hs⟩ := string_fun σ (linesM table ls) hw hpos (by omega)
      refine call_ret _ _ _ hs ?_
      simp -implicitDefEqProofs (disch := (first | omega | (simp only [List.length_map, ByteArray.size_append, bsz, List.size_toArray, List.length_cons, List.length_nil]; omega))) only [go_sem, and_true, true_and, and_self, Int.natCast_nonneg, Nat.zero_add, Int.toNat_zero, Int.cast_ofNat_Int, ne_eq, not_false_eq_true, not_true_eq_false, Nat.reduceAdd, Nat.reduceSub, Nat.reduceMul, Nat.reduceBEq, Nat.reduceEqDiff, Nat.reduceLeDiff, Nat.reduceLT, Int.reduceNeg, Int.reduceAdd, Int.reduceSub, Int.reduceEq, Int.reduceLT, Int.reduceLE, reduceCtorEq, ↓reduceIte]
      exact Done.lit rfl trivial
  | succ m =>
    obtain ⟨l, hx⟩ : ∃ l, ls[k]? = some l := ⟨_, List.getElem?_eq_getElem (by omega)⟩
    have h1 : (k : Int) < ls.length := by omega
    have hk100 : (linesM table (ls.take k)).size ≤ 100 * (31 * 1000010 + 1) := Nat.le_trans hsz (Nat.mul_le_mul (by omega) (Nat.le_refl _))
    have hts := textM_size hT l
    obtain ⟨τ₁, ⟨hB₁, _⟩, hw₁⟩ := write_fun σ τ (linesM table (ls.take k)) (textM table l) hB (by omega) (by omega)
    have hs1 : (linesM table (ls.take k) ++ textM table l).size = (linesM table (ls.take k)).size + (textM table l).size := ByteArray.size_append
    obtain ⟨τ₂, ⟨hB₂, hp₂⟩, hw₂⟩ := write_fun σ τ₁ (linesM table (ls.take k) ++ textM table l) ⟨#[10]⟩ hB₁ (by omega) (by decide)
    have hsucc := lines_succ table ls k l hx
    have hs2 : (linesM table (ls.take (k + 1))).size = (linesM table (ls.take k)).size + (textM table l).size + 1 := by
      rw [hsucc, ByteArray.size_append, hs1]
      rfl
    simp -implicitDefEqProofs (disch := (first | omega | (simp only [List.length_map, ByteArray.size_append, bsz, List.size_toArray, List.length_cons, List.length_nil]; omega))) only [go_sem, and_true, true_and, and_self, Int.natCast_nonneg, Nat.zero_add, Int.toNat_zero, Int.cast_ofNat_Int, h1, hx, nds, ne_eq, not_false_eq_true, not_true_eq_false, Nat.reduceAdd, Nat.reduceSub, Nat.reduceMul, Nat.reduceBEq, Nat.reduceEqDiff, Nat.reduceLeDiff, Nat.reduceLT, Int.reduceNeg, Int.reduceAdd, Int.reduceSub, Int.reduceEq, Int.reduceLT, Int.reduceLE, reduceCtorEq, ↓reduceIte]
    refine call_same _ _ _ (Text_fun table l _ hT (hll l (List.mem_of_getElem? hx))) ?_
    simp -implicitDefEqProofs (disch := (first | omega | (simp only [List.length_map, ByteArray.size_append, bsz, List.size_toArray, List.length_cons, List.length_nil]; omega))) only [go_sem, and_true, true_and, and_self, Int.natCast_nonneg, Nat.zero_add, Int.toNat_zero, Int.cast_ofNat_Int, ne_eq, not_false_eq_true, not_true_eq_false, Nat.reduceAdd, Nat.reduceSub, Nat.reduceMul, Nat.reduceBEq, Nat.reduceEqDiff, Nat.reduceLeDiff, Nat.reduceLT, Int.reduceNeg, Int.reduceAdd, Int.reduceSub, Int.reduceEq, Int.reduceLT, Int.reduceLE, reduceCtorEq, ↓reduceIte]
    refine call_ret _ _ _ hw₁ ?_
    simp -implicitDefEqProofs (disch := (first | omega | (simp only [List.length_map, ByteArray.size_append, bsz, List.size_toArray, List.length_cons, List.length_nil]; omega))) only [go_sem, and_true, true_and, and_self, Int.natCast_nonneg, Nat.zero_add, Int.toNat_zero, Int.cast_ofNat_Int, ne_eq, not_false_eq_true, not_true_eq_false, Nat.reduceAdd, Nat.reduceSub, Nat.reduceMul, Nat.reduceBEq, Nat.reduceEqDiff, Nat.reduceLeDiff, Nat.reduceLT, Int.reduceNeg, Int.reduceAdd, Int.reduceSub, Int.reduceEq, Int.reduceLT, Int.reduceLE, reduceCtorEq, ↓reduceIte]
    refine call_ret _ _ _ hw₂ ?_
    simp -implicitDefEqProofs (disch := (first | omega | (simp only [List.length_map, ByteArray.size_append, bsz, List.size_toArray, List.length_cons, List.length_nil]; omega))) only [go_sem, and_true, true_and, and_self, Int.natCast_nonneg, Nat.zero_add, Int.toNat_zero, Int.cast_ofNat_Int, ne_eq, not_false_eq_true, not_true_eq_false, Nat.reduceAdd, Nat.reduceSub, Nat.reduceMul, Nat.reduceBEq, Nat.reduceEqDiff, Nat.reduceLeDiff, Nat.reduceLT, Int.reduceNeg, Int.reduceAdd, Int.reduceSub, Int.reduceEq, Int.reduceLT, Int.reduceLE, reduceCtorEq, ↓reduceIte]
    refine next_round m (by omega) _ ⟨k + 1, by omega, ?_, ?_, ?_, by omega, rfl⟩ (by repeat (first | exact agree_ov _ _ _ | exact agree_self _ _ | refine agree_wr rfl ?_)) (by first | done | (simp -implicitDefEqProofs (disch := (first | omega | (simp only [List.length_map, ByteArray.size_append, bsz, List.size_toArray, List.length_cons, List.length_nil]; omega))) only [go_sem, and_true, true_and, and_self, Int.natCast_nonneg, Nat.zero_add, Int.toNat_zero, Int.cast_ofNat_Int, List.length_append, List.length_take, List.length_drop, List.length_cons, List.length_nil, Option.some.injEq, AV.own.injEq, AV.int.injEq, ne_eq, not_false_eq_true, not_true_eq_false, Nat.reduceAdd, Nat.reduceSub, Nat.reduceMul, Nat.reduceBEq, Nat.reduceEqDiff, Nat.reduceLeDiff, Nat.reduceLT, Int.reduceNeg, Int.reduceAdd, Int.reduceSub, Int.reduceEq, Int.reduceLT, Int.reduceLE, reduceCtorEq, ↓reduceIte]; done) | (simp -implicitDefEqProofs (disch := (first | omega | (simp only [List.length_map, ByteArray.size_append, bsz, List.size_toArray, List.length_cons, List.length_nil]; omega))) only [go_sem, and_true, true_and, and_self, Int.natCast_nonneg, Nat.zero_add, Int.toNat_zero, Int.cast_ofNat_Int, List.length_append, List.length_take, List.length_drop, List.length_cons, List.length_nil, Option.some.injEq, AV.own.injEq, AV.int.injEq, ne_eq, not_false_eq_true, not_true_eq_false, Nat.reduceAdd, Nat.reduceSub, Nat.reduceMul, Nat.reduceBEq, Nat.reduceEqDiff, Nat.reduceLeDiff, Nat.reduceLT, Int.reduceNeg, Int.reduceAdd, Int.reduceSub, Int.reduceEq, Int.reduceLT, Int.reduceLE, reduceCtorEq, ↓reduceIte]; omega) | (simp -implicitDefEqProofs (disch := (first | omega | (simp only [List.length_map, ByteArray.size_append, bsz, List.size_toArray, List.length_cons, List.length_nil]; omega))) only [go_sem, and_true, true_and, and_self, Int.natCast_nonneg, Nat.zero_add, Int.toNat_zero, Int.cast_ofNat_Int, List.length_append, List.length_take, List.length_drop, List.length_cons, List.length_nil, Option.some.injEq, AV.own.injEq, AV.int.injEq, ne_eq, not_false_eq_true, not_true_eq_false, Nat.reduceAdd, Nat.reduceSub, Nat.reduceMul, Nat.reduceBEq, Nat.reduceEqDiff, Nat.reduceLeDiff, Nat.reduceLT, Int.reduceNeg, Int.reduceAdd, Int.reduceSub, Int.reduceEq, Int.reduceLT, Int.reduceLE, reduceCtorEq, ↓reduceIte]; refine ⟨?_, ?_⟩ <;> congr 1 <;> omega))
    · rw [hs2, Nat.add_mul]; omega
    · rw [hsucc]; exact hB₂
    · intro _
      refine ⟨by omega, ?_⟩
      rw [hsucc]
      exact hp₂ (by rw [hs1]; show 0 < _ + 1; omega)
def longM (l : List ByteArray) (most each : Int) : Bool := l.any (fun s => decide (each < s.size)) || decide (most < l.length)
theorem Long_fun (l : List ByteArray) (most each : Int) (σ : AH) (hl : l.length ≤ 1000000000000000) : AFun Try.prog 18 [strs l, .int .i64 most, .int .i64 each] σ (.ret (.bool (longM l most each))) σ := by
  refine fun_code [] Try.func18 rfl rfl (by kernel_rfl) rfl ?_
  simp -implicitDefEqProofs (disch := (first | omega | (simp only [List.length_map, ByteArray.size_append, bsz, List.size_toArray, List.length_cons, List.length_nil]; omega))) only [go_sem, and_true, true_and, and_self, Int.natCast_nonneg, Nat.zero_add, Int.toNat_zero, Int.cast_ofNat_Int, Try.ntmps18, strs, ne_eq, not_false_eq_true, not_true_eq_false, Nat.reduceAdd, Nat.reduceSub, Nat.reduceMul, Nat.reduceBEq, Nat.reduceEqDiff, Nat.reduceLeDiff, Nat.reduceLT, Int.reduceNeg, Int.reduceAdd, Int.reduceSub, Int.reduceEq, Int.reduceLT, Int.reduceLE, reduceCtorEq, ↓reduceIte]
  refine loop_keep [(6, 20)] (fun m s τ => ∃ k : Nat, k + m = l.length ∧ (∀ s ∈ l.take k, ¬ each < s.size) ∧ τ = σ ∧ s = [(7, .int .i64 k)]) l.length _ ⟨0, by omega, by simp, rfl, rfl⟩ (by first | done | (simp -implicitDefEqProofs (disch := (first | omega | (simp only [List.length_map, ByteArray.size_append, bsz, List.size_toArray, List.length_cons, List.length_nil]; omega))) only [go_sem, and_true, true_and, and_self, Int.natCast_nonneg, Nat.zero_add, Int.toNat_zero, Int.cast_ofNat_Int, List.length_append, List.length_take, List.length_drop, List.length_cons, List.length_nil, Option.some.injEq, AV.own.injEq, AV.int.injEq, ne_eq, not_false_eq_true, not_true_eq_false, Nat.reduceAdd, Nat.reduceSub, Nat.reduceMul, Nat.reduceBEq, Nat.reduceEqDiff, Nat.reduceLeDiff, Nat.reduceLT, Int.reduceNeg, Int.reduceAdd, Int.reduceSub, Int.reduceEq, Int.reduceLT, Int.reduceLE, reduceCtorEq, ↓reduceIte]; done) | (simp -implicitDefEqProofs (disch := (first | omega | (simp only [List.length_map, ByteArray.size_append, bsz, List.size_toArray, List.length_cons, List.length_nil]; omega))) only [go_sem, and_true, true_and, and_self, Int.natCast_nonneg, Nat.zero_add, Int.toNat_zero, Int.cast_ofNat_Int, List.length_append, List.length_take, List.length_drop, List.length_cons, List.length_nil, Option.some.injEq, AV.own.injEq, AV.int.injEq, ne_eq, not_false_eq_true, not_true_eq_false, Nat.reduceAdd, Nat.reduceSub, Nat.reduceMul, Nat.reduceBEq, Nat.reduceEqDiff, Nat.reduceLeDiff, Nat.reduceLT, Int.reduceNeg, Int.reduceAdd, Int.reduceSub, Int.reduceEq, Int.reduceLT, Int.reduceLE, reduceCtorEq, ↓reduceIte]; omega) | (simp -implicitDefEqProofs (disch := (first | omega | (simp only [List.length_map, ByteArray.size_append, bsz, List.size_toArray, List.length_cons, List.length_nil]; omega))) only [go_sem, and_true, true_and, and_self, Int.natCast_nonneg, Nat.zero_add, Int.toNat_zero, Int.cast_ofNat_Int, List.length_append, List.length_take, List.length_drop, List.length_cons, List.length_nil, Option.some.injEq, AV.own.injEq, AV.int.injEq, ne_eq, not_false_eq_true, not_true_eq_false, Nat.reduceAdd, Nat.reduceSub, Nat.reduceMul, Nat.reduceBEq, Nat.reduceEqDiff, Nat.reduceLeDiff, Nat.reduceLT, Int.reduceNeg, Int.reduceAdd, Int.reduceSub, Int.reduceEq, Int.reduceLT, Int.reduceLE, reduceCtorEq, ↓reduceIte]; refine ⟨?_, ?_⟩ <;> congr 1 <;> omega)) ?_
  rintro m s g τ ⟨k, hk, hno, rfl, rfl⟩
  cases m with
  | zero =>
    have h1 : ¬ (k : Int) < l.length := by omega
    rw [List.take_of_length_le (by omega)] at hno
    have hany : l.any (fun s => decide (each < s.size)) = false := by
      rw [List.any_eq_false]
      intro s hs
      simpa using hno s hs
    simp -implicitDefEqProofs (disch := (first | omega | (simp only [List.length_map, ByteArray.size_append, bsz, List.size_toArray, List.length_cons, List.length_nil]; omega))) only [go_sem, and_true, true_and, and_self, Int.natCast_nonneg, Nat.zero_add, Int.toNat_zero, Int.cast_ofNat_Int, h1, ne_eq, not_false_eq_true, not_true_eq_false, Nat.reduceAdd, Nat.reduceSub, Nat.reduceMul, Nat.reduceBEq, Nat.reduceEqDiff, Nat.reduceLeDiff, Nat.reduceLT, Int.reduceNeg, Int.reduceAdd, Int.reduceSub, Int.reduceEq, Int.reduceLT, Int.reduceLE, reduceCtorEq, ↓reduceIte]
    refine Done.same ?_
    simp [longM, hany]
  | succ m =>
    obtain ⟨s, hx⟩ : ∃ s, l[k]? = some s := ⟨_, List.getElem?_eq_getElem (by omega)⟩
    have h1 : (k : Int) < l.length := by omega
    by_cases h2 : each < s.size
    · simp -implicitDefEqProofs (disch := (first | omega | (simp only [List.length_map, ByteArray.size_append, bsz, List.size_toArray, List.length_cons, List.length_nil]; omega))) only [go_sem, and_true, true_and, and_self, Int.natCast_nonneg, Nat.zero_add, Int.toNat_zero, Int.cast_ofNat_Int, h1, hx, h2, ne_eq, not_false_eq_true, not_true_eq_false, Nat.reduceAdd, Nat.reduceSub, Nat.reduceMul, Nat.reduceBEq, Nat.reduceEqDiff, Nat.reduceLeDiff, Nat.reduceLT, Int.reduceNeg, Int.reduceAdd, Int.reduceSub, Int.reduceEq, Int.reduceLT, Int.reduceLE, reduceCtorEq, ↓reduceIte]
      refine Done.same ?_
      have : l.any (fun s => decide (each < s.size)) = true := List.any_eq_true.2 ⟨s, List.mem_of_getElem? hx, by simpa using h2⟩
      simp [longM, this]
    · simp -implicitDefEqProofs (disch := (first | omega | (simp only [List.length_map, ByteArray.size_append, bsz, List.size_toArray, List.length_cons, List.length_nil]; omega))) only [go_sem, and_true, true_and, and_self, Int.natCast_nonneg, Nat.zero_add, Int.toNat_zero, Int.cast_ofNat_Int, h1, hx, h2, ne_eq, not_false_eq_true, not_true_eq_false, Nat.reduceAdd, Nat.reduceSub, Nat.reduceMul, Nat.reduceBEq, Nat.reduceEqDiff, Nat.reduceLeDiff, Nat.reduceLT, Int.reduceNeg, Int.reduceAdd, Int.reduceSub, Int.reduceEq, Int.reduceLT, Int.reduceLE, reduceCtorEq, ↓reduceIte]
      refine next_round m (by omega) _ ⟨k + 1, by omega, ?_, rfl, rfl⟩ (by repeat (first | exact agree_ov _ _ _ | exact agree_self _ _ | refine agree_wr rfl ?_)) (by first | done | (simp -implicitDefEqProofs (disch := (first | omega | (simp only [List.length_map, ByteArray.size_append, bsz, List.size_toArray, List.length_cons, List.length_nil]; omega))) only [go_sem, and_true, true_and, and_self, Int.natCast_nonneg, Nat.zero_add, Int.toNat_zero, Int.cast_ofNat_Int, List.length_append, List.length_take, List.length_drop, List.length_cons, List.length_nil, Option.some.injEq, AV.own.injEq, AV.int.injEq, ne_eq, not_false_eq_true, not_true_eq_false, Nat.reduceAdd, Nat.reduceSub, Nat.reduceMul, Nat.reduceBEq, Nat.reduceEqDiff, Nat.reduceLeDiff, Nat.reduceLT, Int.reduceNeg, Int.reduceAdd, Int.reduceSub, Int.reduceEq, Int.reduceLT, Int.reduceLE, reduceCtorEq, ↓reduceIte]; done) | (simp -implicitDefEqProofs (disch := (first | omega | (simp only [List.length_map, ByteArray.size_append, bsz, List.size_toArray, List.length_cons, List.length_nil]; omega))) only [go_sem, and_true, true_and, and_self, Int.natCast_nonneg, Nat.zero_add, Int.toNat_zero, Int.cast_ofNat_Int, List.length_append, List.length_take, List.length_drop, List.length_cons, List.length_nil, Option.some.injEq, AV.own.injEq, AV.int.injEq, ne_eq, not_false_eq_true, not_true_eq_false, Nat.reduceAdd, Nat.reduceSub, Nat.reduceMul, Nat.reduceBEq, Nat.reduceEqDiff, Nat.reduceLeDiff, Nat.reduceLT, Int.reduceNeg, Int.reduceAdd, Int.reduceSub, Int.reduceEq, Int.reduceLT, Int.reduceLE, reduceCtorEq, ↓reduceIte]; omega) | (simp -implicitDefEqProofs (disch := (first | omega | (simp only [List.length_map, ByteArray.size_append, bsz, List.size_toArray, List.length_cons, List.length_nil]; omega))) only [go_sem, and_true, true_and, and_self, Int.natCast_nonneg, Nat.zero_add, Int.toNat_zero, Int.cast_ofNat_Int, List.length_append, List.length_take, List.length_drop, List.length_cons, List.length_nil, Option.some.injEq, AV.own.injEq, AV.int.injEq, ne_eq, not_false_eq_true, not_true_eq_false, Nat.reduceAdd, Nat.reduceSub, Nat.reduceMul, Nat.reduceBEq, Nat.reduceEqDiff, Nat.reduceLeDiff, Nat.reduceLT, Int.reduceNeg, Int.reduceAdd, Int.reduceSub, Int.reduceEq, Int.reduceLT, Int.reduceLE, reduceCtorEq, ↓reduceIte]; refine ⟨?_, ?_⟩ <;> congr 1 <;> omega))
      rw [List.take_succ, hx]
      intro q hq
      rcases List.mem_append.1 hq with hq | hq
      · exact hno q hq
      · simp at hq
        subst hq
        exact h2
theorem works11_fun (σ : AH) : AFun Try.prog 19 [] σ (.ret (.bool true)) σ := by
  have h := Text_fun [⟨#[97, 114, 109]⟩, ⟨#[103, 112, 117]⟩, ⟨#[115, 115, 100]⟩] [(2, 1), (2, 2), (5, 0), (2, 0), (3, 0), (4, 0)] σ (by decide) (by decide)
  have e : textM [⟨#[97, 114, 109]⟩, ⟨#[103, 112, 117]⟩, ⟨#[115, 115, 100]⟩] [(2, 1), (2, 2), (5, 0), (2, 0), (3, 0), (4, 0)] = ⟨#[40, 103, 112, 117, 32, 124, 32, 115, 115, 100, 41, 32, 38, 32, 33, 97, 114, 109]⟩ := by kernel_rfl
  rw [e] at h
  refine fun_code [] Try.func19 rfl rfl (by kernel_rfl) rfl ?_
  simp -implicitDefEqProofs (disch := (first | omega | (simp only [List.length_map, ByteArray.size_append, bsz, List.size_toArray, List.length_cons, List.length_nil]; omega))) only [go_sem, and_true, true_and, and_self, Int.natCast_nonneg, Nat.zero_add, Int.toNat_zero, Int.cast_ofNat_Int, Try.ntmps19, ne_eq, not_false_eq_true, not_true_eq_false, Nat.reduceAdd, Nat.reduceSub, Nat.reduceMul, Nat.reduceBEq, Nat.reduceEqDiff, Nat.reduceLeDiff, Nat.reduceLT, Int.reduceNeg, Int.reduceAdd, Int.reduceSub, Int.reduceEq, Int.reduceLT, Int.reduceLE, reduceCtorEq, ↓reduceIte]
  refine call_same _ _ _ h ?_
  simp -implicitDefEqProofs (disch := (first | omega | (simp only [List.length_map, ByteArray.size_append, bsz, List.size_toArray, List.length_cons, List.length_nil]; omega))) only [go_sem, and_true, true_and, and_self, Int.natCast_nonneg, Nat.zero_add, Int.toNat_zero, Int.cast_ofNat_Int, ne_eq, not_false_eq_true, not_true_eq_false, Nat.reduceAdd, Nat.reduceSub, Nat.reduceMul, Nat.reduceBEq, Nat.reduceEqDiff, Nat.reduceLeDiff, Nat.reduceLT, Int.reduceNeg, Int.reduceAdd, Int.reduceSub, Int.reduceEq, Int.reduceLT, Int.reduceLE, reduceCtorEq, ↓reduceIte]
  exact .plain
end Go.Proofs.Ytigelnkhggkmcaa
end
section
namespace Go.Proofs.Ytigelnkhggkmcaa
open Go.Abs Go.Abs.Pl
theorem list_of {α : Type} {f : α → AV} {Q : α → Prop} {P : AV → Prop} (h : ∀ y, P y → ∃ a, y = f a ∧ Q a) : ∀ xs : List AV, (∀ y ∈ xs, P y) → ∃ l : List α, xs = l.map f ∧ ∀ a ∈ l, Q a
  | [], _ => ⟨[], rfl, by simp⟩
  | x :: xs, hx => by
    obtain ⟨a, rfl, ha⟩ := h x (hx x (by simp))
    obtain ⟨l, rfl, hl⟩ := list_of h xs fun y hy => hx y (by simp [hy])
    refine ⟨a :: l, rfl, ?_⟩
    intro b hb
    rcases List.mem_cons.1 hb with rfl | hb
    · exact ha
    · exact hl b hb
/-- A number of 64 bits. -/
def I64 (n : Int) : Prop := -9223372036854775808 ≤ n ∧ n ≤ 9223372036854775807
theorem of_strs {x : AV} (h : HasTy (.sl .str) x) : ∃ l : List ByteArray, x = strs l ∧ l.length ≤ reachBytes ∧ ∀ s ∈ l, s.size ≤ reachBytes := by
  obtain ⟨xs, rfl, hn, hx⟩ := h
  obtain ⟨l, rfl, hl⟩ := list_of (f := AV.str) (Q := fun s => s.size ≤ reachBytes) (fun y hy => hy) xs hx
  exact ⟨l, rfl, by simpa using hn, hl⟩
theorem of_i64 {x : AV} (h : HasTy (.int .i64) x) : ∃ n : Int, x = .int .i64 n ∧ I64 n := by
  obtain ⟨n, rfl, h1, h2⟩ := h
  exact ⟨n, rfl, h1, h2⟩
abbrev ndTy : Ty := .st [.int .i64, .int .i64]
theorem of_nd {x : AV} (h : HasTy ndTy x) : ∃ p : Nd, x = nd p ∧ I64 p.1 ∧ I64 p.2 := by
  obtain ⟨ys, rfl, a, zs, ha, ⟨b, zs', hb, rfl, rfl⟩, rfl⟩ := h
  obtain ⟨n, rfl, hn⟩ := of_i64 ha
  obtain ⟨m, rfl, hm⟩ := of_i64 hb
  exact ⟨(n, m), rfl, hn, hm⟩
theorem of_nds {x : AV} (h : HasTy (.sl ndTy) x) : ∃ l : List Nd, x = nds l ∧ l.length ≤ reachBytes ∧ ∀ p ∈ l, I64 p.1 ∧ I64 p.2 := by
  obtain ⟨xs, rfl, hn, hx⟩ := h
  obtain ⟨l, rfl, hl⟩ := list_of (f := nd) (Q := fun p => I64 p.1 ∧ I64 p.2) (fun y hy => of_nd hy) xs hx
  exact ⟨l, rfl, by simpa using hn, hl⟩
theorem reach_le : reachBytes ≤ 140737488355328 := by decide
end Go.Proofs.Ytigelnkhggkmcaa
end
