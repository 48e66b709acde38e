/- Lemmas that the claim leans on. -/
import Derived.Carry
import Derived.SizedLaws
import Derived.ChangeShapes
import Derived.OpenShut
import Derived.WalkKit
import Derived.ProofKit
import Derived.ShutString
import Derived.ChangeOld
import Derived.Below
import Derived.Test.YtigelnkhggkmcaaAbs2
set_option linter.all false
section
/- Code as one proposition without functions in it: what is left to do is a list. -/
namespace Go.Abs

/-- What is left to do behind a piece of code. -/
inductive KI where
  | seq (c : Code)
  | block (id : Nat)

/-- Values that are to be there. -/
def bind1 {α β : Type} (x : Option α) (f : α → Option β) : Option β := x.bind f
def bind2 {α β γ : Type} (x : Option α) (y : Option β) (f : α → β → Option γ) : Option γ := x.bind fun a => y.bind fun b => f a b
def bindF (fn : Fn) (x y : Option (List AV)) : Option AV := x.bind fun a => y.bind fun b => some (.func fn a b)
def bindS (x : Option AV) (P : Program) (es : Operand → Option AV) (t : TypeId) (lo hi mx : Option Operand) : Option AV := x.bind fun a => evSlice P es t a lo hi mx
theorem bind1_some {α β : Type} (a : α) (f : α → Option β) : bind1 (some a) f = f a := rfl
theorem bind2_some {α β γ : Type} (a : α) (b : β) (f : α → β → Option γ) : bind2 (some a) (some b) f = f a b := rfl
theorem bindF_some (fn : Fn) (a b : List AV) : bindF fn (some a) (some b) = some (.func fn a b) := rfl
theorem bindS_some (a : AV) (P : Program) (es : Operand → Option AV) (t : TypeId) (lo hi mx : Option Operand) : bindS (some a) P es t lo hi mx = evSlice P es t a lo hi mx := rfl
def pickA (c a b : Option AV) : Option AV := match c with
  | some (.bool true) => a
  | some (.bool false) => b
  | _ => none
theorem pick_true (a b : Option AV) : pickA (some (.bool true)) a b = a := rfl
theorem pick_false (a b : Option AV) : pickA (some (.bool false)) a b = b := rfl
/-- What is called, with what. -/
def calleeV (f : Option AV) (as : Option (List AV)) : Option (FuncId × List AV) := match f, as with
  | some (.func (.func g) first cap), some as => some (g, first ++ as ++ cap)
  | _, _ => none
def calleeM (P : Program) (m : String) (r : Option AV) (as : Option (List AV)) : Option (FuncId × List AV) := match r, as with
  | some (.iface t x), some as => (methA P t m).map fun g => (g, x :: as)
  | _, _ => none
theorem calleeV_some (g : FuncId) (first cap as : List AV) : calleeV (some (.func (.func g) first cap)) (some as) = some (g, first ++ as ++ cap) := rfl
theorem calleeM_some (P : Program) (m : String) (t : TypeId) (x : AV) (as : List AV) : calleeM P m (some (.iface t x)) (some as) = (methA P t m).map fun g => (g, x :: as) := rfl

/-- One of two, by a boolean; simp looks into neither before it is known which. -/
def selP (c : Bool) (A B : Prop) : Prop := match c with
  | true => A
  | false => B
@[congr] theorem selP_congr {c c' : Bool} {A B : Prop} (h : c = c') : selP c A B = selP c' A B := by rw [h]
theorem selP_true (A B : Prop) : selP true A B = A := rfl
theorem selP_false (A B : Prop) : selP false A B = B := rfl
theorem selP_split {c : Bool} {A B : Prop} (h : c = true → A) (k : c = false → B) : selP c A B := by
  cases c
  · exact k rfl
  · exact h rfl

section
variable (P : Program) (L : List Nat) (n : Nat)
def unwind : List KI → APost → APost
  | [], Q => Q
  | .seq d :: ks, Q => AExit.then (fun fr σ => wpA P L n d fr σ (unwind ks Q)) (unwind ks Q)
  | .block id :: ks, Q => AExit.inBlock id (unwind ks Q)
def leave (ks : List KI) (Q : APost) (e : AExit) (fr : List AV) (σ : AH) : Prop := unwind P L n ks Q e fr σ
def wpS (c : Code) (ks : List KI) (Q : APost) (fr : List AV) (σ : AH) : Prop := wpA P L n c fr σ (unwind P L n ks Q)
def go (dr : Bool) (ops os : List Oper) (ks : List KI) (Q : APost) (fr : List AV) (σ : AH) : Prop := match dr with
  | true => AOps P L n true ops (unwind P L n ks Q) os fr σ
  | false => AOpsF P L n ops (unwind P L n ks Q) os fr σ
def go1 (o : Oper) (dr : Bool) (ops os : List Oper) (ks : List KI) (Q : APost) (fr : List AV) (σ : AH) : Prop :=
  AOp1 P L dr o fr σ (fun out σ' => go P L n dr ops os ks Q (put fr o.dst out) σ') (fun x σ' => unwind P L n ks Q (.panic x) fr σ')
    (fun g args => ACall P n dr g args fr σ (fun fr' out σ' => go P L n dr ops os ks Q (put fr' o.dst out) σ') (fun fr' x σ' => unwind P L n ks Q (.panic x) fr' σ'))
/-- A value comes out. -/
def stepV (dst : Option Tmp) (v : Option AV) (dr : Bool) (ops os : List Oper) (ks : List KI) (Q : APost) (fr : List AV) (σ : AH) : Prop :=
  got v fun v => go P L n dr ops os ks Q (put fr dst v) σ
/-- A value comes out, and the held rows have turned. -/
def stepE (dst : Option Tmp) (r : Option (AV × AH)) (dr : Bool) (ops os : List Oper) (ks : List KI) (Q : APost) (fr : List AV) : Prop :=
  got r fun r => go P L n dr ops os ks Q (put fr dst r.1) r.2
/-- A call. -/
def stepC (dst : Option Tmp) (g : Option (FuncId × List AV)) (dr : Bool) (ops os : List Oper) (ks : List KI) (Q : APost) (fr : List AV) (σ : AH) : Prop :=
  got g fun g => ACall P n dr g.1 g.2 fr σ (fun fr' out σ' => go P L n dr ops os ks Q (put fr' dst out) σ') (fun fr' x σ' => unwind P L n ks Q (.panic x) fr' σ')
/-- A test. -/
def stepB (v : Option AV) (a b : Code) (ks : List KI) (Q : APost) (fr : List AV) (σ : AH) : Prop :=
  got v fun v => match v with
    | .bool t => if t = true then wpS P L n a ks Q fr σ else wpS P L n b ks Q fr σ
    | _ => False
/-- A panic. -/
def stepP (v : Option AV) (ks : List KI) (Q : APost) (fr : List AV) (σ : AH) : Prop :=
  got v fun v => match v with
    | .iface t v => unwind P L n ks Q (.panic (.iface t v)) fr σ
    | _ => False
/-- A loop. -/
def wpLoop (c : Code) (ks : List KI) (Q : APost) (fr : List AV) (σ : AH) : Prop := AW P n (.loop c) fr σ (unwind P L n ks Q)
/-- Anything else. -/
def wpOther (c : Code) (ks : List KI) (Q : APost) (fr : List AV) (σ : AH) : Prop := AW P n c fr σ (unwind P L n ks Q)

theorem s_skip (ks Q fr σ) : wpS P L n .skip ks Q fr σ = leave P L n ks Q .normal fr σ := rfl
theorem s_label (l ks Q fr σ) : wpS P L n (.label l) ks Q fr σ = leave P L n ks Q .normal fr σ := rfl
theorem s_region (id l ks Q fr σ) : wpS P L n (.region id (List.toArray l) false) ks Q fr σ = go P L n false l l ks Q fr σ := by
  simp only [wpS, wpA, go]
theorem s_draw (id l ks Q fr σ) : wpS P L n (.region id (List.toArray l) true) ks Q fr σ = (okDraw P L (List.toArray l) = true ∧ go P L n true l l ks Q fr σ) := rfl
theorem s_seq (a b ks Q fr σ) : wpS P L n (.seq a b) ks Q fr σ = wpS P L n a (.seq b :: ks) Q fr σ := rfl
theorem s_cond (c a b ks Q fr σ) : wpS P L n (.cond c a b) ks Q fr σ = stepB P L n (ev fr c) a b ks Q fr σ := by
  simp only [wpS, wpA, stepB, got]
  cases ev fr c with
  | none => rfl
  | some x => cases x <;> rfl
theorem s_block (id c ks Q fr σ) : wpS P L n (.block id c) ks Q fr σ = wpS P L n c (.block id :: ks) Q fr σ := rfl
theorem s_exit (id ks Q fr σ) : wpS P L n (.exit id) ks Q fr σ = leave P L n ks Q (.exit id) fr σ := rfl
theorem s_goto (l ks Q fr σ) : wpS P L n (.goto l) ks Q fr σ = leave P L n ks Q (.goto l) fr σ := rfl
theorem s_ret (ks Q fr σ) : wpS P L n .ret ks Q fr σ = leave P L n ks Q .ret fr σ := rfl
theorem s_loop (c ks Q fr σ) : wpS P L n (.loop c) ks Q fr σ = wpLoop P L n c ks Q fr σ := rfl
theorem l_nil (Q e fr σ) : leave P L n [] Q e fr σ = Q e fr σ := rfl
theorem l_seq (d ks Q fr σ) : leave P L n (.seq d :: ks) Q .normal fr σ = wpS P L n d ks Q fr σ := rfl
theorem l_seq_exit (d ks Q id fr σ) : leave P L n (.seq d :: ks) Q (.exit id) fr σ = leave P L n ks Q (.exit id) fr σ := rfl
theorem l_seq_goto (d ks Q id fr σ) : leave P L n (.seq d :: ks) Q (.goto id) fr σ = leave P L n ks Q (.goto id) fr σ := rfl
theorem l_seq_ret (d ks Q fr σ) : leave P L n (.seq d :: ks) Q .ret fr σ = leave P L n ks Q .ret fr σ := rfl
theorem l_seq_panic (d ks Q v fr σ) : leave P L n (.seq d :: ks) Q (.panic v) fr σ = leave P L n ks Q (.panic v) fr σ := rfl
theorem l_block (id ks Q fr σ) : leave P L n (.block id :: ks) Q .normal fr σ = leave P L n ks Q .normal fr σ := rfl
theorem l_block_exit (id id' ks Q fr σ) : leave P L n (.block id :: ks) Q (.exit id') fr σ = if id' = id then leave P L n ks Q .normal fr σ else leave P L n ks Q (.exit id') fr σ := rfl
theorem l_block_goto (id l ks Q fr σ) : leave P L n (.block id :: ks) Q (.goto l) fr σ = leave P L n ks Q (.goto l) fr σ := rfl
theorem l_block_ret (id ks Q fr σ) : leave P L n (.block id :: ks) Q .ret fr σ = leave P L n ks Q .ret fr σ := rfl
theorem l_block_panic (id v ks Q fr σ) : leave P L n (.block id :: ks) Q (.panic v) fr σ = leave P L n ks Q (.panic v) fr σ := rfl

theorem g_nil (dr ops ks Q fr σ) : go P L n dr ops [] ks Q fr σ = leave P L n ks Q .normal fr σ := by cases dr <;> rfl
theorem go_one {dr ops os ks Q fr σ} {o : Oper} (hg : o.guard = none) (hf : fuseO false L o os = none) : go P L n dr ops (o :: os) ks Q fr σ = go1 P L n o dr ops os ks Q fr σ := by
  have h1 : gd ops fr o = true := by unfold gd; rw [hg]
  cases dr
  · simp only [go, AOpsF, hf, stepA, go1, AOp1]
    rw [if_pos h1]
    all_goals rfl
  · simp only [go, AOps, go1, AOp1]
    rw [if_pos h1]
    all_goals rfl
/-- An operation under a guard. -/
def stepG (c : Bool) (o : Oper) (dr : Bool) (ops os : List Oper) (ks : List KI) (Q : APost) (fr : List AV) (σ : AH) : Prop :=
  selP c (go1 P L n o dr ops os ks Q fr σ) (go P L n dr ops os ks Q (put fr o.dst undefA) σ)
@[congr] theorem stepG_congr {o dr ops os ks Q} {c c' : Bool} {fr fr' : List AV} {σ σ' : AH} (h0 : c = c') (h1 : fr = fr') (h2 : σ = σ') : stepG P L n c o dr ops os ks Q fr σ = stepG P L n c' o dr ops os ks Q fr' σ' := by rw [h0, h1, h2]
theorem gg_true (o dr ops os ks Q fr σ) : stepG P L n true o dr ops os ks Q fr σ = go1 P L n o dr ops os ks Q fr σ := rfl
theorem gg_false (dst op ty pos after g dr ops os ks Q fr σ) : stepG P L n false ⟨dst, op, ty, pos, after, g⟩ dr ops os ks Q fr σ = go P L n dr ops os ks Q (put fr dst undefA) σ := rfl
theorem g_split {c dst op ty pos after g dr ops os ks Q fr σ} (h : c = true → go1 P L n ⟨dst, op, ty, pos, after, g⟩ dr ops os ks Q fr σ) (k : c = false → go P L n dr ops os ks Q (put fr dst undefA) σ) :
    stepG P L n c ⟨dst, op, ty, pos, after, g⟩ dr ops os ks Q fr σ := selP_split h k
theorem g_cons1 (dr ops dst op type pos after j w os ks Q fr σ) : go P L n dr ops (⟨dst, op, type, pos, after, some (j, w)⟩ :: os) ks Q fr σ =
    stepG P L n (gdV w (((ops[j]?).bind (·.dst)).bind (fr[·]?))) ⟨dst, op, type, pos, after, some (j, w)⟩ dr ops os ks Q fr σ := by
  rw [← gd_some ops fr dst op type pos after]
  have hf : fuseO false L ⟨dst, op, type, pos, after, some (j, w)⟩ os = none := by cases op <;> rfl
  have e : ∀ (c : Bool) (A B : Prop), (if c = true then A else B) = selP c A B := by intro c A B; cases c <;> simp [selP]
  cases dr
  · simp only [go, AOpsF, hf, stepA, go1, AOp1, stepG]
    exact e _ _ _
  · simp only [go, AOps, go1, AOp1, stepG]
    exact e _ _ _
theorem g_move (x dr ops dst type pos after os ks Q fr σ) : go P L n dr ops (⟨dst, .move x, type, pos, after, none⟩ :: os) ks Q fr σ = go1 P L n ⟨dst, .move x, type, pos, after, none⟩ dr ops os ks Q fr σ := go_one P L n rfl rfl
theorem g_assign (x dr ops dst type pos after os ks Q fr σ) : go P L n dr ops (⟨dst, .assign x, type, pos, after, none⟩ :: os) ks Q fr σ = go1 P L n ⟨dst, .assign x, type, pos, after, none⟩ dr ops os ks Q fr σ := go_one P L n rfl rfl
theorem g_unOp (o t x dr ops dst type pos after os ks Q fr σ) : go P L n dr ops (⟨dst, .unOp o t x, type, pos, after, none⟩ :: os) ks Q fr σ = go1 P L n ⟨dst, .unOp o t x, type, pos, after, none⟩ dr ops os ks Q fr σ := go_one P L n rfl rfl
theorem g_binOp (o t x y yt dr ops dst type pos after os ks Q fr σ) : go P L n dr ops (⟨dst, .binOp o t x y yt, type, pos, after, none⟩ :: os) ks Q fr σ = go1 P L n ⟨dst, .binOp o t x y yt, type, pos, after, none⟩ dr ops os ks Q fr σ := go_one P L n rfl rfl
theorem g_convert (s d x dr ops dst type pos after os ks Q fr σ) : go P L n dr ops (⟨dst, .convert s d x, type, pos, after, none⟩ :: os) ks Q fr σ = go1 P L n ⟨dst, .convert s d x, type, pos, after, none⟩ dr ops os ks Q fr σ := go_one P L n rfl rfl
theorem g_makeInterface (t x dr ops dst type pos after os ks Q fr σ) : go P L n dr ops (⟨dst, .makeInterface t x, type, pos, after, none⟩ :: os) ks Q fr σ = go1 P L n ⟨dst, .makeInterface t x, type, pos, after, none⟩ dr ops os ks Q fr σ := go_one P L n rfl rfl
theorem g_makeFunc (f a b dr ops dst type pos after os ks Q fr σ) : go P L n dr ops (⟨dst, .makeFunc f a b, type, pos, after, none⟩ :: os) ks Q fr σ = go1 P L n ⟨dst, .makeFunc f a b, type, pos, after, none⟩ dr ops os ks Q fr σ := go_one P L n rfl rfl
theorem g_extract (x i dr ops dst type pos after os ks Q fr σ) : go P L n dr ops (⟨dst, .extract x i, type, pos, after, none⟩ :: os) ks Q fr σ = go1 P L n ⟨dst, .extract x i, type, pos, after, none⟩ dr ops os ks Q fr σ := go_one P L n rfl rfl
theorem g_typeAssert (x t T ok dr ops dst type pos after os ks Q fr σ) : go P L n dr ops (⟨dst, .typeAssert x t T ok, type, pos, after, none⟩ :: os) ks Q fr σ = go1 P L n ⟨dst, .typeAssert x t T ok, type, pos, after, none⟩ dr ops os ks Q fr σ := go_one P L n rfl rfl
theorem g_nilCheck (x dr ops dst type pos after os ks Q fr σ) : go P L n dr ops (⟨dst, .nilCheck x, type, pos, after, none⟩ :: os) ks Q fr σ = go1 P L n ⟨dst, .nilCheck x, type, pos, after, none⟩ dr ops os ks Q fr σ := go_one P L n rfl rfl
theorem g_slice (t x lo hi mx dr ops dst type pos after os ks Q fr σ) : go P L n dr ops (⟨dst, .slice t x lo hi mx, type, pos, after, none⟩ :: os) ks Q fr σ = go1 P L n ⟨dst, .slice t x lo hi mx, type, pos, after, none⟩ dr ops os ks Q fr σ := go_one P L n rfl rfl
theorem g_fieldAddr (t x f dr ops dst type pos after os ks Q fr σ) : go P L n dr ops (⟨dst, .fieldAddr t x f, type, pos, after, none⟩ :: os) ks Q fr σ = go1 P L n ⟨dst, .fieldAddr t x f, type, pos, after, none⟩ dr ops os ks Q fr σ := go_one P L n rfl rfl
theorem g_field (t x f dr ops dst type pos after os ks Q fr σ) : go P L n dr ops (⟨dst, .field t x f, type, pos, after, none⟩ :: os) ks Q fr σ = go1 P L n ⟨dst, .field t x f, type, pos, after, none⟩ dr ops os ks Q fr σ := go_one P L n rfl rfl
theorem g_indexAddr (t x i dr ops dst type pos after os ks Q fr σ) : go P L n dr ops (⟨dst, .indexAddr t x i, type, pos, after, none⟩ :: os) ks Q fr σ = go1 P L n ⟨dst, .indexAddr t x i, type, pos, after, none⟩ dr ops os ks Q fr σ := go_one P L n rfl rfl
theorem g_index (t x i dr ops dst type pos after os ks Q fr σ) : go P L n dr ops (⟨dst, .index t x i, type, pos, after, none⟩ :: os) ks Q fr σ = go1 P L n ⟨dst, .index t x i, type, pos, after, none⟩ dr ops os ks Q fr σ := go_one P L n rfl rfl
theorem g_build (t ps dr ops dst type pos after os ks Q fr σ) : go P L n dr ops (⟨dst, .build t ps, type, pos, after, none⟩ :: os) ks Q fr σ = go1 P L n ⟨dst, .build t ps, type, pos, after, none⟩ dr ops os ks Q fr σ := go_one P L n rfl rfl
theorem g_call (c dr ops dst type pos after os ks Q fr σ) : go P L n dr ops (⟨dst, .call c, type, pos, after, none⟩ :: os) ks Q fr σ = go1 P L n ⟨dst, .call c, type, pos, after, none⟩ dr ops os ks Q fr σ := go_one P L n rfl rfl
theorem g_load (t x dr ops dst type pos after os ks Q fr σ) : go P L n dr ops (⟨dst, .load t x, type, pos, after, none⟩ :: os) ks Q fr σ = go1 P L n ⟨dst, .load t x, type, pos, after, none⟩ dr ops os ks Q fr σ := go_one P L n rfl rfl
theorem g_pick (c x y dr ops dst type pos after os ks Q fr σ) : go P L n dr ops (⟨dst, .pick c x y, type, pos, after, none⟩ :: os) ks Q fr σ = go1 P L n ⟨dst, .pick c x y, type, pos, after, none⟩ dr ops os ks Q fr σ := go_one P L n rfl rfl
theorem g_store (t x y dr ops dst type pos after os ks Q fr σ) : go P L n dr ops (⟨dst, .store t x y, type, pos, after, none⟩ :: os) ks Q fr σ = go1 P L n ⟨dst, .store t x y, type, pos, after, none⟩ dr ops os ks Q fr σ := go_one P L n rfl rfl
theorem g_box (t x dr ops dst type pos after os ks Q fr σ) : go P L n dr ops (⟨dst, .box t x, type, pos, after, none⟩ :: os) ks Q fr σ = go1 P L n ⟨dst, .box t x, type, pos, after, none⟩ dr ops os ks Q fr σ := go_one P L n rfl rfl
theorem g_buildSlice (t k ps dr ops dst type pos after os ks Q fr σ) : go P L n dr ops (⟨dst, .buildSlice t k ps, type, pos, after, none⟩ :: os) ks Q fr σ = go1 P L n ⟨dst, .buildSlice t k ps, type, pos, after, none⟩ dr ops os ks Q fr σ := go_one P L n rfl rfl
theorem g_makeSlice (t l c dr ops dst type pos after os ks Q fr σ) : go P L n dr ops (⟨dst, .makeSlice t l c, type, pos, after, none⟩ :: os) ks Q fr σ = go1 P L n ⟨dst, .makeSlice t l c, type, pos, after, none⟩ dr ops os ks Q fr σ := go_one P L n rfl rfl
theorem g_range (t x dr ops dst type pos after os ks Q fr σ) : go P L n dr ops (⟨dst, .range t x, type, pos, after, none⟩ :: os) ks Q fr σ = go1 P L n ⟨dst, .range t x, type, pos, after, none⟩ dr ops os ks Q fr σ := go_one P L n rfl rfl
theorem g_next (x b dr ops dst type pos after os ks Q fr σ) : go P L n dr ops (⟨dst, .next x b, type, pos, after, none⟩ :: os) ks Q fr σ = go1 P L n ⟨dst, .next x b, type, pos, after, none⟩ dr ops os ks Q fr σ := go_one P L n rfl rfl
theorem g_panic (x dr ops dst type pos after os ks Q fr σ) : go P L n dr ops (⟨dst, .panic x, type, pos, after, none⟩ :: os) ks Q fr σ = go1 P L n ⟨dst, .panic x, type, pos, after, none⟩ dr ops os ks Q fr σ := go_one P L n rfl rfl
/-- A new variable: set at once, and never written again; or not. -/
def stepAl (r : Option (Nat × Operand × List Oper)) (dst : Option Tmp) (t ty : TypeId) (pos : String) (after : Array Edge) (dr : Bool) (ops os : List Oper) (ks : List KI) (Q : APost) (fr : List AV) (σ : AH) : Prop :=
  match r with
  | some (d, x, os') => got ((fr[d]?).bind fun _ => bind1 (ev fr x) (evFuse P t)) fun y => go P L n dr ops os' ks Q (put fr (some d) y) σ
  | none => go1 P L n ⟨dst, .alloc t, ty, pos, after, none⟩ dr ops os ks Q fr σ
/-! What simp looks into: values, slots, rows; not code. -/
@[congr] theorem go_congr {dr ops os ks Q} {fr fr' : List AV} {σ σ' : AH} (h1 : fr = fr') (h2 : σ = σ') : go P L n dr ops os ks Q fr σ = go P L n dr ops os ks Q fr' σ' := by rw [h1, h2]
@[congr] theorem go1_congr {o dr ops os ks Q} {fr fr' : List AV} {σ σ' : AH} (h1 : fr = fr') (h2 : σ = σ') : go1 P L n o dr ops os ks Q fr σ = go1 P L n o dr ops os ks Q fr' σ' := by rw [h1, h2]
@[congr] theorem stepV_congr {dst dr ops os ks Q} {v v' : Option AV} {fr fr' : List AV} {σ σ' : AH} (h0 : v = v') (h1 : fr = fr') (h2 : σ = σ') : stepV P L n dst v dr ops os ks Q fr σ = stepV P L n dst v' dr ops os ks Q fr' σ' := by rw [h0, h1, h2]
@[congr] theorem stepE_congr {dst dr ops os ks Q} {v v' : Option (AV × AH)} {fr fr' : List AV} (h0 : v = v') (h1 : fr = fr') : stepE P L n dst v dr ops os ks Q fr = stepE P L n dst v' dr ops os ks Q fr' := by rw [h0, h1]
@[congr] theorem stepC_congr {dst dr ops os ks Q} {v v' : Option (FuncId × List AV)} {fr fr' : List AV} {σ σ' : AH} (h0 : v = v') (h1 : fr = fr') (h2 : σ = σ') : stepC P L n dst v dr ops os ks Q fr σ = stepC P L n dst v' dr ops os ks Q fr' σ' := by rw [h0, h1, h2]
@[congr] theorem stepB_congr {a b ks Q} {v v' : Option AV} {fr fr' : List AV} {σ σ' : AH} (h0 : v = v') (h1 : fr = fr') (h2 : σ = σ') : stepB P L n v a b ks Q fr σ = stepB P L n v' a b ks Q fr' σ' := by rw [h0, h1, h2]
@[congr] theorem stepP_congr {ks Q} {v v' : Option AV} {fr fr' : List AV} {σ σ' : AH} (h0 : v = v') (h1 : fr = fr') (h2 : σ = σ') : stepP P L n v ks Q fr σ = stepP P L n v' ks Q fr' σ' := by rw [h0, h1, h2]
@[congr] theorem wpS_congr {c ks Q} {fr fr' : List AV} {σ σ' : AH} (h1 : fr = fr') (h2 : σ = σ') : wpS P L n c ks Q fr σ = wpS P L n c ks Q fr' σ' := by rw [h1, h2]
@[congr] theorem leave_congr {ks Q e} {fr fr' : List AV} {σ σ' : AH} (h1 : fr = fr') (h2 : σ = σ') : leave P L n ks Q e fr σ = leave P L n ks Q e fr' σ' := by rw [h1, h2]
@[congr] theorem wpLoop_congr {c ks Q} {fr fr' : List AV} {σ σ' : AH} (h1 : fr = fr') (h2 : σ = σ') : wpLoop P L n c ks Q fr σ = wpLoop P L n c ks Q fr' σ' := by rw [h1, h2]
@[congr] theorem stepAl_congr {r r'} {dst t ty pos after dr ops os ks Q} {fr fr' : List AV} {σ σ' : AH} (h0 : r = r') (h1 : fr = fr') (h2 : σ = σ') : stepAl P L n r dst t ty pos after dr ops os ks Q fr σ = stepAl P L n r' dst t ty pos after dr ops os ks Q fr' σ' := by rw [h0, h1, h2]
theorem al_none (dst t ty pos after dr ops os ks Q fr σ) : stepAl P L n none dst t ty pos after dr ops os ks Q fr σ = go1 P L n ⟨dst, .alloc t, ty, pos, after, none⟩ dr ops os ks Q fr σ := rfl
theorem al_some (d x os' dst t ty pos after dr ops os ks Q fr σ) : stepAl P L n (some (d, x, os')) dst t ty pos after dr ops os ks Q fr σ = got ((fr[d]?).bind fun _ => bind1 (ev fr x) (evFuse P t)) fun y => go P L n dr ops os' ks Q (put fr (some d) y) σ := rfl
theorem fuseL_nil (dr dst t) : fuseL dr L dst t [] = none := rfl
theorem fuseL_cons (dr dst t dst2 op ty pos after g os) : fuseL dr L dst t (⟨dst2, op, ty, pos, after, g⟩ :: os) = fuse1 (isStore op) dr L dst t dst2 g os := rfl
theorem fuse1_none (dr dst t dst2 g os) : fuse1 none dr L dst t dst2 g os = none := rfl
theorem fuse1_draw (s dst t dst2 g os) : fuse1 s true L dst t dst2 g os = none := by
  unfold fuse1
  split
  · rename_i h
    cases h
  · rfl
theorem fuse1_store (t' d' x d t os) : fuse1 (some (t', .tmp d', x)) false L (some d) t none none os = if (L.contains d || !(d' == d) || !(t' == t) || isTmp d x) = true then none else some (d, x, os) := rfl
theorem isTmp_tmp (d e) : isTmp d (.tmp e) = (e == d) := rfl
theorem isTmp_const (d v) : isTmp d (.const v) = false := rfl
theorem isTmp_func (d v) : isTmp d (.func v) = false := rfl
theorem isStore_store (t a x) : isStore (.store t a x) = some (t, a, x) := rfl
theorem isStore_alloc (t) : isStore (.alloc t) = none := rfl
theorem fuse_eq (t v) : evFuse P t v = bind2 (zeroA P t) (szT P t) fun z n => under_ ((cellsA v).length = n) (under_ ((cellsA z).length = n) (under_ ((cellsA z).all okA = true) (under_ ((cellsA v).all okA = true) (some (.elem (cellsA v)))))) := by
  unfold evFuse bind2 under_
  cases zeroA P t with
  | none => rfl
  | some z =>
    cases szT P t with
    | none => rfl
    | some m =>
      simp only [Option.bind_some]
      by_cases h1 : (cellsA v).length = m <;> by_cases h2 : (cellsA z).length = m <;> by_cases h3 : (cellsA z).all okA = true <;> by_cases h4 : (cellsA v).all okA = true <;> simp only [h1, h2, h3, h4] <;> rfl
theorem isStore_move (x) : isStore (.move x) = none := rfl
theorem isStore_assign (x) : isStore (.assign x) = none := rfl
theorem isStore_unOp (o t x) : isStore (.unOp o t x) = none := rfl
theorem isStore_binOp (o t x y yt) : isStore (.binOp o t x y yt) = none := rfl
theorem isStore_convert (s d x) : isStore (.convert s d x) = none := rfl
theorem isStore_makeInterface (t x) : isStore (.makeInterface t x) = none := rfl
theorem isStore_makeFunc (f a b) : isStore (.makeFunc f a b) = none := rfl
theorem isStore_extract (x i) : isStore (.extract x i) = none := rfl
theorem isStore_typeAssert (x t T ok) : isStore (.typeAssert x t T ok) = none := rfl
theorem isStore_nilCheck (x) : isStore (.nilCheck x) = none := rfl
theorem isStore_slice (t x lo hi mx) : isStore (.slice t x lo hi mx) = none := rfl
theorem isStore_fieldAddr (t x f) : isStore (.fieldAddr t x f) = none := rfl
theorem isStore_field (t x f) : isStore (.field t x f) = none := rfl
theorem isStore_indexAddr (t x i) : isStore (.indexAddr t x i) = none := rfl
theorem isStore_index (t x i) : isStore (.index t x i) = none := rfl
theorem isStore_build (t ps) : isStore (.build t ps) = none := rfl
theorem isStore_call (c) : isStore (.call c) = none := rfl
theorem isStore_load (t x) : isStore (.load t x) = none := rfl
theorem isStore_pick (c x y) : isStore (.pick c x y) = none := rfl
theorem isStore_box (t x) : isStore (.box t x) = none := rfl
theorem isStore_buildSlice (t k ps) : isStore (.buildSlice t k ps) = none := rfl
theorem isStore_makeSlice (t l c) : isStore (.makeSlice t l c) = none := rfl
theorem isStore_range (t x) : isStore (.range t x) = none := rfl
theorem isStore_next (x b) : isStore (.next x b) = none := rfl
theorem isStore_panic (x) : isStore (.panic x) = none := rfl
theorem g_alloc (dr ops dst t ty pos after os ks Q fr σ) : go P L n dr ops (⟨dst, .alloc t, ty, pos, after, none⟩ :: os) ks Q fr σ = stepAl P L n (fuseL dr L dst t os) dst t ty pos after dr ops os ks Q fr σ := by
  cases dr
  · cases hf : fuseL false L dst t os with
    | none =>
      rw [al_none]
      exact go_one P L n rfl (by simp only [fuseO, hf]; rfl)
    | some r =>
      obtain ⟨d, x, os'⟩ := r
      have hf' : fuseO false L ⟨dst, .alloc t, ty, pos, after, none⟩ os = some (d, x, os', t) := by simp only [fuseO, hf]; rfl
      obtain ⟨_, _, hd, _, o2, rfl, _⟩ := fuseO_some hf'
      rw [al_some]
      simp only [go, AOpsF, hf', bind1]
      cases (fr[d]?).bind fun _ => (ev fr x).bind (evFuse P t) <;> rfl
  · have hf : fuseL true L dst t os = none := by
      cases os with
      | nil => rfl
      | cons o2 os => exact fuse1_draw ..
    rw [hf, al_none]
    simp only [go, AOps, go1, AOp1]
    rw [if_pos (show gd ops fr _ = true from rfl)]
    all_goals rfl
theorem v_some (dst v dr ops os ks Q fr σ) : stepV P L n dst (some v) dr ops os ks Q fr σ = go P L n dr ops os ks Q (put fr dst v) σ := rfl
theorem e_some (dst v τ dr ops os ks Q fr) : stepE P L n dst (some (v, τ)) dr ops os ks Q fr = go P L n dr ops os ks Q (put fr dst v) τ := rfl
theorem b_true (a b ks Q fr σ) : stepB P L n (some (.bool true)) a b ks Q fr σ = wpS P L n a ks Q fr σ := rfl
theorem b_false (a b ks Q fr σ) : stepB P L n (some (.bool false)) a b ks Q fr σ = wpS P L n b ks Q fr σ := rfl
theorem b_split {t a b ks Q fr σ} (h : t = true → wpS P L n a ks Q fr σ) (k : t = false → wpS P L n b ks Q fr σ) : stepB P L n (some (.bool t)) a b ks Q fr σ := by
  cases t
  · exact k rfl
  · exact h rfl
theorem v_split {dst t a b dr ops os ks Q fr σ} (h : t = true → stepV P L n dst a dr ops os ks Q fr σ) (k : t = false → stepV P L n dst b dr ops os ks Q fr σ) : stepV P L n dst (pickA (some (.bool t)) a b) dr ops os ks Q fr σ := by
  cases t
  · exact k rfl
  · exact h rfl
theorem p_some (t v ks Q fr σ) : stepP P L n (some (.iface t v)) ks Q fr σ = leave P L n ks Q (.panic (.iface t v)) fr σ := rfl

/-- A call goes on. -/
theorem call_ret {dst g args} {out : AV} {ops os ks Q fr σ σ'} (h : AFun P g args σ (.ret out) σ') (k : go P L n false ops os ks Q (put fr dst out) σ') : stepC P L n dst (some (g, args)) false ops os ks Q fr σ :=
  ACall.ret h k
theorem call_same {dst g args} {out : AV} {dr ops os ks Q fr σ} (h : AFun P g args σ (.ret out) σ) (k : go P L n dr ops os ks Q (put fr dst out) σ) : stepC P L n dst (some (g, args)) dr ops os ks Q fr σ :=
  ACall.same (P := P) (n := n) (dr := dr) (K := fun fr' out σ' => go P L n dr ops os ks Q (put fr' dst out) σ') (X := fun fr' x σ' => unwind P L n ks Q (.panic x) fr' σ') h k
theorem call_pan {dst g args} {x : AV} {ops os ks Q fr σ σ'} (h : AFun P g args σ (.panic x) σ') (k : leave P L n ks Q (.panic x) fr σ') : stepC P L n dst (some (g, args)) false ops os ks Q fr σ :=
  ACall.pan h k

theorem call_turn {dst g args args'} {ops os ks Q fr fr' σ σ'} (hl : args'.length = args.length) (ht : Turn n (args ++ fr) σ (args' ++ fr') σ') (h : stepC P L n dst (some (g, args')) false ops os ks Q fr' σ') :
    stepC P L n dst (some (g, args)) false ops os ks Q fr σ := ACall.turn hl ht h

theorem o_move (x dst ty pos after guard dr ops os ks Q fr σ) : go1 P L n ⟨dst, .move x, ty, pos, after, guard⟩ dr ops os ks Q fr σ = stepV P L n dst (ev fr x) dr ops os ks Q fr σ := by
  unfold go1
  rw [op_move]
  unfold stepV go got
  rfl
theorem o_assign (x dst ty pos after guard dr ops os ks Q fr σ) : go1 P L n ⟨dst, .assign x, ty, pos, after, guard⟩ dr ops os ks Q fr σ = stepV P L n dst (ev fr x) dr ops os ks Q fr σ := by
  unfold go1
  rw [op_assign]
  unfold stepV go got
  rfl
theorem o_unOp (op t x dst ty pos after guard dr ops os ks Q fr σ) : go1 P L n ⟨dst, .unOp op t x, ty, pos, after, guard⟩ dr ops os ks Q fr σ = stepV P L n dst (bind1 (ev fr x) (evUn op)) dr ops os ks Q fr σ := by
  unfold go1
  rw [op_unOp]
  unfold stepV go got
  cases ev fr x <;> rfl
theorem o_binOp (op t x y yt dst ty pos after guard dr ops os ks Q fr σ) : go1 P L n ⟨dst, .binOp op t x y yt, ty, pos, after, guard⟩ dr ops os ks Q fr σ = stepV P L n dst (bind2 (ev fr x) (ev fr y) (evBinD P σ dr op t (isCst x || isCst y))) dr ops os ks Q fr σ := by
  unfold go1
  rw [op_binOp]
  unfold stepV go got
  cases ev fr x <;> cases ev fr y <;> rfl
theorem o_convert (s d x dst ty pos after guard dr ops os ks Q fr σ) : go1 P L n ⟨dst, .convert s d x, ty, pos, after, guard⟩ dr ops os ks Q fr σ = stepV P L n dst (bind1 (ev fr x) (evConvD P σ s d)) dr ops os ks Q fr σ := by
  unfold go1
  rw [op_convert]
  unfold stepV go got
  cases ev fr x <;> rfl
theorem o_range (t x dst ty pos after guard dr ops os ks Q fr σ) : go1 P L n ⟨dst, .range t x, ty, pos, after, guard⟩ dr ops os ks Q fr σ = stepE P L n dst (bind1 (ev fr x) (evRange P σ t)) dr ops os ks Q fr := by
  unfold go1
  rw [op_range]
  unfold stepE go got
  cases ev fr x <;> rfl
theorem o_next (x dst ty pos after guard dr ops os ks Q fr σ) : go1 P L n ⟨dst, .next x true, ty, pos, after, guard⟩ dr ops os ks Q fr σ = stepE P L n dst (bind1 (ev fr x) (evNext σ)) dr ops os ks Q fr := by
  unfold go1
  rw [op_next]
  unfold stepE go got
  cases ev fr x <;> rfl
theorem o_slDat (x ts dst ty pos after guard dr ops os ks Q fr σ) : go1 P L n ⟨dst, .call ⟨.builtin .unsafeSliceData, #[x], ts⟩, ty, pos, after, guard⟩ dr ops os ks Q fr σ = stepV P L n dst (bind1 (ev fr x) evSlDat) dr ops os ks Q fr σ := by
  unfold go1
  rw [op_slDat]
  unfold stepV go got
  cases ev fr x <;> rfl
theorem o_unsStr (x y tx ti dst ty pos after guard dr ops os ks Q fr σ) : go1 P L n ⟨dst, .call ⟨.builtin .unsafeString, #[x, y], #[tx, ti]⟩, ty, pos, after, guard⟩ dr ops os ks Q fr σ = stepE P L n dst (bind2 (ev fr x) (ev fr y) (evUnsStr P σ tx)) dr ops os ks Q fr := by
  unfold go1
  rw [op_unsStr]
  unfold stepE go got
  cases ev fr x <;> cases ev fr y <;> rfl
theorem o_makeInterface (t x dst ty pos after guard dr ops os ks Q fr σ) : go1 P L n ⟨dst, .makeInterface t x, ty, pos, after, guard⟩ dr ops os ks Q fr σ = stepV P L n dst (bind1 (ev fr x) (evIface P t)) dr ops os ks Q fr σ := by
  unfold go1
  rw [op_makeInterface]
  unfold stepV go got
  cases ev fr x <;> rfl
theorem o_makeFunc (fn fs cs dst ty pos after guard dr ops os ks Q fr σ) : go1 P L n ⟨dst, .makeFunc fn (List.toArray fs) (List.toArray cs), ty, pos, after, guard⟩ dr ops os ks Q fr σ = stepV P L n dst (bindF fn (evL (ev fr) fs) (evL (ev fr) cs)) dr ops os ks Q fr σ := by
  unfold go1
  rw [op_makeFunc]
  unfold stepV go got
  cases evL (ev fr) fs <;> cases evL (ev fr) cs <;> rfl
theorem o_extract (x i dst ty pos after guard dr ops os ks Q fr σ) : go1 P L n ⟨dst, .extract x i, ty, pos, after, guard⟩ dr ops os ks Q fr σ = stepV P L n dst (bind1 (ev fr x) (evExtract i)) dr ops os ks Q fr σ := by
  unfold go1
  rw [op_extract]
  unfold stepV go got
  cases ev fr x <;> rfl
theorem o_typeAssert (x t T ok dst ty pos after guard dr ops os ks Q fr σ) : go1 P L n ⟨dst, .typeAssert x t T ok, ty, pos, after, guard⟩ dr ops os ks Q fr σ = stepV P L n dst (bind1 (ev fr x) (evAssert P T ok)) dr ops os ks Q fr σ := by
  unfold go1
  rw [op_typeAssert]
  unfold stepV go got
  cases ev fr x <;> rfl
theorem o_nilCheck (x dst ty pos after guard dr ops os ks Q fr σ) : go1 P L n ⟨dst, .nilCheck x, ty, pos, after, guard⟩ dr ops os ks Q fr σ = stepV P L n dst (bind1 (ev fr x) evNilCheck) dr ops os ks Q fr σ := by
  unfold go1
  rw [op_nilCheck]
  unfold stepV go got
  cases ev fr x <;> rfl
theorem o_slice (t x lo hi mx dst ty pos after guard dr ops os ks Q fr σ) : go1 P L n ⟨dst, .slice t x lo hi mx, ty, pos, after, guard⟩ dr ops os ks Q fr σ = stepV P L n dst (bindS (ev fr x) P (ev fr) t lo hi mx) dr ops os ks Q fr σ := by
  unfold go1
  rw [op_slice]
  unfold stepV go got
  cases ev fr x <;> rfl
theorem o_fieldAddr (t x f dst ty pos after guard dr ops os ks Q fr σ) : go1 P L n ⟨dst, .fieldAddr t x f, ty, pos, after, guard⟩ dr ops os ks Q fr σ = stepV P L n dst (bind1 (ev fr x) (evFieldAddr P t f)) dr ops os ks Q fr σ := by
  unfold go1
  rw [op_fieldAddr]
  unfold stepV go got
  cases ev fr x <;> rfl
theorem o_field (t x f dst ty pos after guard dr ops os ks Q fr σ) : go1 P L n ⟨dst, .field t x f, ty, pos, after, guard⟩ dr ops os ks Q fr σ = stepV P L n dst (bind1 (ev fr x) (evField P t f)) dr ops os ks Q fr σ := by
  unfold go1
  rw [op_field]
  unfold stepV go got
  cases ev fr x <;> rfl
theorem o_indexAddr (t x i dst ty pos after guard dr ops os ks Q fr σ) : go1 P L n ⟨dst, .indexAddr t x i, ty, pos, after, guard⟩ dr ops os ks Q fr σ = stepV P L n dst (bind2 (ev fr x) (ev fr i) (evIndexAddr P t)) dr ops os ks Q fr σ := by
  unfold go1
  rw [op_indexAddr]
  unfold stepV go got
  cases ev fr x <;> cases ev fr i <;> rfl
theorem o_index (t x i dst ty pos after guard dr ops os ks Q fr σ) : go1 P L n ⟨dst, .index t x i, ty, pos, after, guard⟩ dr ops os ks Q fr σ = stepV P L n dst (bind2 (ev fr x) (ev fr i) (evIndex P t)) dr ops os ks Q fr σ := by
  unfold go1
  rw [op_index]
  unfold stepV go got
  cases ev fr x <;> cases ev fr i <;> rfl
theorem o_build (t ps dst ty pos after guard dr ops os ks Q fr σ) : go1 P L n ⟨dst, .build t (List.toArray ps), ty, pos, after, guard⟩ dr ops os ks Q fr σ = stepV P L n dst (evBuild P (ev fr) t ps) dr ops os ks Q fr σ := by
  unfold go1
  rw [op_build]
  unfold stepV go got
  cases evBuild P (ev fr) t ps <;> rfl
theorem o_len (x t dst ty pos after guard dr ops os ks Q fr σ) : go1 P L n ⟨dst, .call ⟨.builtin .len, #[x], #[t]⟩, ty, pos, after, guard⟩ dr ops os ks Q fr σ = stepV P L n dst (bind1 (ev fr x) (evLen P t)) dr ops os ks Q fr σ := by
  unfold go1
  rw [op_len]
  unfold stepV go got
  cases ev fr x <;> rfl
theorem o_max (x xs ts dst ty pos after guard dr ops os ks Q fr σ) : go1 P L n ⟨dst, .call ⟨.builtin .max, List.toArray (x :: xs), ts⟩, ty, pos, after, guard⟩ dr ops os ks Q fr σ = stepV P L n dst (bind2 (ev fr x) (evL (ev fr) xs) (evFold evMax2)) dr ops os ks Q fr σ := by
  unfold go1
  rw [op_max]
  unfold stepV go got
  cases ev fr x <;> cases evL (ev fr) xs <;> rfl
theorem o_min (x xs ts dst ty pos after guard dr ops os ks Q fr σ) : go1 P L n ⟨dst, .call ⟨.builtin .min, List.toArray (x :: xs), ts⟩, ty, pos, after, guard⟩ dr ops os ks Q fr σ = stepV P L n dst (bind2 (ev fr x) (evL (ev fr) xs) (evFold evMin2)) dr ops os ks Q fr σ := by
  unfold go1
  rw [op_min]
  unfold stepV go got
  cases ev fr x <;> cases evL (ev fr) xs <;> rfl
theorem o_load (t a dst ty pos after guard dr ops os ks Q fr σ) : go1 P L n ⟨dst, .load t a, ty, pos, after, guard⟩ dr ops os ks Q fr σ = stepV P L n dst (bind1 (ev fr a) (evLoad P σ t)) dr ops os ks Q fr σ := by
  unfold go1
  rw [op_load]
  unfold stepV go got
  cases ev fr a <;> rfl
theorem o_pick (c a b dst ty pos after guard dr ops os ks Q fr σ) : go1 P L n ⟨dst, .pick c a b, ty, pos, after, guard⟩ dr ops os ks Q fr σ = stepV P L n dst (pickA (ev fr c) (ev fr a) (ev fr b)) dr ops os ks Q fr σ := by
  unfold go1
  rw [op_pick]
  unfold stepV go got
  cases ev fr c with
  | none => rfl
  | some v =>
    cases v <;> try rfl
    rename_i t
    cases t <;> rfl
theorem o_store (t a v dst ty pos after guard dr ops os ks Q fr σ) : go1 P L n ⟨dst, .store t a v, ty, pos, after, guard⟩ dr ops os ks Q fr σ = stepE P L n dst (bind2 (ev fr a) (ev fr v) fun x y => (evStore P σ t x y).map fun σ' => (undefA, σ')) dr ops os ks Q fr := by
  unfold go1
  rw [op_store]
  unfold stepE go got
  cases ev fr a with
  | none => rfl
  | some x =>
    cases ev fr v with
    | none => rfl
    | some y =>
      simp only [bind2, Option.bind_some]
      cases evStore P σ t x y <;> rfl
theorem o_box (t x dst ty pos after guard dr ops os ks Q fr σ) : go1 P L n ⟨dst, .box t x, ty, pos, after, guard⟩ dr ops os ks Q fr σ = stepE P L n dst (bind1 (ev fr x) (evBox σ (held L dst) t)) dr ops os ks Q fr := by
  unfold go1
  rw [op_box]
  unfold stepE go got
  cases ev fr x <;> rfl
theorem o_alloc (t dst ty pos after guard dr ops os ks Q fr σ) : go1 P L n ⟨dst, .alloc t, ty, pos, after, guard⟩ dr ops os ks Q fr σ = stepE P L n dst (bind1 (zeroA P t) (evBox σ (held L dst) t)) dr ops os ks Q fr := by
  unfold go1
  rw [op_alloc]
  unfold stepE go got
  cases zeroA P t <;> rfl
theorem o_buildSlice (t n' ps dst ty pos after guard dr ops os ks Q fr σ) : go1 P L n ⟨dst, .buildSlice t n' (List.toArray ps), ty, pos, after, guard⟩ dr ops os ks Q fr σ = stepE P L n dst (evBuildSlice P σ (held L dst) (ev fr) t n' ps) dr ops os ks Q fr := by
  unfold go1
  rw [op_buildSlice]
  unfold stepE go got
  rfl
theorem o_makeSlice (t l c dst ty pos after guard dr ops os ks Q fr σ) : go1 P L n ⟨dst, .makeSlice t l c, ty, pos, after, guard⟩ dr ops os ks Q fr σ = stepE P L n dst (bind2 (ev fr l) (ev fr c) (evMake P σ (held L dst) t)) dr ops os ks Q fr := by
  unfold go1
  rw [op_makeSlice]
  unfold stepE go got
  cases ev fr l <;> cases ev fr c <;> rfl
theorem o_append (x y tx tz dst ty pos after guard dr ops os ks Q fr σ) : go1 P L n ⟨dst, .call ⟨.builtin .append, #[x, y], #[tx, tz]⟩, ty, pos, after, guard⟩ dr ops os ks Q fr σ = stepE P L n dst (bind2 (ev fr x) (ev fr y) (evAppend P σ (held L dst) tx tz)) dr ops os ks Q fr := by
  unfold go1
  rw [op_append]
  unfold stepE go got
  cases ev fr x <;> cases ev fr y <;> rfl
theorem o_call (f xs ts dst ty pos after guard dr ops os ks Q fr σ) : go1 P L n ⟨dst, .call ⟨.value f, List.toArray xs, ts⟩, ty, pos, after, guard⟩ dr ops os ks Q fr σ = stepC P L n dst (calleeV (ev fr f) (evL (ev fr) xs)) dr ops os ks Q fr σ := by
  unfold go1
  rw [op_call]
  unfold stepC go got
  cases ev fr f with
  | none => rfl
  | some v =>
    cases v <;> try rfl
    rename_i fn a b
    cases fn <;> try rfl
    cases evL (ev fr) xs <;> rfl
theorem o_invoke (r m xs ts dst ty pos after guard dr ops os ks Q fr σ) : go1 P L n ⟨dst, .call ⟨.invoke r m, List.toArray xs, ts⟩, ty, pos, after, guard⟩ dr ops os ks Q fr σ = stepC P L n dst (calleeM P m (ev fr r) (evL (ev fr) xs)) dr ops os ks Q fr σ := by
  unfold go1
  rw [op_invoke]
  unfold stepC go got
  cases ev fr r with
  | none => rfl
  | some v =>
    cases v <;> try rfl
    rename_i t x
    cases evL (ev fr) xs with
    | none => rfl
    | some as =>
      simp only [calleeM]
      cases methA P t m <;> rfl
theorem o_panic (x dst ty pos after guard ops os ks Q fr σ) : go1 P L n ⟨dst, .panic x, ty, pos, after, guard⟩ false ops os ks Q fr σ = stepP P L n (ev fr x) ks Q fr σ := by
  unfold go1
  rw [op_panic]
  rfl

/-- At the end of a round rows may be let go, and nil slices become rows. -/
inductive Lets (n : Nat) (S : List AV → AH → Prop) : List AV → AH → Prop
  | here (fr : List AV) (σ : AH) (h : S fr σ) : Lets n S fr σ
  | away (fr fr' : List AV) (σ g : AH) (hn : n ≤ σ.length) (hb : OwnBel σ.length σ) (hf : FzL σ.length (σ ++ g) fr fr') (h : Lets n S fr' σ) : Lets n S fr (σ ++ g)
theorem Lets.sound {n : Nat} {S : List AV → AH → Prop} {z₀ : Cz} {σ₀ : AH} {w₀ : World} (hl : σ₀.length = n) {a : Act} {w : World} : ∀ {fr : List AV} {σ : AH}, Lets n S fr σ → ∀ z, Ext z₀ σ₀ w₀ z σ w → Inv z σ w → RL z σ w fr a.tmps.toList →
    ∃ z' fr' σ', Ext z₀ σ₀ w₀ z' σ' w ∧ Inv z' σ' w ∧ RL z' σ' w fr' a.tmps.toList ∧ S fr' σ'
  | _, _, .here fr σ h, z, hE, hI, hR => ⟨z, fr, σ, hE, hI, hR, h⟩
  | _, _, .away fr fr' σ g hn hb hf h, z, hE, hI, hR => by
    obtain ⟨h1, h2⟩ := let_go (by omega) hb hE hI
    exact Lets.sound hl h _ h1 h2 (FzL.sound hI (fun id hid => (List.getElem?_append_left hid).symm) hf _ hR)
theorem loop_lets {P : Program} {n : Nat} {c : Code} {Q : APost} (S : Nat → List AV → AH → Prop) (round : ∀ m fr σ, S m fr σ → AW P n c fr σ (AExit.then (fun fr' σ' => ∃ k, k < m ∧ Lets n (S k) fr' σ') Q))
    (m : Nat) (fr : List AV) (σ : AH) (h : S m fr σ) : AW P n (.loop c) fr σ Q := by
  intro z₀ σ₀ w₀ z w a hn hE hI hR
  refine wp_loopN (fun m a' w' => ∃ z' fr' σ', Ext z₀ σ₀ w₀ z' σ' w' ∧ Inv z' σ' w' ∧ RL z' σ' w' fr' a'.tmps.toList ∧ a'.defers = a.defers ∧ S m fr' σ') ?_ m a w ⟨z, fr, σ, hE, hI, hR, rfl, h⟩
  rintro m a' w' ⟨z', fr', σ', h1, h2, h3, h4, h5⟩
  refine wp_mono (round m fr' σ' h5 z₀ σ₀ w₀ z' w' a' hn h1 h2 h3) ?_
  rintro e a'' w'' ⟨z'', fr'', σ'', ae, g1, g2, g3, g4, g5, g6⟩
  cases ae with
  | normal =>
    obtain rfl : e = .normal := g5
    obtain ⟨k, hk, hS⟩ := g6
    obtain ⟨z3, fr3, σ3, k1, k2, k3, k4⟩ := hS.sound hn z'' g1 g2 g3
    exact ⟨k, hk, z3, fr3, σ3, k1, k2, k3, g4.trans h4, k4⟩
  | exit id => obtain rfl : e = .exit id := g5; exact ⟨z'', fr'', σ'', .exit id, g1, g2, g3, g4.trans h4, rfl, g6⟩
  | goto id => obtain rfl : e = .goto id := g5; exact ⟨z'', fr'', σ'', .goto id, g1, g2, g3, g4.trans h4, rfl, g6⟩
  | ret => obtain rfl : e = .ret := g5; exact ⟨z'', fr'', σ'', .ret, g1, g2, g3, g4.trans h4, rfl, g6⟩
  | panic x => obtain ⟨v, rfl, hv⟩ := g5; exact ⟨z'', fr'', σ'', .panic x, g1, g2, g3, g4.trans h4, ⟨v, rfl, hv⟩, g6⟩

/-- What the end of a loop's round says. -/
def loopQ (n : Nat) (S : Nat → List AV → AH → Prop) (m : Nat) (Q : APost) : APost := fun e fr σ =>
  match e with
  | .normal => ∃ k, k < m ∧ Lets n (S k) fr σ
  | e => Q e fr σ
theorem loopQ_normal (S m Q fr σ) : loopQ n S m Q .normal fr σ = ∃ k, k < m ∧ Lets n (S k) fr σ := rfl
theorem loopQ_exit (S m ks Q id fr σ) : loopQ n S m (unwind P L n ks Q) (.exit id) fr σ = leave P L n ks Q (.exit id) fr σ := rfl
theorem loopQ_goto (S m ks Q id fr σ) : loopQ n S m (unwind P L n ks Q) (.goto id) fr σ = leave P L n ks Q (.goto id) fr σ := rfl
theorem loopQ_ret (S m ks Q fr σ) : loopQ n S m (unwind P L n ks Q) .ret fr σ = leave P L n ks Q .ret fr σ := rfl
theorem loopQ_panic (S m ks Q v fr σ) : loopQ n S m (unwind P L n ks Q) (.panic v) fr σ = leave P L n ks Q (.panic v) fr σ := rfl

variable {P} {L} {n}
/-- A loop: `S m` holds at its head, m falls. -/
theorem loop_rule {c : Code} {ks : List KI} {Q : APost} (S : Nat → List AV → AH → Prop) (m : Nat) {fr : List AV} {σ : AH} (h : S m fr σ)
    (round : ∀ m fr σ, S m fr σ → wpS P L n c [] (loopQ n S m (unwind P L n ks Q)) fr σ) : wpLoop P L n c ks Q fr σ := by
  refine loop_lets S (fun m fr σ hS => (wpA_sound (round m fr σ hS)).mono fun e fr' σ' hq => ?_) m fr σ h
  cases e with
  | normal => exact hq
  | exit id => exact hq
  | goto l => exact hq
  | ret => exact hq
  | panic x => exact hq

/-- Ahead of a loop a nil slice becomes a row. -/
theorem loop_row {c : Code} {ks : List KI} {Q : APost} {fr : List AV} {σ : AH} (t e sz : Nat) (ht : fr[t]? = some .nilsl) (h : wpLoop P L n c ks Q (fr.set t (.own σ.length sz 0 0 0)) (σ ++ [arow e sz 0 []])) : wpLoop P L n c ks Q fr σ :=
  AW.newRow t e sz ht h
/-- Ahead of a loop rows are let go. -/
theorem loop_away {c : Code} {ks : List KI} {Q : APost} {fr fr' : List AV} {σ g : AH} (hn : n ≤ σ.length) (hb : OwnBel σ.length σ) (hf : FzL σ.length (σ ++ g) fr fr') (h : wpLoop P L n c ks Q fr' σ) : wpLoop P L n c ks Q fr (σ ++ g) :=
  AW.letGo hn hb hf h

/-- A function out of its body. -/
theorem fun_body {f : FuncId} {fn : Func} {c : Code} {rs : List ResultVar} {args fr : List AV} {σ σ' : AH} {out : AOut} (L : List Nat) (hf : P.funcs[f]? = some fn) (hb : fn.body = some c) (hr : fn.results = List.toArray rs)
    (hok : callOk P f = true) (hfr : args ++ List.replicate (fn.ntmps - args.length) undefA = fr) (h : wpS P L σ.length c [] (endQ P rs (Done σ out σ')) fr σ) : AFun P f args σ out σ' :=
  AFun.body L hf hb hr hok hfr h

end

attribute [go_sem] s_skip s_label s_region s_draw s_seq s_cond s_block s_exit s_goto s_ret s_loop l_nil l_seq l_seq_exit l_seq_goto l_seq_ret l_seq_panic l_block l_block_exit l_block_goto l_block_ret l_block_panic
  g_nil g_cons1 g_move g_assign g_unOp g_binOp g_convert g_makeInterface g_makeFunc g_extract g_typeAssert g_nilCheck g_slice g_fieldAddr g_field g_indexAddr g_index g_build g_call g_load g_pick g_store g_box g_buildSlice g_makeSlice g_range g_next g_panic g_alloc al_none al_some fuseL_nil fuseL_cons fuse1_none fuse1_draw fuse1_store isTmp_tmp isTmp_const isTmp_func isStore_store isStore_alloc fuse_eq isStore_move isStore_assign isStore_unOp isStore_binOp isStore_convert isStore_makeInterface isStore_makeFunc isStore_extract isStore_typeAssert isStore_nilCheck isStore_slice isStore_fieldAddr isStore_field isStore_indexAddr isStore_index isStore_build isStore_call isStore_load isStore_pick isStore_box isStore_buildSlice isStore_makeSlice isStore_range isStore_next isStore_panic v_some e_some b_true b_false gg_true gg_false p_some bind1_some bind2_some bindF_some bindS_some pick_true pick_false calleeV_some calleeM_some loopQ_normal loopQ_exit loopQ_goto loopQ_ret loopQ_panic
  o_move o_assign o_unOp o_binOp o_convert o_makeInterface o_makeFunc o_extract o_typeAssert o_nilCheck o_slice o_fieldAddr o_field o_indexAddr o_index o_build o_len o_max o_min o_load o_pick o_store o_box o_alloc o_buildSlice o_makeSlice o_append o_call o_invoke o_range o_next o_slDat o_unsStr o_panic
attribute [go_sem] List.replicate_succ List.replicate_zero List.length_cons List.length_nil List.cons_append List.nil_append List.set_cons_zero List.set_cons_succ List.getD_cons_zero List.getD_cons_succ
  List.getElem?_cons_zero List.getElem?_cons_succ Option.bind_some Option.map_some Option.bind_none Option.map_none List.append_nil if_true if_false Bool.not_true Bool.not_false
end Go.Abs
end
section
/- Frames as functions: what is known of the slots is a chain of writes. -/
namespace Go.Abs

/-- `N` slots. -/
def mk (N : Nat) (f : Nat → AV) : List AV := (List.range N).map f
def noneF : Nat → AV := fun _ => undefA
/-- A slot written. -/
def wr (f : Nat → AV) (i : Nat) (v : AV) : Nat → AV := fun j => if j = i then v else f j
def sel {α : Type} (c : Bool) (a b : α) : α := match c with
  | true => a
  | false => b
@[congr] theorem sel_congr {α : Type} {c c' : Bool} {a b : α} (h : c = c') : sel c a b = sel c' a b := by rw [h]
theorem sel_true {α : Type} (a b : α) : sel true a b = a := rfl
theorem sel_false {α : Type} (a b : α) : sel false a b = b := rfl
theorem noneF_at (j : Nat) : noneF j = undefA := rfl
theorem wr_at (f : Nat → AV) (i : Nat) (v : AV) (j : Nat) : wr f i v j = sel (j == i) v (f j) := by
  unfold wr
  by_cases h : j = i
  · rw [if_pos h, beq_iff_eq.2 h]; rfl
  · rw [if_neg h, beq_eq_false_iff_ne.2 h]; rfl
theorem mk_len (N : Nat) (f : Nat → AV) : (mk N f).length = N := by simp [mk]
theorem mk_at' (N : Nat) (f : Nat → AV) (i : Nat) : (mk N f)[i]? = sel (decide (i < N)) (some (f i)) none := by
  unfold mk
  rw [List.getElem?_map]
  by_cases h : i < N
  · rw [List.getElem?_range h, decide_eq_true h]; rfl
  · rw [List.getElem?_eq_none (by simpa using h), decide_eq_false h]; rfl
theorem mk_at (N : Nat) (f : Nat → AV) (i : Nat) : (mk N f)[i]? = sel (N - i == 0) none (some (f i)) := by
  rw [mk_at']
  by_cases h : i < N
  · rw [decide_eq_true h, beq_eq_false_iff_ne.2 (show N - i ≠ 0 by omega)]; rfl
  · rw [decide_eq_false h, beq_iff_eq.2 (show N - i = 0 by omega)]; rfl
theorem mk_getD (N : Nat) (f : Nat → AV) (i : Nat) (d : AV) : (mk N f).getD i d = sel (N - i == 0) d (f i) := by
  rw [List.getD_eq_getElem?_getD, mk_at]
  cases (N - i == 0) <;> rfl
theorem mk_set (N : Nat) (f : Nat → AV) (i : Nat) (v : AV) : (mk N f).set i v = mk N (wr f i v) := by
  apply List.ext_getElem?
  intro j
  rw [List.getElem?_set, mk_at', mk_at', mk_len]
  unfold wr
  by_cases h : i = j
  · subst h
    by_cases h2 : i < N
    · simp [h2, sel]
    · simp [h2, sel]
  · rw [if_neg h, if_neg (Ne.symm h)]
theorem mk_of (fr : List AV) : fr = mk fr.length fun i => fr.getD i undefA := by
  apply List.ext_getElem?
  intro j
  rw [mk_at']
  by_cases h : j < fr.length
  · simp [h, sel]
  · rw [decide_eq_false h, List.getElem?_eq_none (by omega)]; rfl
/-- The arguments' slots. -/
def argF : List AV → Nat → (Nat → AV) → Nat → AV
  | [], _, f => f
  | x :: xs, i, f => argF xs (i + 1) (wr f i x)
theorem argF_nil (i : Nat) (f : Nat → AV) : argF [] i f = f := rfl
theorem argF_cons (x : AV) (xs : List AV) (i : Nat) (f : Nat → AV) : argF (x :: xs) i f = argF xs (i + 1) (wr f i x) := rfl
theorem argF_at : ∀ (xs : List AV) (i : Nat) (f : Nat → AV) (j : Nat), argF xs i f j = if i ≤ j ∧ j < i + xs.length then xs.getD (j - i) undefA else f j
  | [], i, f, j => by simp [argF]; omega
  | x :: xs, i, f, j => by
    rw [argF_cons, argF_at xs]
    simp only [List.length_cons]
    by_cases h : i + 1 ≤ j ∧ j < i + 1 + xs.length
    · rw [if_pos h, if_pos (by omega), show j - i = (j - (i + 1)) + 1 by omega, List.getD_cons_succ]
    · rw [if_neg h]
      unfold wr
      by_cases h2 : j = i
      · subst h2
        rw [if_pos rfl, if_pos (by omega), Nat.sub_self]
        rfl
      · rw [if_neg h2, if_neg (by omega)]
theorem mk_args {args : List AV} {N : Nat} (h : Nat.ble args.length N = true) : args ++ List.replicate (N - args.length) undefA = mk N (argF args 0 noneF) := by
  have hl := Nat.le_of_ble_eq_true h
  apply List.ext_getElem?
  intro j
  rw [mk_at', argF_at]
  by_cases h1 : j < args.length
  · rw [List.getElem?_append_left h1, decide_eq_true (show j < N by omega)]
    simp [sel, h1]
  · rw [List.getElem?_append_right (by omega), List.getElem?_replicate]
    by_cases h2 : j < N
    · rw [decide_eq_true h2, if_pos (by omega)]
      simp [sel, h1, noneF]
    · rw [decide_eq_false h2, if_neg (by omega)]
      rfl

/-- The known slots. -/
def slotF (f : Nat → AV) : List (Nat × AV) → Nat → AV
  | [] => f
  | (i, v) :: r => slotF (wr f i v) r
def atF (fr : List AV) : List (Nat × AV) → Prop
  | [] => True
  | (i, v) :: r => fr[i]? = some v ∧ atF fr r
/-- A frame of `n` slots, some of which are known. -/
def Slots (n : Nat) (s : List (Nat × AV)) (fr : List AV) : Prop := fr.length = n ∧ atF fr s

theorem slot_set : ∀ (s : List (Nat × AV)) (f : Nat → AV) (N : Nat), atF (mk N f) s → mk N (slotF f s) = mk N f
  | [], _, _, _ => rfl
  | (i, v) :: r, f, N, h => by
    simp only [slotF]
    have e : mk N (wr f i v) = mk N f := by
      rw [← mk_set]
      apply List.ext_getElem?
      intro j
      by_cases hj : i = j
      · subst hj
        have hlt := (List.getElem?_eq_some_iff.1 h.1).1
        rw [List.getElem?_set_self hlt, h.1]
      · rw [List.getElem?_set_ne hj]
    rw [slot_set r (wr f i v) N (by rw [e]; exact h.2), e]
theorem Slots.opened {n : Nat} {s : List (Nat × AV)} {fr : List AV} (h : Slots n s fr) : ∃ g, fr = mk n (slotF g s) := by
  obtain ⟨hl, ha⟩ := h
  subst hl
  refine ⟨fun i => fr.getD i undefA, ?_⟩
  have e := mk_of fr
  rw [slot_set s _ _ (by rw [← e]; exact ha)]
  exact e
theorem slotF_nil (f : Nat → AV) : slotF f [] = f := rfl
theorem slotF_cons (f : Nat → AV) (i : Nat) (v : AV) (r : List (Nat × AV)) : slotF f ((i, v) :: r) = slotF (wr f i v) r := rfl
theorem atF_nil (fr : List AV) : atF fr [] = True := rfl
theorem atF_cons (fr : List AV) (i : Nat) (v : AV) (r : List (Nat × AV)) : atF fr ((i, v) :: r) = (fr[i]? = some v ∧ atF fr r) := rfl
theorem Slots_eq (n : Nat) (s : List (Nat × AV)) (fr : List AV) : Slots n s fr = (fr.length = n ∧ atF fr s) := rfl

/-- A function out of its body. -/
theorem fun_code {P : Program} {f : FuncId} {fn : Func} {c : Code} {rs : List ResultVar} {args : List AV} {σ σ' : AH} {out : AOut} (L : List Nat) (hf : P.funcs[f]? = some fn) (hb : fn.body = some c) (hr : fn.results = List.toArray rs)
    (hok : callOk P f = true) (hN : Nat.ble args.length fn.ntmps = true) (h : wpS P L σ.length c [] (endQ P rs (Done σ out σ')) (mk fn.ntmps (argF args 0 noneF)) σ) : AFun P f args σ out σ' :=
  fun_body L hf hb hr hok (mk_args hN) h

attribute [go_sem] Bool.false_eq_true List.contains_nil List.contains_cons Bool.or_false Bool.false_or Bool.true_or Bool.or_true List.head?_cons Int.toNat_natCast List.length_map List.getElem?_map
  List.drop_zero List.drop_succ_cons List.drop_nil List.take_zero List.take_succ_cons List.all_cons List.all_nil Bool.and_true Bool.true_and Bool.and_false Bool.false_and decide_true decide_false Bool.not_not List.headD_cons
attribute [go_sem] sel_true sel_false noneF_at wr_at mk_len mk_at mk_getD mk_set argF_nil argF_cons slotF_nil slotF_cons atF_nil atF_cons Slots_eq
end Go.Abs
end
section
/- More equations: interfaces, assertions, conversions, comparisons. -/
namespace Go.Abs
section
variable (P : Program) (t : TypeId)
/-- A type that is no interface. -/
def nif : Bool := match P.underlying t with
  | some (.interface _) => false
  | some _ => true
  | none => false
def isIf : Bool := match P.underlying t with
  | some (.interface _) => true
  | _ => false
def isPt : Bool := match P.underlying t with
  | some (.pointer _) => true
  | _ => false
def isBo : Bool := match P.underlying t with
  | some .bool => true
  | _ => false
inductive Cv where
  | int (k : IntKind)
  | str
def cvT (s d : TypeId) : Option Cv := match P.underlying s, P.underlying d with
  | some _, some (.int k) => some (.int k)
  | some _, some .string => some .str
  | _, _ => none
theorem iface_eq (a : AV) : evIface P t a = under_ (nif P t = true) (some (.iface t a)) := by
  unfold evIface nif under_
  cases P.underlying t with
  | none => rfl
  | some d => cases d <;> rfl
theorem assert_iface (t' : TypeId) (v : AV) : evAssert P t false (.iface t' v) = under_ (nif P t = true) (under_ (t' = t) (some v)) := by
  unfold evAssert nif under_
  cases P.underlying t with
  | none => rfl
  | some d => cases d <;> (by_cases h : t' = t <;> simp [h])
theorem assert_ok (t' : TypeId) (v : AV) : evAssert P t true (.iface t' v) = under_ (nif P t = true) (sel (t' == t) (some (.tuple [v, .bool true])) ((zeroA P t).map fun y => .tuple [y, .bool false])) := by
  have key : (match (P.info? t).bind (·.zero) with
      | some zv => (absV zv).map fun y => AV.tuple [y, .bool false]
      | none => none) = (zeroA P t).map fun y => .tuple [y, .bool false] := by
    unfold zeroA
    cases (P.info? t).bind (·.zero) <;> rfl
  unfold evAssert nif under_
  cases P.underlying t with
  | none => rfl
  | some d =>
    by_cases h : t' = t
    · subst h
      cases d <;> simp [sel]
    · have h' : (t' == t) = false := by simpa using h
      rw [h']
      cases d <;> simp only [if_neg h, if_true, ← key, sel, Bool.false_eq_true, if_false] <;> rfl
theorem assert_nil : evAssert P t true .nilIface = under_ (nif P t = true) ((zeroA P t).map fun y => .tuple [y, .bool false]) := by
  have key : (match (P.info? t).bind (·.zero) with
      | some zv => (absV zv).map fun y => AV.tuple [y, .bool false]
      | none => none) = (zeroA P t).map fun y => .tuple [y, .bool false] := by
    unfold zeroA
    cases (P.info? t).bind (·.zero) <;> rfl
  unfold evAssert nif under_
  cases P.underlying t with
  | none => rfl
  | some d => cases d <;> simp only [if_true, ← key, Bool.false_eq_true, if_false] <;> rfl
def cvI (n : Int) : Cv → Option AV
  | .int k => some (.int k (k.wrap n))
  | .str => some (.str (Utf8.encode n))
def cvS (x : ByteArray) : Cv → Option AV
  | .str => some (.str x)
  | _ => none
theorem cvI_int (n : Int) (k : IntKind) : cvI n (.int k) = some (.int k (k.wrap n)) := rfl
theorem cvI_str (n : Int) : cvI n .str = some (.str (Utf8.encode n)) := rfl
theorem cvS_str (x : ByteArray) : cvS x .str = some (.str x) := rfl
theorem conv_int (d : TypeId) (k : IntKind) (n : Int) : evConv P t d (.int k n) = (cvT P t d).bind (cvI n) := by
  unfold evConv cvT
  cases P.underlying t with
  | none => rfl
  | some u => cases P.underlying d with
    | none => rfl
    | some e => cases e <;> rfl
theorem conv_str (d : TypeId) (x : ByteArray) : evConv P t d (.str x) = (cvT P t d).bind (cvS x) := by
  unfold evConv cvT
  cases P.underlying t with
  | none => rfl
  | some u => cases P.underlying d with
    | none => rfl
    | some e => cases e <;> rfl
variable (c : Bool)
theorem bin_bool_eql (a b : Bool) : evBin P .eql t c (.bool a) (.bool b) = under_ (isBo P t = true) (some (.bool (a == b))) := by
  unfold evBin isBo under_
  cases P.underlying t with
  | none => rfl
  | some d => cases d <;> rfl
theorem bin_bool_neq (a b : Bool) : evBin P .neq t c (.bool a) (.bool b) = under_ (isBo P t = true) (some (.bool (a != b))) := by
  unfold evBin isBo under_
  cases P.underlying t with
  | none => rfl
  | some d => cases d <;> rfl
theorem bin_nif_eql : evBin P .eql t true .nilIface .nilIface = under_ (isIf P t = true) (some (.bool true)) := by
  unfold evBin isIf under_
  cases P.underlying t with
  | none => rfl
  | some d => cases d <;> rfl
theorem bin_nif_neq : evBin P .neq t true .nilIface .nilIface = under_ (isIf P t = true) (some (.bool false)) := by
  unfold evBin isIf under_
  cases P.underlying t with
  | none => rfl
  | some d => cases d <;> rfl
theorem bin_if_eql (t' : TypeId) (v : AV) : evBin P .eql t c (.iface t' v) .nilIface = under_ (isIf P t = true) (some (.bool false)) := by
  unfold evBin isIf under_
  cases P.underlying t with
  | none => rfl
  | some d => cases d <;> rfl
theorem bin_if_neq (t' : TypeId) (v : AV) : evBin P .neq t c (.iface t' v) .nilIface = under_ (isIf P t = true) (some (.bool true)) := by
  unfold evBin isIf under_
  cases P.underlying t with
  | none => rfl
  | some d => cases d <;> rfl
theorem bin_np_eql : evBin P .eql t c .nilptr .nilptr = under_ (isPt P t = true) (some (.bool true)) := by
  unfold evBin isPt under_
  cases P.underlying t with
  | none => rfl
  | some d => cases d <;> rfl
theorem bin_np_neq : evBin P .neq t c .nilptr .nilptr = under_ (isPt P t = true) (some (.bool false)) := by
  unfold evBin isPt under_
  cases P.underlying t with
  | none => rfl
  | some d => cases d <;> rfl
theorem bin_ptr_eql (id hw i off : Nat) : evBin P .eql t c (.ptr id hw i off) .nilptr = under_ (isPt P t = true) (some (.bool false)) := by
  unfold evBin isPt under_
  cases P.underlying t with
  | none => rfl
  | some d => cases d <;> rfl
theorem bin_ptr_neq (id hw i off : Nat) : evBin P .neq t c (.ptr id hw i off) .nilptr = under_ (isPt P t = true) (some (.bool true)) := by
  unfold evBin isPt under_
  cases P.underlying t with
  | none => rfl
  | some d => cases d <;> rfl
theorem bin_elem_eql (cs : List AV) : evBin P .eql t c (.elem cs) .nilptr = under_ (isPt P t = true) (some (.bool false)) := by
  unfold evBin isPt under_
  cases P.underlying t with
  | none => rfl
  | some d => cases d <;> rfl
theorem bin_elem_neq (cs : List AV) : evBin P .neq t c (.elem cs) .nilptr = under_ (isPt P t = true) (some (.bool true)) := by
  unfold evBin isPt under_
  cases P.underlying t with
  | none => rfl
  | some d => cases d <;> rfl
end
/-! #### parts of slices and texts -/
def natOf : AV → Option Nat
  | .int _ n => under_ (0 ≤ n) (some n.toNat)
  | _ => none
theorem natOf_int (k : IntKind) (n : Int) : natOf (.int k n) = under_ (0 ≤ n) (some n.toNat) := rfl
theorem bnd_none (es : Operand → Option AV) (d : Nat) : evBnd es d none = some d := rfl
theorem bnd_some (es : Operand → Option AV) (d : Nat) (x : Operand) : evBnd es d (some x) = bind1 (es x) natOf := by
  simp only [evBnd, bind1]
  cases es x with
  | none => rfl
  | some v => cases v <;> rfl
def cutOf {α : Type} (n : Nat) (f : Nat → Nat → α) (l h : Nat) : Option α := under_ (l ≤ h ∧ h ≤ n) (some (f l h))
theorem cutOf_eq {α : Type} (n : Nat) (f : Nat → Nat → α) (l h : Nat) : cutOf n f l h = under_ (l ≤ h ∧ h ≤ n) (some (f l h)) := rfl
theorem cut_match {α : Type} (n : Nat) (f : Nat → Nat → α) (a b : Option Nat) : (match a, b with
    | some l, some h => if l ≤ h ∧ h ≤ n then some (f l h) else none
    | _, _ => none) = bind2 a b (cutOf n f) := by
  cases a with
  | none => rfl
  | some l => cases b <;> rfl
theorem slice_str (P : Program) (es : Operand → Option AV) (t : TypeId) (s : ByteArray) (lo hi : Option Operand) : evSlice P es t (.str s) lo hi none = under_ (isSt P t = true) (bind2 (evBnd es 0 lo) (evBnd es s.size hi) (cutOf s.size fun l h => .str (s.extract l h))) := by
  unfold isSt under_
  cases hu : P.underlying t with
  | none => simp only [evSlice, hu]; rfl
  | some d =>
    cases d
    case string =>
      simp only [if_true, evSlice, hu]
      cases h1 : evBnd es 0 lo with
      | none => rfl
      | some l => cases h2 : evBnd es s.size hi <;> rfl
    all_goals (simp only [evSlice, hu]; rfl)
theorem slice_sl (P : Program) (es : Operand → Option AV) (t : TypeId) (sz : Nat) (xs : List AV) (lo hi : Option Operand) : evSlice P es t (.sl sz xs) lo hi none = under_ ((slT P t).bind (szT P) = some sz) (bind2 (evBnd es 0 lo) (evBnd es xs.length hi) (cutOf xs.length fun l h => .sl sz ((xs.take h).drop l))) := by
  unfold slT
  cases hu : P.underlying t with
  | none => simp only [evSlice, hu]; rfl
  | some d =>
    cases d
    case slice e =>
      simp only [evSlice, hu, Option.bind_some]
      by_cases h : szT P e = some sz
      · rw [if_pos h, under_pos _ h]
        cases h1 : evBnd es 0 lo with
        | none => rfl
        | some l => cases h2 : evBnd es xs.length hi <;> rfl
      · rw [if_neg h]
        unfold under_
        rw [if_neg h]
    all_goals (simp only [evSlice, hu]; rfl)
theorem slice_own (P : Program) (es : Operand → Option AV) (t : TypeId) (id sz hw off len : Nat) (lo hi : Option Operand) : evSlice P es t (.own id sz hw off len) lo hi none = under_ ((slT P t).bind (szT P) = some sz) (bind2 (evBnd es 0 lo) (evBnd es len hi) (cutOf len fun l h => .own id sz hw (off + l) (h - l))) := by
  unfold slT
  cases hu : P.underlying t with
  | none => simp only [evSlice, hu]; rfl
  | some d =>
    cases d
    case slice e =>
      simp only [evSlice, hu, Option.bind_some]
      by_cases h : szT P e = some sz
      · rw [if_pos h, under_pos _ h]
        cases h1 : evBnd es 0 lo with
        | none => rfl
        | some l => cases h2 : evBnd es len hi <;> rfl
      · rw [if_neg h]
        unfold under_
        rw [if_neg h]
    all_goals (simp only [evSlice, hu]; rfl)
attribute [go_sem] natOf_int bnd_none bnd_some cutOf_eq slice_str slice_sl slice_own
theorem fold_nil (f : AV → AV → Option AV) (x : AV) : evFold f x [] = some x := rfl
theorem fold_cons (f : AV → AV → Option AV) (x y : AV) (ys : List AV) : evFold f x (y :: ys) = (f x y).bind fun u => evFold f u ys := by
  simp only [evFold]
  cases f x y <;> rfl
theorem max2_int (k k' : IntKind) (x y : Int) : evMax2 (.int k x) (.int k' y) = some (.int k (max x y)) := by
  simp only [evMax2]
  congr 2
  omega
theorem min2_int (k k' : IntKind) (x y : Int) : evMin2 (.int k x) (.int k' y) = some (.int k (min x y)) := by
  simp only [evMin2]
  congr 2
  omega
attribute [go_sem] fold_nil fold_cons max2_int min2_int
/-! #### what an operation on two values gives; what a conversion gives -/
theorem binD_some {P : Program} {σ : AH} {dr : Bool} {op : BinOp} {t : TypeId} {c : Bool} {a b : AV} (h : evSame P σ op t a b = none) : evBinD P σ dr op t c a b = evBin P op t c a b := by
  unfold evBinD
  rw [h]
  cases evBin P op t c a b with
  | none => cases dr <;> rfl
  | some v => rfl
section
variable (P : Program) (σ : AH) (dr : Bool) (op : BinOp) (t : TypeId) (c : Bool)
theorem same_l (a b : AV) (h : ∀ id hw i off, a ≠ .ptr id hw i off) : evSame P σ op t a b = none := by
  unfold evSame
  split
  · exact absurd rfl (h _ _ _ _)
  · rfl
theorem same_r (a b : AV) (h : ∀ id hw i off, b ≠ .ptr id hw i off) : evSame P σ op t a b = none := by
  unfold evSame
  split
  · exact absurd rfl (h _ _ _ _)
  · rfl
theorem binD_int (k : IntKind) (n : Int) (b : AV) : evBinD P σ dr op t c (.int k n) b = evBin P op t c (.int k n) b := binD_some (same_l _ _ _ _ _ _ (by simp))
theorem binD_str (s : ByteArray) (b : AV) : evBinD P σ dr op t c (.str s) b = evBin P op t c (.str s) b := binD_some (same_l _ _ _ _ _ _ (by simp))
theorem binD_bool (x : Bool) (b : AV) : evBinD P σ dr op t c (.bool x) b = evBin P op t c (.bool x) b := binD_some (same_l _ _ _ _ _ _ (by simp))
theorem binD_nif (b : AV) : evBinD P σ dr op t c .nilIface b = evBin P op t c .nilIface b := binD_some (same_l _ _ _ _ _ _ (by simp))
theorem binD_if (t' : TypeId) (x b : AV) : evBinD P σ dr op t c (.iface t' x) b = evBin P op t c (.iface t' x) b := binD_some (same_l _ _ _ _ _ _ (by simp))
theorem binD_np (b : AV) : evBinD P σ dr op t c .nilptr b = evBin P op t c .nilptr b := binD_some (same_l _ _ _ _ _ _ (by simp))
theorem binD_elem (cs : List AV) (b : AV) : evBinD P σ dr op t c (.elem cs) b = evBin P op t c (.elem cs) b := binD_some (same_l _ _ _ _ _ _ (by simp))
theorem binD_agg (cs : List AV) (b : AV) : evBinD P σ dr op t c (.agg cs) b = evBin P op t c (.agg cs) b := binD_some (same_l _ _ _ _ _ _ (by simp))
theorem binD_ptr_nil (id hw i off : Nat) : evBinD P σ dr op t c (.ptr id hw i off) .nilptr = evBin P op t c (.ptr id hw i off) .nilptr := binD_some (same_r _ _ _ _ _ _ (by simp))
theorem binD_rnif (a : AV) : evBinD P σ dr op t c a .nilIface = evBin P op t c a .nilIface := binD_some (same_r _ _ _ _ _ _ (by simp))
/-- A pointer's type. -/
def ptrT : Bool := match P.underlying t with
  | some (.pointer te) => (P.info? te).isSome
  | _ => false
theorem binD_ptr (id hw i off : Nat) : evBinD P σ false .neq t c (.ptr id hw i off) (.ptr id hw i off) = (σ[id]?).bind fun o => under_ (hw = o.hw) (under_ (ptrT P t = true) (some (.bool false))) := by
  have e : evBin P .neq t c (.ptr id hw i off) (.ptr id hw i off) = none := rfl
  unfold evBinD
  rw [e]
  cases hs : σ[id]? with
  | none => simp only [evSame, hs]; rfl
  | some o =>
    cases hu : P.underlying t with
    | none => simp only [evSame, ptrT, hs, hu]; simp [under_]
    | some d =>
      cases d
      case pointer te =>
        simp only [evSame, ptrT, under_, hs, hu, Option.bind_some, true_and]
        by_cases h1 : hw = o.hw <;> by_cases h2 : (P.info? te).isSome = true <;> simp [h1, h2]
      all_goals simp [evSame, ptrT, under_, hs, hu]
end
section
variable (P : Program) (σ : AH) (s d : TypeId)
theorem cvt_int (k : IntKind) (n : Int) : evCv1 P σ s d (.int k n) = none := by
  have e : evCvt P σ s d (.int k n) = none := by
    unfold evCvt
    split
    · split
      · rename_i h; cases h
      · rfl
    · split
      · rfl
      · rfl
    · rfl
  unfold evCv1
  rw [e]
  rfl
theorem convD_int (k : IntKind) (n : Int) : evConvD P σ s d (.int k n) = (cvT P s d).bind (cvI n) := by
  unfold evConvD
  rw [conv_int, cvt_int]
  cases (cvT P s d).bind (cvI n) <;> rfl
/-- A text to a text (true), or to bytes. -/
def strK : Option Bool := match P.underlying s, P.underlying d with
  | some .string, some (.slice e) => match P.underlying e with
    | some (.int .u8) => some false
    | _ => none
  | some _, some .string => some true
  | _, _ => none
theorem convD_str (x : ByteArray) : evConvD P σ s d (.str x) = (strK P s d).bind fun b => sel b (some (.str x)) (some (.sl 1 (bytesA x))) := by
  cases hs : P.underlying s with
  | none => simp only [evConvD, evCv1, evCvt, strK, evConv, evUp, hs]; rfl
  | some u =>
    cases hd : P.underlying d with
    | none => cases u <;> (simp only [evConvD, evCv1, evCvt, strK, evConv, evUp, hs, hd]; rfl)
    | some v =>
      cases v
      case string => cases u <;> (simp only [evConvD, strK, evConv, hs, hd]; rfl)
      case slice e =>
        cases u
        case string =>
          simp only [evConvD, evCv1, evCvt, strK, evConv, evUp, hs, hd]
          cases P.underlying e with
          | none => rfl
          | some q =>
            cases q
            case int k => cases k <;> rfl
            all_goals rfl
        all_goals (simp only [evConvD, evCv1, evCvt, strK, evConv, evUp, hs, hd]; rfl)
      all_goals (cases u <;> (simp only [evConvD, evCv1, evCvt, strK, evConv, evUp, hs, hd]; rfl))
/-- Bytes to a text. -/
def isTS : Bool := match P.underlying s, P.underlying d with
  | some (.slice e), some .string => match P.underlying e with
    | some (.int .u8) => true
    | _ => false
  | _, _ => false
theorem convD_bytes (a : AV) (h1 : ∀ k n, a ≠ .int k n) (h2 : ∀ x, a ≠ .str x) (h3 : ∀ id hw i off, a ≠ .ptr id hw i off) : evConvD P σ s d a = under_ (isTS P s d = true) ((srcA σ 1 a).bind strOf) := by
  have e1 : evConv P s d a = none := by
    unfold evConv
    split
    · exact absurd rfl (h1 _ _)
    · exact absurd rfl (h2 _)
    · rfl
  have e2 : evUp P σ s d a = none := by
    unfold evUp
    split
    · exact absurd rfl (h3 _ _ _ _)
    · rfl
  have e3 : evCv1 P σ s d a = evCvt P σ s d a := by
    unfold evCv1
    rw [e2]
    cases evCvt P σ s d a <;> rfl
  unfold evConvD
  rw [e1]
  simp only []
  rw [e3]
  have hx : ∀ q : Option AV, (match a with
      | .str _ => none
      | _ => q) = q := by
    intro q
    cases a <;> first
      | rfl
      | exact absurd rfl (h2 _)
  cases hs : P.underlying s with
  | none => simp only [evCvt, isTS, hs]; simp [under_]
  | some u =>
    cases hd : P.underlying d with
    | none => cases u <;> (simp only [evCvt, isTS, hs, hd] <;> simp [under_])
    | some v =>
      cases u
      case slice e =>
        cases v
        case string =>
          simp only [evCvt, isTS, hs, hd]
          cases P.underlying e with
          | none => simp [under_]
          | some q =>
            cases q
            case int k =>
              cases k
              case u8 => simp only [under_, if_true]
              all_goals simp [under_]
            all_goals simp [under_]
        all_goals (simp only [evCvt, isTS, hs, hd] <;> simp [under_])
      case string =>
        cases v
        case slice e =>
          simp only [evCvt, isTS, hs, hd]
          cases a <;> first
            | exact absurd rfl (h2 _)
            | (cases P.underlying e with
              | none => simp [under_]
              | some q =>
                cases q
                case int k => cases k <;> simp [under_]
                all_goals simp [under_])
        all_goals (simp only [evCvt, isTS, hs, hd] <;> simp [under_])
      all_goals (cases v <;> (simp only [evCvt, isTS, hs, hd] <;> simp [under_]))
theorem convD_nil : evConvD P σ s d .nilsl = under_ (isTS P s d = true) (some (.str .empty)) := convD_bytes P σ s d _ (by simp) (by simp) (by simp)
theorem convD_sl (sz : Nat) (xs : List AV) : evConvD P σ s d (.sl sz xs) = under_ (isTS P s d = true) ((srcA σ 1 (.sl sz xs)).bind strOf) := convD_bytes P σ s d _ (by simp) (by simp) (by simp)
theorem convD_own (id sz hw off len : Nat) : evConvD P σ s d (.own id sz hw off len) = under_ (isTS P s d = true) ((srcA σ 1 (.own id sz hw off len)).bind strOf) := convD_bytes P σ s d _ (by simp) (by simp) (by simp)
/-- A pointer to unsafe.Pointer (none), or back. -/
def upT : Option (Option TypeId × Nat) := match P.underlying s, P.underlying d with
  | some (.pointer t), some .unsafePointer => (szT P t).map fun n => (none, n)
  | some .unsafePointer, some (.pointer u) => (szT P u).map fun n => (some u, n)
  | _, _ => none
def upOk (o : ARow) : Option TypeId × Nat → Bool
  | (none, n) => decide (n ≠ 0) && o.kd.open
  | (some u, n) => decide (n = o.sz) && o.kd.isOf u
theorem upOk_to (o : ARow) (n : Nat) : upOk o (none, n) = (decide (n ≠ 0) && o.kd.open) := rfl
theorem upOk_from (o : ARow) (u n : Nat) : upOk o (some u, n) = (decide (n = o.sz) && o.kd.isOf u) := rfl
theorem convD_ptr (id hw : Nat) : evConvD P σ s d (.ptr id hw 0 0) = (σ[id]?).bind fun o => under_ (hw = o.hw ∧ 0 < o.hw ∧ 0 < o.sz) ((upT P s d).bind fun q => sel (upOk o q) (some (.ptr id hw 0 0)) none) := by
  have e1 : evConv P s d (.ptr id hw 0 0) = none := rfl
  have e2 : evCvt P σ s d (.ptr id hw 0 0) = none := by
    unfold evCvt
    split
    · split
      · rename_i h; cases h
      · rfl
    · split
      · rfl
      · rfl
    · rfl
  unfold evConvD evCv1
  rw [e1, e2]
  simp only [evUp, upT]
  cases σ[id]? with
  | none => rfl
  | some o =>
    simp only [Option.bind_some, under_]
    split
    · cases P.underlying s with
      | none => rfl
      | some u =>
        cases P.underlying d with
        | none => cases u <;> rfl
        | some v =>
          cases u <;> cases v <;> try rfl
          · rename_i u
            simp only []
            cases szT P u with
            | none => rfl
            | some n =>
              simp only [Option.map_some, Option.bind_some, upOk]
              by_cases hn : n = o.sz
              · cases h : o.kd.isOf u <;> simp [sel, hn, h]
              · simp [sel, hn]
          · rename_i t
            simp only []
            cases szT P t with
            | none => rfl
            | some n =>
              cases n with
              | zero => rfl
              | succ n =>
                simp only [Option.map_some, Option.bind_some, upOk]
                cases o.kd.open <;> simp [sel]
    · rfl
end
theorem range_str (P : Program) (σ : AH) (t : TypeId) (s : ByteArray) : evRange P σ t (.str s) = under_ (isSt P t = true) (some (.ptr σ.length 1 0 0, σ ++ [⟨0, 1, [], .iter s 0⟩])) := by
  unfold evRange isSt under_
  cases P.underlying t with
  | none => rfl
  | some d => cases d <;> rfl
theorem next_ptr (σ : AH) (id : Nat) : evNext σ (.ptr id 1 0 0) = (σ[id]?).bind fun o => under_ (o.xs = [] ∧ o.hw = 1) (nextK σ id o.sz o.kd) := by
  simp only [evNext, under_]
  cases σ[id]? with
  | none => rfl
  | some o =>
    simp only [Option.bind_some]
    cases hx : o.xs with
    | nil =>
      simp only [true_and]
    | cons a b => simp
theorem nextK_iter (σ : AH) (id sz : Nat) (s : ByteArray) (pos : Nat) : nextK σ id sz (.iter s pos) = sel (decide (pos < s.size)) (some (.tuple [.bool true, .int .i64 pos, .int .i32 (Utf8.decode s pos).1], σ.set id ⟨sz, 1, [], .iter s (pos + (Utf8.decode s pos).2)⟩)) (some (.tuple [.bool false], σ)) := by
  unfold nextK
  by_cases h : pos < s.size <;> simp [h, sel]
theorem slDat_nil : evSlDat .nilsl = some .nilptr := rfl
theorem slDat_own (id sz hw off len : Nat) : evSlDat (.own id sz hw off len) = under_ (0 < len) (some (.ptr id hw off 0)) := rfl
theorem unsStr_nil (P : Program) (σ : AH) (t : TypeId) : evUnsStr P σ t .nilptr (.int .i64 0) = some (.str .empty, σ) := rfl
attribute [go_sem] binD_int binD_str binD_bool binD_nif binD_if binD_np binD_elem binD_agg binD_ptr_nil binD_rnif binD_ptr convD_int convD_str convD_nil convD_sl convD_own upOk_to upOk_from convD_ptr range_str next_ptr nextK_iter slDat_nil slDat_own unsStr_nil strOf_bytesA
theorem nilCheck_ptr (a b c d : Nat) : evNilCheck (.ptr a b c d) = some (.ptr a b c d) := rfl
theorem nilCheck_elem (cs : List AV) : evNilCheck (.elem cs) = some (.elem cs) := rfl
theorem nilCheck_func (f : FuncId) (a b : List AV) : evNilCheck (.func (.func f) a b) = some (.func (.func f) a b) := rfl
theorem extract_eq (i : Nat) (vs : List AV) : evExtract i (.tuple vs) = vs[i]? := rfl
theorem wrap_u8 {n : Int} (h : 0 ≤ n) (h' : n ≤ 255) : IntKind.u8.wrap n = n := by
  unfold IntKind.wrap
  simp [IntKind.bits, IntKind.signed]
  omega
theorem wrap_u16 {n : Int} (h : 0 ≤ n) (h' : n ≤ 65535) : IntKind.u16.wrap n = n := by
  unfold IntKind.wrap
  simp [IntKind.bits, IntKind.signed]
  omega
theorem wrap_u32 {n : Int} (h : 0 ≤ n) (h' : n ≤ 4294967295) : IntKind.u32.wrap n = n := by
  unfold IntKind.wrap
  simp [IntKind.bits, IntKind.signed]
  omega
theorem wrap_u64 {n : Int} (h : 0 ≤ n) (h' : n ≤ 18446744073709551615) : IntKind.u64.wrap n = n := by
  unfold IntKind.wrap
  simp [IntKind.bits, IntKind.signed]
  omega
theorem wrap_i32 {n : Int} (h : -2147483648 ≤ n) (h' : n ≤ 2147483647) : IntKind.i32.wrap n = n := by
  unfold IntKind.wrap
  simp [IntKind.bits, IntKind.signed]
  omega
attribute [go_sem] iface_eq assert_iface assert_ok assert_nil cvI_int cvI_str cvS_str conv_int conv_str bin_bool_eql bin_bool_neq bin_nif_eql bin_nif_neq bin_if_eql bin_if_neq bin_np_eql bin_np_neq bin_ptr_eql bin_ptr_neq bin_elem_eql bin_elem_neq
  nilCheck_ptr nilCheck_elem nilCheck_func extract_eq wrap_u8 wrap_u16 wrap_u32 wrap_u64 wrap_i32
end Go.Abs
end
section
/- Saying what is known in another way: rows that are let go, nil slices that become rows or lists. -/
namespace Go.Abs

mutual
/-- `y` says of a value what `x` said, when the rows that `p` names are let go, and the rows of σ' behind those of σ are new, and empty. -/
inductive Fq (p : Nat → Bool) (σ σ' : AH) : AV → AV → Prop
  | lit (x : AV) (h : litA x = true) : Fq p σ σ' x x
  | nil (sz : Nat) : Fq p σ σ' .nilsl (.sl sz [])
  | zsl (sz : Nat) : Fq p σ σ' .zsl (.sl sz [])
  | nilrow (id sz e : Nat) (hn : σ.length ≤ id) (ho : σ'[id]? = some (arow e sz 0 [])) : Fq p σ σ' .nilsl (.own id sz 0 0 0)
  | sl (sz : Nat) (xs ys : List AV) (h : FqL p σ σ' xs ys) : Fq p σ σ' (.sl sz xs) (.sl sz ys)
  | elem (xs ys : List AV) (h : FqL p σ σ' xs ys) : Fq p σ σ' (.elem xs) (.elem ys)
  | agg (xs ys : List AV) (h : FqL p σ σ' xs ys) : Fq p σ σ' (.agg xs) (.agg ys)
  | tuple (xs ys : List AV) (h : FqL p σ σ' xs ys) : Fq p σ σ' (.tuple xs) (.tuple ys)
  | iface (t : TypeId) (x y : AV) (h : Fq p σ σ' x y) : Fq p σ σ' (.iface t x) (.iface t y)
  | func (fn : Fn) (xs ys us vs : List AV) (h : FqL p σ σ' xs ys) (k : FqL p σ σ' us vs) : Fq p σ σ' (.func fn xs us) (.func fn ys vs)
  | own (id sz hw off len : Nat) (h : p id = false) : Fq p σ σ' (.own id sz hw off len) (.own id sz hw off len)
  | ptr (id hw i off : Nat) (h : p id = false) : Fq p σ σ' (.ptr id hw i off) (.ptr id hw i off)
  | row (id sz hw off len : Nat) (o : ARow) (ys : List AV) (h : p id = true) (ho : σ[id]? = some o) (hh : hw = o.hw) (hl : off + len ≤ o.xs.length) (hy : FqL p σ σ' ((o.xs.drop off).take len) ys) :
      Fq p σ σ' (.own id sz hw off len) (.sl sz ys)
  | box (id hw i off : Nat) (o : ARow) (e : AV) (ys : List AV) (h : p id = true) (ho : σ[id]? = some o) (hh : hw = o.hw) (he : o.xs[i]? = some e) (hy : FqL p σ σ' ((cellsA e).drop off) ys) :
      Fq p σ σ' (.ptr id hw i off) (.elem ys)
inductive FqL (p : Nat → Bool) (σ σ' : AH) : List AV → List AV → Prop
  | nil : FqL p σ σ' [] []
  | cons (x y : AV) (xs ys : List AV) (h : Fq p σ σ' x y) (k : FqL p σ σ' xs ys) : FqL p σ σ' (x :: xs) (y :: ys)
end

mutual
/-- No row that `p` names is named. -/
def Off (p : Nat → Bool) : AV → Prop
  | .sl _ xs => OffL p xs
  | .elem xs => OffL p xs
  | .agg xs => OffL p xs
  | .tuple xs => OffL p xs
  | .iface _ x => Off p x
  | .func _ xs us => OffL p xs ∧ OffL p us
  | .own id _ _ _ _ => p id = false
  | .ptr id _ _ _ => p id = false
  | _ => True
def OffL (p : Nat → Bool) : List AV → Prop
  | [] => True
  | x :: xs => Off p x ∧ OffL p xs
end
mutual
theorem Off.fq {p : Nat → Bool} {σ σ' : AH} : ∀ (x : AV), Off p x → Fq p σ σ' x x
  | .bool _, _ => .lit _ rfl
  | .int _ _, _ => .lit _ rfl
  | .str _, _ => .lit _ rfl
  | .nilsl, _ => .lit _ rfl
  | .zsl, _ => .lit _ rfl
  | .nilptr, _ => .lit _ rfl
  | .nilIface, _ => .lit _ rfl
  | .nilFunc, _ => .lit _ rfl
  | .sl _ xs, h => .sl _ _ _ (OffL.fq xs h)
  | .elem xs, h => .elem _ _ (OffL.fq xs h)
  | .agg xs, h => .agg _ _ (OffL.fq xs h)
  | .tuple xs, h => .tuple _ _ (OffL.fq xs h)
  | .iface _ x, h => .iface _ _ _ (Off.fq x h)
  | .func _ xs us, h => .func _ _ _ _ _ (OffL.fq xs h.1) (OffL.fq us h.2)
  | .own _ _ _ _ _, h => .own _ _ _ _ _ h
  | .ptr _ _ _ _, h => .ptr _ _ _ _ h
theorem OffL.fq {p : Nat → Bool} {σ σ' : AH} : ∀ (xs : List AV), OffL p xs → FqL p σ σ' xs xs
  | [], _ => .nil
  | x :: xs, h => .cons _ _ _ _ (Off.fq x h.1) (OffL.fq xs h.2)
end
mutual
theorem Bel.off {p : Nat → Bool} {n : Nat} (hp : ∀ id, id < n → p id = false) : ∀ (x : AV), Bel n x → Off p x
  | .bool _, _ => trivial
  | .int _ _, _ => trivial
  | .str _, _ => trivial
  | .nilsl, _ => trivial
  | .zsl, _ => trivial
  | .nilptr, _ => trivial
  | .nilIface, _ => trivial
  | .nilFunc, _ => trivial
  | .sl _ xs, h => BelL.off hp xs h
  | .elem xs, h => BelL.off hp xs h
  | .agg xs, h => BelL.off hp xs h
  | .tuple xs, h => BelL.off hp xs h
  | .iface _ x, h => Bel.off hp x h
  | .func _ xs us, h => ⟨BelL.off hp xs h.1, BelL.off hp us h.2⟩
  | .own _ _ _ _ _, h => hp _ h
  | .ptr _ _ _ _, h => hp _ h
theorem BelL.off {p : Nat → Bool} {n : Nat} (hp : ∀ id, id < n → p id = false) : ∀ (xs : List AV), BelL n xs → OffL p xs
  | [], _ => trivial
  | x :: xs, h => ⟨Bel.off hp x h.1, BelL.off hp xs h.2⟩
end

section
variable {z : Cz} {σ : AH} {w : World}
/-- The rows that `p` names are memory that is never written again; those behind σ's have no block. -/
def zQ (z : Cz) (σ : AH) (p : Nat → Bool) : Cz := ⟨fun b => z.N b ∨ ∃ id, p id = true ∧ id < σ.length ∧ z.κ id ≠ 0 ∧ z.φ id = b, z.φ, fun id => if p id = true ∨ σ.length ≤ id then 0 else z.κ id⟩
theorem zQ_κ {p : Nat → Bool} {id : Nat} (h : p id = false) (h' : id < σ.length) : (zQ z σ p).κ id = z.κ id := by
  simp only [zQ]
  rw [if_neg]
  rintro (h1 | h1)
  · rw [h] at h1; cases h1
  · omega

mutual
theorem FqL.length {p : Nat → Bool} {σ σ' : AH} : ∀ {xs ys : List AV}, FqL p σ σ' xs ys → xs.length = ys.length
  | _, _, .nil => rfl
  | _, _, .cons _ _ _ _ _ k => by rw [List.length_cons, List.length_cons, FqL.length k]
end

mutual
theorem Fq.sound {p : Nat → Bool} {σ' : AH} (hI : Inv z σ w) (hσ : ∀ id o, p id = false → σ[id]? = some o → ∃ o', σ'[id]? = some o' ∧ o'.sz = o.sz ∧ o'.hw = o.hw) : ∀ {x y : AV}, Fq p σ σ' x y → ∀ v, R z σ w x v → R (zQ z σ p) σ' w y v
  | _, _, .lit x h, v, hr => by
    cases x <;> first
      | (cases h; done)
      | exact hr
  | _, _, .nil sz, v, hr => ⟨none, 0, hr, Nat.le_refl _, .inl rfl⟩
  | _, _, .zsl sz, v, ⟨a, hr⟩ => ⟨a, 0, hr, Nat.le_refl _, .inl rfl⟩
  | _, _, .nilrow id sz e hn ho, v, hr => ⟨_, ho, rfl, Nat.le_refl _, none, 0, hr, Nat.le_refl _, fun _ => by simp only [zQ]; rw [if_pos (.inr hn)], .inl rfl⟩
  | _, _, .sl sz xs ys h, v, ⟨a, c, hv, hl, hc⟩ => by
    have hlen := h.length
    refine ⟨a, c, by rw [← hlen]; exact hv, by rw [← hlen]; exact hl, ?_⟩
    rcases hc with rfl | ⟨ad, h1, h2, h3, h4⟩
    · left
      exact List.eq_nil_of_length_eq_zero (by rw [← hlen]; rfl)
    · exact .inr ⟨ad, h1, h2, .inl h3, FqL.sl hI hσ h _ h4⟩
  | _, _, .elem xs ys h, v, ⟨ad, hv, h1, h2, h3⟩ => ⟨ad, hv, h1, .inl h2, FqL.cells hI hσ h _ h3⟩
  | _, _, .agg xs ys h, v, ⟨vs, hv, hl⟩ => ⟨vs, hv, FqL.sound hI hσ h _ hl⟩
  | _, _, .tuple xs ys h, v, ⟨vs, hv, hl⟩ => ⟨vs, hv, FqL.sound hI hσ h _ hl⟩
  | _, _, .iface t x y h, v, ⟨u, hv, hr⟩ => ⟨u, hv, Fq.sound hI hσ h u hr⟩
  | _, _, .func fn xs ys us vs h k, v, ⟨fs, cs, hv, h1, h2⟩ => ⟨fs, cs, hv, FqL.sound hI hσ h _ h1, FqL.sound hI hσ k _ h2⟩
  | _, _, .own id sz hw off len h, v, ⟨o, ho, hsz, hle, a, c, hv, hlc, h1, h2⟩ => by
    obtain ⟨o', ho', e1, e2⟩ := hσ id o h ho
    refine ⟨o', ho', e1.trans hsz, by omega, a, c, hv, hlc, fun e => ?_, ?_⟩
    · rw [zQ_κ h (List.getElem?_eq_some_iff.1 ho).1]
      exact h1 (by omega)
    · rcases h2 with h2 | ⟨ad, ha, hd⟩
      · exact .inl h2
      · exact .inr ⟨ad, ha, fun e => hd (by omega)⟩
  | _, _, .ptr id hw i off h, v, ⟨o, ho, hle, a, hv, ha⟩ => by
    obtain ⟨o', ho', e1, e2⟩ := hσ id o h ho
    exact ⟨o', ho', by omega, a, hv, fun e => by rw [e1]; exact ha (by omega)⟩
  | _, _, .row id sz hw off len o ys h ho hh hl hy, v, ⟨o', ho', hsz, hle, a, c, hv, hlc, h1, h2⟩ => by
    rw [ho] at ho'
    cases ho'
    have hlen := hy.length
    have hyl : ((o.xs.drop off).take len).length = len := by simp; omega
    refine ⟨a, c, by rw [← hlen, hyl]; exact hv, by rw [← hlen, hyl]; exact hlc, ?_⟩
    by_cases h0 : len = 0
    · left
      exact List.eq_nil_of_length_eq_zero (by rw [← hlen, hyl, h0])
    · right
      rcases h2 with h2 | ⟨ad, ha, had⟩
      · omega
      · have had := had hh
        have hκ := h1 hh
        subst had
        refine ⟨_, ha, rfl, .inr ⟨id, h, (List.getElem?_eq_some_iff.1 ho).1, by omega, rfl⟩, ?_⟩
        obtain ⟨_, _, _, hR⟩ := hI.row id o ho
        have hR' : RSl z σ w (z.φ id) sz (off * sz) ((o.xs.drop off).take len) := by
          have h1 := hR.drop_take off (off + len)
          rw [Nat.zero_add, hsz] at h1
          rw [show (o.xs.drop off).take len = (o.xs.take (off + len)).drop off by rw [List.drop_take]; congr 1; omega]
          exact h1
        exact FqL.sl hI hσ hy _ hR'
  | _, _, .box id hw i off o e ys h ho hh he hy, v, ⟨o', ho', hle, a, hv, ha⟩ => by
    rw [ho] at ho'
    cases ho'
    have ha := ha hh
    subst ha
    obtain ⟨g1, g2, _, _⟩ := hI.row id o ho
    have hix := (List.getElem?_eq_some_iff.1 he).1
    exact ⟨_, hv, rfl, .inr ⟨id, h, (List.getElem?_eq_some_iff.1 ho).1, by omega, rfl⟩, FqL.cells hI hσ hy _ ((hI.cellsOf ho he).drop off)⟩
theorem FqL.sound {p : Nat → Bool} {σ' : AH} (hI : Inv z σ w) (hσ : ∀ id o, p id = false → σ[id]? = some o → ∃ o', σ'[id]? = some o' ∧ o'.sz = o.sz ∧ o'.hw = o.hw) : ∀ {xs ys : List AV}, FqL p σ σ' xs ys → ∀ vs, RL z σ w xs vs → RL (zQ z σ p) σ' w ys vs
  | _, _, .nil, _, h => h
  | _, _, .cons x y xs ys h k, _, ⟨u, us, hv, h1, h2⟩ => ⟨u, us, hv, Fq.sound hI hσ h u h1, FqL.sound hI hσ k us h2⟩
theorem FqL.sl {p : Nat → Bool} {σ' : AH} (hI : Inv z σ w) (hσ : ∀ id o, p id = false → σ[id]? = some o → ∃ o', σ'[id]? = some o' ∧ o'.sz = o.sz ∧ o'.hw = o.hw) {b sz : Nat} : ∀ {xs ys : List AV}, FqL p σ σ' xs ys → ∀ o, RSl z σ w b sz o xs → RSl (zQ z σ p) σ' w b sz o ys
  | _, _, .nil, _, _ => trivial
  | _, _, .cons x y xs ys h k, _, ⟨⟨v, h1, h2⟩, h3⟩ => ⟨⟨v, Fq.sound hI hσ h v h1, h2⟩, FqL.sl hI hσ k _ h3⟩
theorem FqL.cells {p : Nat → Bool} {σ' : AH} (hI : Inv z σ w) (hσ : ∀ id o, p id = false → σ[id]? = some o → ∃ o', σ'[id]? = some o' ∧ o'.sz = o.sz ∧ o'.hw = o.hw) {b : Nat} : ∀ {xs ys : List AV}, FqL p σ σ' xs ys → ∀ o, RCells z σ w b o xs → RCells (zQ z σ p) σ' w b o ys
  | _, _, .nil, _, _ => trivial
  | _, _, .cons x y xs ys h k, _, ⟨⟨v, h1, h2⟩, h3⟩ => ⟨⟨v, Fq.sound hI hσ h v h1, h2⟩, FqL.cells hI hσ k _ h3⟩
end

/-- The rows of σ, turned; behind them empty ones. -/
structure Rows (n : Nat) (p : Nat → Bool) (σ σ' : AH) : Prop where
  len : σ.length ≤ σ'.length
  keep : ∀ id o, σ[id]? = some o → p id = false → ∃ o', σ'[id]? = some o' ∧ o'.sz = o.sz ∧ o'.hw = o.hw ∧ o'.kd = o.kd ∧ FqL p σ σ' o.xs o'.xs
  gone : ∀ id o, σ[id]? = some o → p id = true → n ≤ id ∧ σ'[id]? = some ⟨o.sz, 0, [], .free⟩
  new : ∀ id o, σ.length ≤ id → σ'[id]? = some o → o.hw = 0 ∧ o.xs = []

theorem turn_rows {n : Nat} {p : Nat → Bool} {σ σ' : AH} {fr fr' : List AV} (h : Rows n p σ σ') (hf : FqL p σ σ' fr fr') : Turn n fr σ fr' σ' := by
  intro z₀ σ₀ w₀ z w vs hn hE hI hR
  have hσ : ∀ id o, p id = false → σ[id]? = some o → ∃ o', σ'[id]? = some o' ∧ o'.sz = o.sz ∧ o'.hw = o.hw := fun id o hp ho =>
    let ⟨o', h1, h2, h3, _⟩ := h.keep id o ho hp
    ⟨o', h1, h2, h3⟩
  have hlt : ∀ {id o}, σ[id]? = some o → id < σ.length := fun ho => (List.getElem?_eq_some_iff.1 ho).1
  have hcase : ∀ {id o'}, σ'[id]? = some o' → (id < σ.length ∧ p id = false ∧ (zQ z σ p).κ id = z.κ id) ∨ ((zQ z σ p).κ id = 0 ∧ o'.hw = 0 ∧ o'.xs = []) := by
    intro id o' ho'
    by_cases hl : id < σ.length
    · cases hp : p id with
      | false => exact .inl ⟨hl, rfl, zQ_κ hp hl⟩
      | true =>
        obtain ⟨_, h1⟩ := h.gone id _ (List.getElem?_eq_getElem hl) hp
        rw [h1] at ho'
        cases ho'
        exact .inr ⟨by simp only [zQ]; rw [if_pos (.inl hp)], rfl, rfl⟩
    · obtain ⟨h1, h2⟩ := h.new id o' (by omega) ho'
      exact .inr ⟨by simp only [zQ]; rw [if_pos (.inr (by omega))], h1, h2⟩
  have hκ : ∀ {id}, (zQ z σ p).κ id ≠ 0 → id < σ.length ∧ p id = false ∧ (zQ z σ p).κ id = z.κ id := by
    intro id hk
    by_cases hl : id < σ.length
    · cases hp : p id with
      | false => exact ⟨hl, rfl, zQ_κ hp hl⟩
      | true => exact absurd (by simp only [zQ]; rw [if_pos (.inl hp)]) hk
    · exact absurd (by simp only [zQ]; rw [if_pos (.inr (by omega))]) hk
  refine ⟨zQ z σ p, ⟨fun b hb => .inl (hE.N b hb), hE.keep, ?_, hE.size, hE.frame, ?_, ?_, hE.os, hE.tape, hE.output⟩, ⟨?_, ?_, ?_, ?_⟩, FqL.sound hI hσ hf _ hR⟩
  · intro id o ho
    obtain ⟨o', ho', e1, e2, e3⟩ := hE.row id o ho
    have hid := (List.getElem?_eq_some_iff.1 ho).1
    have hp : p id = false := by
      cases hp : p id with
      | false => rfl
      | true => have := (h.gone id o' ho' hp).1; omega
    obtain ⟨o'', ho'', k1, k2, _⟩ := h.keep id o' ho' hp
    refine ⟨o'', ho'', k1.trans e1, by omega, fun e => ?_⟩
    rw [zQ_κ hp (hlt ho')]
    exact e3 (by omega)
  · intro id hid hk
    obtain ⟨h1, h2, h3⟩ := hκ hk
    rw [h3] at hk
    exact hE.news id h1 hk
  · intro b hb
    rcases hb with hb | ⟨id, h1, h2, h3, h4⟩
    · exact hE.newN b hb
    · rcases hE.news id h2 h3 with ⟨g1, g2, g3⟩ | g1
      · exact .inr (.inr ⟨id, g1, g2, g3.symm.trans h4⟩)
      · exact .inr (.inl (h4 ▸ g1))
  · intro id o' ho'
    rcases hcase ho' with ⟨h1, h2, h3⟩ | ⟨h1, h2, h3⟩
    · obtain ⟨o'', ho'', k1, k2, kk, k3⟩ := h.keep id _ (List.getElem?_eq_getElem h1) h2
      rw [ho'] at ho''
      cases ho''
      obtain ⟨g1, g2, g3, g4⟩ := hI.row id _ (List.getElem?_eq_getElem h1)
      rw [h3]
      refine ⟨by rw [← k3.length, k2]; exact g1, by rw [k2]; exact g2, ?_, ?_⟩
      · rw [k1, kk]; exact g3
      · rw [k1]; exact FqL.sl hI hσ k3 _ g4
    · rw [h1, h2, h3]
      exact ⟨Nat.le_refl _, Nat.le_refl _, fun h => absurd rfl h, trivial⟩
  · intro i j hi hj hki hkj he
    obtain ⟨a1, _, a3⟩ := hκ hki
    obtain ⟨b1, _, b3⟩ := hκ hkj
    rw [a3] at hki
    rw [b3] at hkj
    exact hI.inj i j a1 b1 hki hkj he
  · intro i hi hk hN
    obtain ⟨a1, a2, a3⟩ := hκ hk
    rw [a3] at hk
    rcases hN with hN | ⟨id, h1, h2, h3, h4⟩
    · exact hI.apart i a1 hk hN
    · have := hI.inj id i h2 a1 h3 hk h4
      subst this
      rw [a2] at h1
      cases h1
  · intro b hb
    rcases hb with hb | ⟨id, _, h2, h3, h4⟩
    · exact hI.old b hb
    · exact h4 ▸ hI.lt h2 h3

theorem turn_away {n : Nat} {σ₁ g : AH} {fr fr' : List AV} (hn : n ≤ σ₁.length) (hb : OwnBel σ₁.length σ₁) (hf : FzL σ₁.length (σ₁ ++ g) fr fr') : Turn n fr (σ₁ ++ g) fr' σ₁ := by
  intro z₀ σ₀ w₀ z w vs hl hE hI hR
  obtain ⟨h1, h2⟩ := let_go (by omega) hb hE hI
  exact ⟨_, h1, h2, FzL.sound hI (fun id hid => (List.getElem?_append_left hid).symm) hf _ hR⟩
end

theorem AFun.calls {P : Program} {f : FuncId} {args : List AV} {σ σ' : AH} {out : AOut} (hok : callOk P f = true) (h : AFun P f args σ out σ') (z : Cz) (w : World) (vs : Array Value) (hI : Inv z σ w) (hR : RL z σ w args vs.toList) :
    Calls P f vs w fun e w' => ∃ z', Ext z σ w z' σ' w' ∧ Inv z' σ' w' ∧ OutR z' σ' w' out e := by
  rcases h with ⟨_, h⟩ | h
  · exact h z w vs hI hR
  · obtain ⟨v, w', z', h1, _⟩ := h z w vs hI hR
    rw [callFunc_run hok] at h1
    cases h1
/-- Where rows are held, they name no row that is not. -/
theorem AFun.bel {P : Program} {f : FuncId} {args : List AV} {σ σ' : AH} {out : AOut} (hok : callOk P f = true) (h : OwnBel σ.length σ → AFun P f args σ out σ') : AFun P f args σ out σ' :=
  .inl ⟨hok, fun z w vs hI hR => (h hI.ownBel).calls hok z w vs hI hR⟩
/-- Another way of saying what the arguments are. -/
theorem AFun.turn {P : Program} {f : FuncId} {args args' : List AV} {σ σ₁ σ' : AH} {out : AOut} (hok : callOk P f = true) (ht : Turn σ.length args σ args' σ₁) (h : AFun P f args' σ₁ out σ') : AFun P f args σ out σ' := by
  refine .inl ⟨hok, fun z w vs hI hvs => ?_⟩
  obtain ⟨z', h1, h2, h3⟩ := ht z σ w z w vs.toList rfl (Ext.refl _ _ _) hI hvs
  exact (h.calls hok z' w vs h2 h3).mono fun e w' ⟨z'', k1, k2, k3⟩ => ⟨z'', h1.trans k1, k2, k3⟩
section
variable {P : Program} {L : List Nat} {n : Nat}
/-- Ahead of a loop. -/
theorem loop_turn {c : Code} {ks : List KI} {Q : APost} {fr fr' : List AV} {σ σ' : AH} (ht : Turn n fr σ fr' σ') (h : wpLoop P L n c ks Q fr' σ') : wpLoop P L n c ks Q fr σ := by
  intro z₀ σ₀ w₀ z w a hn hE hI hR
  obtain ⟨z', h1, h2, h3⟩ := ht z₀ σ₀ w₀ z w _ hn hE hI hR
  exact h z₀ σ₀ w₀ z' w a hn h1 h2 h3
end
end Go.Abs
end
section
/- Loops: only the slots that the round writes are spoken of. -/
namespace Go.Abs

/-- A number that one of some ranges has. -/
def inM : List (Nat × Nat) → Nat → Bool
  | [], _ => false
  | p :: M, i => (decide (p.1 ≤ i) && decide (i ≤ p.2)) || inM M i
theorem inM_nil (i : Nat) : inM [] i = false := rfl
theorem inM_cons (a b : Nat) (M : List (Nat × Nat)) (i : Nat) : inM ((a, b) :: M) i = ((decide (a ≤ i) && decide (i ≤ b)) || inM M i) := rfl
/-- The slots of `M` as in `g`, the others as in `f`. -/
def ov (M : List (Nat × Nat)) (f g : Nat → AV) : Nat → AV := fun i => if inM M i = true then g i else f i
theorem ov_at (M : List (Nat × Nat)) (f g : Nat → AV) (i : Nat) : ov M f g i = sel (inM M i) (g i) (f i) := by
  unfold ov
  cases inM M i <;> rfl
/-- Outside `M` the slots are as in `f`. -/
def Agree (M : List (Nat × Nat)) (f h : Nat → AV) : Prop := ∀ i, inM M i = false → h i = f i
theorem agree_self (M : List (Nat × Nat)) (f : Nat → AV) : Agree M f f := fun _ _ => rfl
theorem agree_ov (M : List (Nat × Nat)) (f g : Nat → AV) : Agree M f (ov M f g) := fun i hi => by
  unfold ov
  rw [hi]
  rfl
theorem agree_wr {M : List (Nat × Nat)} {f h : Nat → AV} {i : Nat} {v : AV} (hi : inM M i = true) (k : Agree M f h) : Agree M f (wr h i v) := fun j hj => by
  unfold wr
  rw [if_neg]
  · exact k j hj
  · rintro rfl
    rw [hi] at hj
    cases hj
theorem agree_slot {M : List (Nat × Nat)} {f : Nat → AV} : ∀ {s : List (Nat × AV)} {h : Nat → AV}, (s.all fun p => inM M p.1) = true → Agree M f h → Agree M f (slotF h s)
  | [], _, _, k => k
  | (i, v) :: s, h, hs, k => by
    simp only [List.all_cons, Bool.and_eq_true] at hs
    exact agree_slot (s := s) (h := wr h i v) hs.2 (agree_wr hs.1 k)
theorem agree_eq {M : List (Nat × Nat)} {f h : Nat → AV} (k : Agree M f h) : ov M f h = h := by
  funext i
  unfold ov
  cases hi : inM M i with
  | true => rfl
  | false => rw [if_neg (by simp), k i hi]

section
variable {P : Program} {L : List Nat} {n : Nat}
/-- What holds at the head of a loop: what is known of its variables, and the other slots as they were. -/
def AtHead (N : Nat) (M : List (Nat × Nat)) (f : Nat → AV) (S : List (Nat × AV) → AH → Prop) (fr : List AV) (σ : AH) : Prop :=
  ∃ s h, fr = mk N h ∧ Agree M f h ∧ atF fr s ∧ S s σ

theorem loop_keep {c : Code} {ks : List KI} {Q : APost} {N : Nat} {f : Nat → AV} {σ : AH} (M : List (Nat × Nat)) (S : Nat → List (Nat × AV) → AH → Prop) (m : Nat) (s : List (Nat × AV)) (h : S m s σ) (hs : atF (mk N f) s)
    (round : ∀ m s g τ, S m s τ → wpS P L n c [] (loopQ n (fun m => AtHead N M f (S m)) m (unwind P L n ks Q)) (mk N (slotF (ov M f g) s)) τ) : wpLoop P L n c ks Q (mk N f) σ := by
  refine loop_rule (fun m => AtHead N M f (S m)) m ⟨s, f, rfl, agree_self M f, hs, h⟩ ?_
  rintro m fr τ ⟨s, h, rfl, ha, hs, hS⟩
  have := round m s h τ hS
  rw [agree_eq ha, slot_set s h N hs] at this
  exact this

theorem next_round {N : Nat} {M : List (Nat × Nat)} {f F : Nat → AV} {S : Nat → List (Nat × AV) → AH → Prop} {m : Nat} {τ : AH} (k : Nat) (hk : k < m) (s : List (Nat × AV)) (hS : S k s τ) (ha : Agree M f F) (hs : atF (mk N F) s) :
    ∃ k, k < m ∧ Lets n (AtHead N M f (S k)) (mk N F) τ := ⟨k, hk, .here _ _ ⟨s, F, rfl, ha, hs, hS⟩⟩
end
theorem fits_of {n b : Nat} (h : (n + 96) * (b + 1) ≤ 70368744177664) : fits n b = true := decide_eq_true h
theorem app_at (σ g : AH) : (σ ++ g)[σ.length]? = g[0]? := by rw [List.getElem?_append_right (Nat.le_refl _), Nat.sub_self]
theorem app_at_add (σ g : AH) (i : Nat) : (σ ++ g)[σ.length + i]? = g[i]? := by rw [List.getElem?_append_right (by omega), Nat.add_sub_cancel_left]
theorem app_set (σ g : AH) (o : ARow) : (σ ++ g).set σ.length o = σ ++ g.set 0 o := by rw [List.set_append_right _ _ (Nat.le_refl _), Nat.sub_self]
theorem app_set_add (σ g : AH) (i : Nat) (o : ARow) : (σ ++ g).set (σ.length + i) o = σ ++ g.set i o := by rw [List.set_append_right _ _ (by omega), Nat.add_sub_cancel_left]
theorem app_len (σ g : AH) : (σ ++ g).length = σ.length + g.length := List.length_append
theorem arow_sz (e : TypeId) (sz hw : Nat) (xs : List AV) : (arow e sz hw xs).sz = sz := rfl
theorem arow_hw (e : TypeId) (sz hw : Nat) (xs : List AV) : (arow e sz hw xs).hw = hw := rfl
theorem arow_xs (e : TypeId) (sz hw : Nat) (xs : List AV) : (arow e sz hw xs).xs = xs := rfl
theorem arow_kd (e : TypeId) (sz hw : Nat) (xs : List AV) : (arow e sz hw xs).kd = .of e := rfl
theorem avar_sz (t : TypeId) (n : Nat) (x : AV) : (avar t n x).sz = n := rfl
theorem avar_hw (t : TypeId) (n : Nat) (x : AV) : (avar t n x).hw = 1 := rfl
theorem avar_xs (t : TypeId) (n : Nat) (x : AV) : (avar t n x).xs = [x] := rfl
theorem avar_kd (t : TypeId) (n : Nat) (x : AV) : (avar t n x).kd = .of t := rfl
attribute [go_sem] arow_sz arow_hw arow_xs arow_kd avar_sz avar_hw avar_xs avar_kd fits_of Nat.sub_zero app_at app_at_add app_set app_set_add app_len ov_at inM_nil inM_cons

/-- A method of an interface's value. -/
def MFun (P : Program) (m : String) (r : AV) (args : List AV) (σ : AH) (out : AV) : Prop := ∃ g as, calleeM P m (some r) (some args) = some (g, as) ∧ AFun P g as σ (.ret out) σ
theorem call_meth {P : Program} {L : List Nat} {n : Nat} {m : String} {r : AV} {args : List AV} {dst dr ops os ks Q fr σ} {out : AV} (h : MFun P m r args σ out) (k : go P L n dr ops os ks Q (put fr dst out) σ) : stepC P L n dst (calleeM P m (some r) (some args)) dr ops os ks Q fr σ := by
  obtain ⟨g, as, e, hf⟩ := h
  rw [e]
  exact call_same _ _ _ hf k

/-! #### ends of functions -/
theorem belL_map {α : Type} {n : Nat} {f : α → AV} (h : ∀ a, Bel n (f a)) : ∀ l : List α, BelL n (l.map f)
  | [] => trivial
  | a :: l => ⟨h a, belL_map h l⟩
theorem belL_append {n : Nat} : ∀ {xs ys : List AV}, BelL n xs → BelL n ys → BelL n (xs ++ ys)
  | [], _, _, k => k
  | _ :: _, _, h, k => ⟨h.1, belL_append h.2 k⟩
/-- The function's own rows are let go; the result names none of them. -/
theorem Done.lit {σ g : AH} {x y : AV} (h : x = y) (hx : Bel σ.length x) : Done σ (.ret y) σ (.ret x) (σ ++ g) := by
  subst h
  exact .ret x x g rfl (Nat.le_refl _) id (Bel.fz x hx)
/-- The function's own rows are let go; the result may name them. -/
theorem Done.frz {σ g : AH} {x y z : AV} (h : y = z) (hx : Fz σ.length (σ ++ g) x y) : Done σ (.ret z) σ (.ret x) (σ ++ g) := by
  subst h
  exact .ret x y g rfl (Nat.le_refl _) id hx
/-- A row of the function's own, as a list. -/
theorem Fz.mine {σ g : AH} {e i sz hw off len : Nat} {xs : List AV} (ho : g[i]? = some (arow e sz hw xs)) (hl : off + len ≤ xs.length) (hx : BelL σ.length xs) : Fz σ.length (σ ++ g) (.own (σ.length + i) sz hw off len) (.sl sz ((xs.drop off).take len)) := by
  refine .row _ _ _ _ _ (arow e sz hw xs) _ (by omega) (by rw [app_at_add]; exact ho) rfl hl (BelL.fz _ ?_)
  have drop : ∀ (k : Nat) (xs : List AV), BelL σ.length xs → BelL σ.length (xs.drop k) := by
    intro k
    induction k with
    | zero => intro xs h; simpa using h
    | succ k ih =>
      intro xs h
      cases xs with
      | nil => simpa using h
      | cons x xs => exact ih xs h.2
  have take : ∀ (k : Nat) (xs : List AV), BelL σ.length xs → BelL σ.length (xs.take k) := by
    intro k
    induction k with
    | zero => intro xs h; simp [BelL]
    | succ k ih =>
      intro xs h
      cases xs with
      | nil => simpa using h
      | cons x xs => exact ⟨h.1, ih xs h.2⟩
  exact take _ _ (drop _ _ hx)
theorem Fz.mine0 {σ g : AH} {e sz hw len : Nat} {xs : List AV} (hl : len = xs.length) (hx : BelL σ.length xs) : Fz σ.length (σ ++ arow e sz hw xs :: g) (.own σ.length sz hw 0 len) (.sl sz xs) := by
  have := Fz.mine (σ := σ) (g := arow e sz hw xs :: g) (i := 0) (off := 0) (len := len) rfl (by omega) hx
  rw [Nat.add_zero, List.drop_zero, hl, List.take_length] at this
  rw [hl]
  exact this
theorem bsz (a : Array UInt8) : ByteArray.size ⟨a⟩ = a.size := rfl
theorem bytesA_append (s t : ByteArray) : bytesA (s ++ t) = bytesA s ++ bytesA t := by
  unfold bytesA
  rw [← List.map_append]
  congr 1
theorem bytesA_length (s : ByteArray) : (bytesA s).length = s.size := by
  simp only [bytesA, List.length_map, Array.length_toList]
  rfl
theorem byOf_bytesA (s : ByteArray) : byOf (bytesA s) = some s.data.toList := byOf_map _
end Go.Abs
end
section
/- Functions without a body. -/
namespace Go.Abs
theorem mark_run (P : Program) (m : Mark) (w : World) : (mark m).run P w = .ok () w := by
  unfold mark
  simp only [Sem.run]
theorem ARun.ext {P : Program} {f : FuncId} {fn : Func} {e : Array Value → Sem Value} {args : List AV} {σ : AH} {out : AV} (hf : P.funcs[f]? = some fn) (hname : (fn.name == "runtime.NumGoroutine") = false) (hb : fn.body.isNone = true)
    (hn : Extern.findNext fn = none) (he : Extern.find fn = some e) (h : ∀ z w (vs : Array Value), Inv z σ w → RL z σ w args vs.toList → ∃ v, (e vs).run P w = .ok v w ∧ R z σ w out v) : AFun P f args σ (.ret out) σ := by
  refine .inr fun z w vs hI hR => ?_
  obtain ⟨v, h1, h2⟩ := h z w vs hI hR
  refine ⟨v, w, z, ?_, Ext.refl _ _ _, hI, v, rfl, h2⟩
  unfold callFunc
  rw [run_bind_ok (show (program).run P w = .ok P w from rfl)]
  simp only [hf, hname, hb, if_true, Bool.false_eq_true, if_false]
  rw [run_bind_ok (mark_run P _ w)]
  simp only [hn, he]
  show ((do pure (.value (← e vs))) : Sem Next).run P w = _
  rw [run_bind_ok h1]
  rfl
/-- What a pointer's type points to. -/
def ptrE (P : Program) (t : TypeId) : Option TypeId := match P.underlying t with
  | some (.pointer e) => some e
  | _ => none
theorem unsStr_ptr (P : Program) (σ : AH) (t : TypeId) (id hw : Nat) (n : Int) : evUnsStr P σ t (.ptr id hw 0 0) (.int .i64 n) = (σ[id]?).bind fun o => (ptrE P t).bind fun e => under_ (hw = o.hw ∧ o.sz = 1 ∧ 0 < n ∧ n ≤ 9223372036854775807 ∧ n.toNat = o.xs.length ∧ o.kd.isOf e = true ∧ szT P e = some 1)
      ((byOf o.xs).map fun (l : List UInt8) => (AV.str ⟨List.toArray l⟩, σ.set id ⟨o.sz, o.hw, o.xs, .sealed⟩)) := by
  simp only [evUnsStr, ptrE]
  cases σ[id]? with
  | none => rfl
  | some o =>
    cases P.underlying t with
    | none => rfl
    | some d => cases d <;> rfl
mutual
theorem off_none : ∀ x : AV, Off (fun _ => false) x
  | .bool _ => trivial
  | .int _ _ => trivial
  | .str _ => trivial
  | .nilsl => trivial
  | .zsl => trivial
  | .nilptr => trivial
  | .nilIface => trivial
  | .nilFunc => trivial
  | .sl _ xs => offL_none xs
  | .elem xs => offL_none xs
  | .agg xs => offL_none xs
  | .tuple xs => offL_none xs
  | .iface _ x => off_none x
  | .func _ xs us => ⟨offL_none xs, offL_none us⟩
  | .own _ _ _ _ _ => rfl
  | .ptr _ _ _ _ => rfl
theorem offL_none : ∀ xs : List AV, OffL (fun _ => false) xs
  | [] => trivial
  | x :: xs => ⟨off_none x, offL_none xs⟩
end
theorem rows_same (n : Nat) (σ : AH) : Rows n (fun _ => false) σ σ where
  len := Nat.le_refl _
  keep := fun _ o ho _ => ⟨o, ho, rfl, rfl, rfl, OffL.fq _ (offL_none _)⟩
  gone := fun _ _ _ h => by cases h
  new := fun id o hid ho => by
    have := (List.getElem?_eq_some_iff.1 ho).1
    omega
/-- Nil slices may be told as lists without elements. -/
theorem AFun.weak {P : Program} {f : FuncId} {args args' : List AV} {σ σ' : AH} {out : AOut} (hok : callOk P f = true) (h : FqL (fun _ => false) σ σ args args') (k : AFun P f args' σ out σ') : AFun P f args σ out σ' :=
  .turn hok (turn_rows (rows_same _ _) h) k
theorem fq_self {σ : AH} (x : AV) : Fq (fun _ => false) σ σ x x := Off.fq x (off_none x)
theorem Done.at {σ σ' τ : AH} {x y : AV} (h : x = y) (k : τ = σ') : Done σ (.ret y) σ' (.ret x) τ := by
  subst h
  subst k
  exact .plain
theorem elemAt_0 (a : AV) (l : List AV) : elemAt (a :: l) 0 = some (.elem (cellsA a)) := rfl
theorem elemAt_1 (a b : AV) (l : List AV) : elemAt (a :: b :: l) 1 = some (.elem (cellsA b)) := rfl
theorem elemAt_2 (a b c : AV) (l : List AV) : elemAt (a :: b :: c :: l) 2 = some (.elem (cellsA c)) := rfl
theorem elemAt_3 (a b c d : AV) (l : List AV) : elemAt (a :: b :: c :: d :: l) 3 = some (.elem (cellsA d)) := rfl
theorem elemAt_4 (a b c d e : AV) (l : List AV) : elemAt (a :: b :: c :: d :: e :: l) 4 = some (.elem (cellsA e)) := rfl
attribute [go_sem] elemAt_0 elemAt_1 elemAt_2 elemAt_3 elemAt_4 List.append_assoc
end Go.Abs
end
section
/- What a claim's arguments read as, as abstract values; from a contract to the claim's call. -/
namespace Go.Abs

/-- The types of arguments. -/
inductive Ty where
  | bool
  | int (k : IntKind)
  | str
  | sl (e : Ty)
  | st (fs : List Ty)

mutual
def Ty.cells : Ty → Nat
  | .st fs => Ty.cellsL fs
  | _ => 1
def Ty.cellsL : List Ty → Nat
  | [] => 0
  | t :: ts => t.cells + Ty.cellsL ts
end

mutual
/-- A value of a type. -/
def HasTy : Ty → AV → Prop
  | .bool, x => ∃ b, x = .bool b
  | .int k, x => ∃ n, x = .int k n ∧ k.min ≤ n ∧ n ≤ k.max
  | .str, x => ∃ s, x = .str s ∧ s.size ≤ reachBytes
  | .sl e, x => ∃ xs, x = .sl e.cells xs ∧ xs.length ≤ reachBytes ∧ ∀ y ∈ xs, HasTy e y
  | .st fs, x => ∃ ys, x = .agg ys ∧ HasTyL fs ys
/-- The cells of a struct's fields. -/
def HasTyL : List Ty → List AV → Prop
  | [], ys => ys = []
  | t :: ts, ys => ∃ x zs, HasTy t x ∧ HasTyL ts zs ∧ ys = cellsA x ++ zs
end

mutual
def tyOk (P : Program) (t : TypeId) : Ty → Bool
  | .bool => match P.underlying t with
    | some .bool => true
    | _ => false
  | .int k => match P.underlying t with
    | some (.int k') => k' == k
    | _ => false
  | .str => match P.underlying t with
    | some .string => true
    | _ => false
  | .sl e => match P.underlying t with
    | some (.slice u) => decide (0 < e.cells) && decide (0 < P.bytesOf u) && P.cellsOf u == e.cells && tyOk P u e
    | _ => false
  | .st fs => match P.underlying t with
    | some (.struct fds) => P.cellsOf t == Ty.cellsL fs && tyOkL P fds.toList 0 fs
    | _ => false
def tyOkL (P : Program) : List Field → Nat → List Ty → Bool
  | [], _, [] => true
  | f :: fs, off, t :: ts => f.offset == off && P.cellsOf f.type == t.cells && tyOk P f.type t && tyOkL P fs (off + t.cells) ts
  | _, _, _ => false
end

/-- All that was there is memory that is never written again. -/
def zA (W : World) : Cz := ⟨fun b => b < W.heap.size, fun _ => 0, fun _ => 0⟩
theorem invA (W : World) : Inv (zA W) [] W := ⟨fun id o h => by simp at h, fun i j h => by simp at h, fun i h => by simp at h, fun b h => h⟩

section
variable {P : Program} {W : World} {H : Type} {enc : TypeId × Value → H} {spare : Nat → Bool} {held : Bool}

theorem mapM_some {α β : Type} {f : α → Option β} : ∀ {l : List α} {r : List β}, l.mapM f = some r → r.length = l.length ∧ ∀ (i : Nat) a, l[i]? = some a → ∃ b, f a = some b ∧ r[i]? = some b
  | [], r, h => by
    simp at h
    subst h
    exact ⟨rfl, fun i a ha => by simp at ha⟩
  | x :: xs, r, h => by
    rw [List.mapM_cons] at h
    cases hx : f x with
    | none => simp [hx] at h
    | some y =>
      cases hr : xs.mapM f with
      | none => simp [hx, hr] at h
      | some ys =>
        simp [hx, hr] at h
        subst h
        obtain ⟨h1, h2⟩ := mapM_some hr
        refine ⟨by simp [h1], fun i a ha => ?_⟩
        cases i with
        | zero => simp at ha; subst ha; exact ⟨y, hx, rfl⟩
        | succ i =>
          obtain ⟨b, h3, h4⟩ := h2 i a (by simpa using ha)
          exact ⟨b, h3, by simpa using h4⟩

theorem cells?_at {a : Addr} {n : Nat} {cs : List Value} (h : W.cells? 0 a n = some cs) : cs.length = n ∧ ∀ i v, cs[i]? = some v → W.cell? (a.add i) = some v := by
  unfold World.cells? at h
  rw [if_pos (Nat.zero_le _)] at h
  obtain ⟨h1, h2⟩ := mapM_some h
  refine ⟨by simpa using h1, fun i v hv => ?_⟩
  have hi : i < n := by
    have := (List.getElem?_eq_some_iff.1 hv).1
    rw [h1] at this
    simpa using this
  obtain ⟨b, h3, h4⟩ := h2 i i (by simp [hi])
  rw [hv] at h4
  cases h4
  exact h3

theorem spot_of_cell {a : Addr} {v : Value} (h : W.cell? a = some v) : a.spot = none ∧ a.block < W.heap.size := by
  unfold World.cell? at h
  split at h
  · rename_i c t fr hb
    split at h
    · cases h
    · rename_i hs
      exact ⟨by simpa using hs, (Array.getElem?_eq_some_iff.1 hb).1⟩
  · cases h

theorem trod_bool {fuel : Nat} {t : TypeId} {cs : List Value} {x : DataW H × List MemPlace} (hu : P.underlying t = some .bool) (h : DataW.trod enc P W 0 spare held (fuel + 1) t cs = some x) : ∃ b, cs = [.bool b] := by
  unfold DataW.trod at h
  rw [hu] at h
  match cs, h with
  | [.bool b], _ => exact ⟨b, rfl⟩
theorem trod_int {fuel : Nat} {t : TypeId} {k : IntKind} {cs : List Value} {x : DataW H × List MemPlace} (hu : P.underlying t = some (.int k)) (h : DataW.trod enc P W 0 spare held (fuel + 1) t cs = some x) :
    ∃ n, cs = [.int k n] ∧ k.min ≤ n ∧ n ≤ k.max := by
  unfold DataW.trod at h
  rw [hu] at h
  match cs, h with
  | [.int k' n], h =>
    simp only at h
    split at h
    · rename_i hc
      obtain ⟨rfl, hwf⟩ := hc
      simp only [Lit.wf, Bool.and_eq_true, decide_eq_true_eq] at hwf
      exact ⟨n, rfl, hwf⟩
    · cases h
theorem trod_str {fuel : Nat} {t : TypeId} {cs : List Value} {x : DataW H × List MemPlace} (hu : P.underlying t = some .string) (h : DataW.trod enc P W 0 spare held (fuel + 1) t cs = some x) : ∃ s, cs = [.string s] ∧ x.1 = .lit (.string s.data.toList) := by
  unfold DataW.trod at h
  rw [hu] at h
  match cs, h with
  | [.string s], h =>
    simp only at h
    split at h
    · cases h
      exact ⟨s, rfl, rfl⟩
    · cases h
theorem weightsAll_mem {d : DataW H} {e : TypeId} {n : Nat} : ∀ {ds : List (DataW H)}, d ∈ ds → n ∈ d.weights P e → n ∈ DataW.weightsAll P e ds
  | d0 :: ds, hd, hn => by
    simp only [DataW.weightsAll, List.mem_append]
    rcases List.mem_cons.1 hd with rfl | hd
    · exact .inl hn
    · exact .inr (weightsAll_mem hd hn)
theorem trod_sl {fuel : Nat} {t u : TypeId} {cs : List Value} {x : DataW H × List MemPlace} (hu : P.underlying t = some (.slice u)) (h : DataW.trod enc P W 0 spare held (fuel + 1) t cs = some x) :
    cs = [.slice none 0 0] ∨ ∃ a len cap, cs = [.slice (some a) len cap] ∧ len ≤ cap ∧ len * P.bytesOf u ∈ (x.1.weights P t).map (fun n => min n (len * P.bytesOf u)) ∧
      ∀ i, i < len → ∃ cs' y, W.cells? 0 (a.add (i * P.cellsOf u)) (P.cellsOf u) = some cs' ∧ DataW.trod enc P W 0 spare held fuel u cs' = some y ∧ ∀ n ∈ y.1.weights P u, n ∈ x.1.weights P t := by
  unfold DataW.trod at h
  rw [hu] at h
  match cs, h with
  | [.slice none 0 0], _ => exact .inl rfl
  | [.slice (some a) len cap], h =>
    right
    simp only at h
    split at h
    · rename_i hc
      obtain ⟨_, h1, h2⟩ := hc
      cases hm : (List.range len).mapM fun i => (W.cells? 0 (a.add (i * P.cellsOf u)) (P.cellsOf u)).bind (DataW.trod enc P W 0 spare held fuel u) with
      | none => rw [hm] at h; cases h
      | some elems =>
        rw [hm] at h
        simp only [Option.bind_some, Option.map_eq_some_iff] at h
        obtain ⟨rest, _, rfl⟩ := h
        obtain ⟨hl, h4⟩ := mapM_some hm
        rw [List.length_range] at hl
        refine ⟨a, len, cap, rfl, h1, ?_, fun i hi => ?_⟩
        · simp only [DataW.weights, hu, List.map_cons, List.mem_cons]
          left
          have : len * P.bytesOf u ≤ ((elems.map (·.1)).length + (rest.map (·.1)).length) * P.bytesOf u := Nat.mul_le_mul_right _ (by rw [List.length_map, hl]; omega)
          omega
        · obtain ⟨y, h5, h6⟩ := h4 i i (by simp [hi])
          cases hcs : W.cells? 0 (a.add (i * P.cellsOf u)) (P.cellsOf u) with
          | none => rw [hcs] at h5; cases h5
          | some cs' =>
            rw [hcs] at h5
            refine ⟨cs', y, rfl, h5, fun n hn => ?_⟩
            simp only [DataW.weights, hu, List.mem_cons, List.mem_append]
            exact .inr (.inl (weightsAll_mem (List.mem_map_of_mem (List.mem_of_getElem? h6)) hn))
    · cases h
theorem trod_st {fuel : Nat} {t : TypeId} {fs : Array Field} {cs : List Value} {x : DataW H × List MemPlace} (hu : P.underlying t = some (.struct fs)) (h : DataW.trod enc P W 0 spare held (fuel + 1) t cs = some x) :
    cs.length = P.cellsOf t ∧ ∃ ys, (fs.toList.mapM fun f => DataW.trod enc P W 0 spare held fuel f.type ((cs.drop f.offset).take (P.cellsOf f.type))) = some ys ∧ x.1.weights P t = DataW.weightsEach P (fs.toList.map (·.type)) (ys.map (·.1)) := by
  unfold DataW.trod at h
  rw [hu] at h
  have h' : (if cs.length = P.cellsOf t then (fs.toList.mapM fun f => DataW.trod enc P W 0 spare held fuel f.type ((cs.drop f.offset).take (P.cellsOf f.type))).map fun xs => ((.agg (xs.map (·.1)) : DataW H), xs.flatMap (·.2)) else none) = some x := by
    revert h
    split <;> intro h <;> first
      | exact h
      | (rename_i heq; cases heq; exact h)
      | (simp_all; done)
  split at h'
  · rename_i hl
    refine ⟨hl, ?_⟩
    cases hm : fs.toList.mapM fun f => DataW.trod enc P W 0 spare held fuel f.type ((cs.drop f.offset).take (P.cellsOf f.type)) with
    | none => rw [hm] at h'; cases h'
    | some ys =>
      rw [hm] at h'
      cases h'
      exact ⟨ys, rfl, by simp only [DataW.weights, hu]⟩
  · cases h'

/-- A value as its cells tell it. -/
def AsCells (ty : Ty) (v : Value) (cs : List Value) : Prop := match ty with
  | .st _ => v = .agg cs.toArray
  | _ => cs = [v]

mutual
theorem read : ∀ (ty : Ty) (fuel : Nat) (t : TypeId) (cs : List Value) (y : DataW H × List MemPlace), tyOk P t ty = true → DataW.trod enc P W 0 spare held fuel t cs = some y → (∀ n ∈ y.1.weights P t, n ≤ reachBytes) →
    ∃ x v, HasTy ty x ∧ v.cells.toList = cs ∧ R (zA W) [] W x v ∧ (∀ u ∈ cs, okV u = true) ∧ cs.length = ty.cells ∧ AsCells ty v cs
  | ty, 0, _, _, _, _, h, _ => by simp [DataW.trod] at h
  | .bool, fuel + 1, t, cs, y, hok, h, hz => by
    unfold tyOk at hok
    split at hok
    · rename_i hu
      obtain ⟨b, rfl⟩ := trod_bool hu h
      exact ⟨.bool b, .bool b, ⟨b, rfl⟩, rfl, rfl, by simp [okV], rfl, rfl⟩
    · cases hok
  | .int k, fuel + 1, t, cs, y, hok, h, hz => by
    unfold tyOk at hok
    split at hok
    · rename_i k' hu
      have hk : k' = k := by simpa using hok
      subst hk
      obtain ⟨n, rfl, h1⟩ := trod_int hu h
      exact ⟨.int _ n, .int _ n, ⟨n, rfl, h1⟩, rfl, rfl, by simp [okV], rfl, rfl⟩
    · cases hok
  | .str, fuel + 1, t, cs, y, hok, h, hz => by
    unfold tyOk at hok
    split at hok
    · rename_i hu
      obtain ⟨s, rfl, h1⟩ := trod_str hu h
      have h2 : s.size ≤ reachBytes := by
        have := hz s.data.toList.length (by rw [h1]; simp [DataW.weights])
        rw [Array.length_toList] at this
        exact this
      exact ⟨.str s, .string s, ⟨s, rfl, h2⟩, rfl, rfl, by simp [okV], rfl, rfl⟩
    · cases hok
  | .sl e, fuel + 1, t, cs, y, hok, h, hz => by
    unfold tyOk at hok
    split at hok
    · rename_i u hu
      simp only [Bool.and_eq_true, beq_iff_eq, decide_eq_true_eq] at hok
      obtain ⟨⟨⟨hpos, hbyte⟩, hcell⟩, hue⟩ := hok
      rcases trod_sl hu h with rfl | ⟨a, len, cap, rfl, hlen, hw, hel⟩
      · exact ⟨.sl e.cells [], .slice none 0 0, ⟨[], rfl, Nat.zero_le _, by simp⟩, rfl, ⟨none, 0, rfl, Nat.le_refl _, .inl rfl⟩, by simp [okV], rfl, rfl⟩
      · have key : ∀ i, i < len → ∃ x v, HasTy e x ∧ R (zA W) [] W x v ∧ v.cells.size = e.cells ∧ (∀ u ∈ v.cells.toList, okV u = true) ∧ ∀ j v', v.cells.toList[j]? = some v' → W.cell? ((a.add (i * e.cells)).add j) = some v' := by
          intro i hi
          obtain ⟨cs', y', h1, h2, h3⟩ := hel i hi
          obtain ⟨x, v, k1, k2, k3, k4, k5, _⟩ := read e fuel u cs' y' hue h2 fun n hn => hz n (h3 n hn)
          obtain ⟨_, g2⟩ := cells?_at h1
          refine ⟨x, v, k1, k3, ?_, by rw [k2]; exact k4, fun j v' hv' => ?_⟩
          · rw [← Array.length_toList, k2, k5]
          · rw [k2] at hv'
            rw [← hcell]
            exact g2 j v' hv'
        have hbl : 0 < len → a.spot = none ∧ a.block < W.heap.size := by
          intro hl
          obtain ⟨x, v, _, _, k3, _, k4⟩ := key 0 hl
          have hlt : 0 < v.cells.toList.length := by rw [Array.length_toList]; omega
          have hv : v.cells.toList[0]? = some (v.cells.toList[0]'hlt) := List.getElem?_eq_getElem hlt
          have hc := k4 0 _ hv
          have e0 : (a.add (0 * e.cells)).add 0 = a := by rw [Nat.zero_mul]; rfl
          rw [e0] at hc
          exact spot_of_cell hc
        obtain ⟨xs, hxl, hxs⟩ : ∃ xs : List AV, xs.length = len ∧ ∀ i x, xs[i]? = some x → ∃ v, HasTy e x ∧ R (zA W) [] W x v ∧ v.cells.size = e.cells ∧ (∀ u ∈ v.cells.toList, okV u = true) ∧ ∀ j v', v.cells.toList[j]? = some v' → W.cell? ((a.add (i * e.cells)).add j) = some v' := by
          refine ⟨(List.range len).map fun i => if hi : i < len then (key i hi).choose else undefA, by simp, fun i x hx => ?_⟩
          simp only [List.getElem?_map, Option.map_eq_some_iff] at hx
          obtain ⟨k, hk, rfl⟩ := hx
          obtain ⟨hk1, hk2⟩ := List.getElem?_eq_some_iff.1 hk
          simp only [List.length_range] at hk1
          simp only [List.getElem_range] at hk2
          subst hk2
          rw [dif_pos hk1]
          obtain ⟨v, hv⟩ := (key i hk1).choose_spec
          exact ⟨v, hv⟩
        have hlr : len ≤ reachBytes := by
          obtain ⟨n, hn1, hn2⟩ := List.mem_map.1 hw
          have hn3 := hz n hn1
          have hn4 : len * 1 ≤ len * P.bytesOf u := Nat.mul_le_mul_left _ hbyte
          omega
        refine ⟨.sl e.cells xs, .slice (some a) len cap, ⟨xs, rfl, by omega, fun y hy => ?_⟩, rfl, ?_, by simp [okV], rfl, rfl⟩
        · obtain ⟨i, hi⟩ := List.getElem?_of_mem hy
          obtain ⟨_, h1, _⟩ := hxs i y hi
          exact h1
        · refine ⟨some a, cap, by rw [hxl], by omega, ?_⟩
          by_cases h0 : xs = []
          · exact .inl h0
          · have hl : 0 < len := by
              rcases Nat.eq_zero_or_pos len with h | h
              · exact absurd (List.eq_nil_of_length_eq_zero (by omega)) h0
              · exact h
            obtain ⟨hs, hb⟩ := hbl hl
            refine .inr ⟨a, rfl, hs, hb, RSl.of_get fun i x hx => ?_⟩
            obtain ⟨v, _, k2, k3, k4, k5⟩ := hxs i x hx
            refine ⟨v, k2, k3, fun j v' hv' => ⟨?_, k4 v' (List.mem_of_getElem? hv')⟩⟩
            have := k5 j v' hv'
            rw [Addr_add a hs, Addr_add _ rfl] at this
            exact this
    · cases hok
  | .st fs, fuel + 1, t, cs, y, hok, h, hz => by
    unfold tyOk at hok
    split at hok
    · rename_i fds hu
      simp only [Bool.and_eq_true, beq_iff_eq] at hok
      obtain ⟨hcell, hfs⟩ := hok
      obtain ⟨hl, zs, hm, hw⟩ := trod_st hu h
      obtain ⟨ys, h1, h2, h3⟩ := readL fs fuel fds.toList 0 cs zs hfs hm (by rw [← hw]; exact hz) (by rw [hl, hcell]; omega)
      rw [List.drop_zero] at h2 h3
      have ht : cs.take (Ty.cellsL fs) = cs := List.take_of_length_le (by omega)
      rw [ht] at h2 h3
      exact ⟨.agg ys, .agg cs.toArray, ⟨ys, rfl, h1⟩, by simp [Value.cells], ⟨cs.toArray, rfl, by simpa using h2⟩, h3, by rw [hl, hcell]; rfl, rfl⟩
    · cases hok
theorem readL : ∀ (fs : List Ty) (fuel : Nat) (fds : List Field) (off : Nat) (cs : List Value) (zs : List (DataW H × List MemPlace)), tyOkL P fds off fs = true → (fds.mapM fun f => DataW.trod enc P W 0 spare held fuel f.type ((cs.drop f.offset).take (P.cellsOf f.type))) = some zs →
    (∀ n ∈ DataW.weightsEach P (fds.map (·.type)) (zs.map (·.1)), n ≤ reachBytes) → off + Ty.cellsL fs ≤ cs.length →
    ∃ ys, HasTyL fs ys ∧ RL (zA W) [] W ys ((cs.drop off).take (Ty.cellsL fs)) ∧ ∀ u ∈ (cs.drop off).take (Ty.cellsL fs), okV u = true
  | [], _, fds, off, cs, _, _, _, _, _ => ⟨[], rfl, by simp [Ty.cellsL]; rfl, by simp [Ty.cellsL]⟩
  | ty :: fs, fuel, [], off, cs, _, hok, _, _, _ => by cases hok
  | ty :: fs, fuel, f :: fds, off, cs, zs, hok, hf, hz, hl => by
    simp only [tyOkL, Bool.and_eq_true, beq_iff_eq] at hok
    obtain ⟨⟨⟨h1, h2⟩, h3⟩, h4⟩ := hok
    simp only [Ty.cellsL] at hl
    rw [List.mapM_cons] at hf
    cases hy : DataW.trod enc P W 0 spare held fuel f.type ((cs.drop f.offset).take (P.cellsOf f.type)) with
    | none => rw [hy] at hf; cases hf
    | some y =>
    cases hr : fds.mapM fun f => DataW.trod enc P W 0 spare held fuel f.type ((cs.drop f.offset).take (P.cellsOf f.type)) with
    | none => rw [hy, hr] at hf; cases hf
    | some zs' =>
    rw [hy, hr] at hf
    cases hf
    rw [h1, h2] at hy
    have hz' : ∀ n, n ∈ y.1.weights P f.type ∨ n ∈ DataW.weightsEach P (fds.map (·.type)) (zs'.map (·.1)) → n ≤ reachBytes := fun n hn => hz n (by simp only [List.map_cons, DataW.weightsEach, List.mem_append]; exact hn)
    obtain ⟨x, v, k1, k2, k3, k4, k5, _⟩ := read ty fuel f.type _ y h3 hy fun n hn => hz' n (.inl hn)
    obtain ⟨ys, g1, g2, g3⟩ := readL fs fuel fds (off + ty.cells) cs zs' h4 hr (fun n hn => hz' n (.inr hn)) (by omega)
    have e : (cs.drop off).take (ty.cells + Ty.cellsL fs) = (cs.drop off).take ty.cells ++ (cs.drop (off + ty.cells)).take (Ty.cellsL fs) := by
      rw [List.take_add, List.drop_drop]
    refine ⟨cellsA x ++ ys, ⟨x, ys, k1, g1, rfl⟩, ?_, ?_⟩
    · simp only [Ty.cellsL]
      rw [e, ← k2]
      exact (R_cells k3).append g2
    · simp only [Ty.cellsL]
      rw [e]
      intro u hu
      rcases List.mem_append.1 hu with hu | hu
      · exact k4 u hu
      · exact g3 u hu
end
end
end Go.Abs
end
section
/- From a function's contract to its row. -/
namespace Go.Abs
open Go.RowKit Go.WideShapes Go.ChangeShapes

def HasTys : List Ty → List AV → Prop
  | [], xs => xs = []
  | t :: ts, xs => ∃ x zs, HasTy t x ∧ HasTys ts zs ∧ xs = x :: zs

def tysOk (P : Program) : List TypeId → List Ty → Bool
  | [], [] => true
  | t :: ts, ty :: tys => tyOk P t ty && P.readableRec t && decide (t < P.types.size) && tysOk P ts tys
  | _, _ => false

section
variable {P : Program} {W : World} {H : Type} {enc : TypeId × Value → H}

theorem value_of {r : Reach} {base : Nat} {ty : Ty} {t : TypeId} {v v' : Value} (hok : tyOk P t ty = true) (h : Value.okWide P W r base t v) (hc : AsCells ty v' v.cells.toList) : v = v' := by
  unfold tyOk at hok
  split at hok <;> split at hok <;> try (cases hok; done)
  · rename_i hu
    obtain ⟨b, rfl⟩ := okWide_bool hu h
    simpa [AsCells, Value.cells] using hc
  · rename_i hu
    obtain ⟨b, rfl⟩ := okWide_int hu h
    simpa [AsCells, Value.cells] using hc
  · rename_i hu
    obtain ⟨b, rfl⟩ := okWide_string hu h
    simpa [AsCells, Value.cells] using hc
  · rename_i hu
    obtain ⟨a, b, c, rfl⟩ := okWide_slice hu h
    simpa [AsCells, Value.cells] using hc
  · rename_i hu
    obtain ⟨cs, rfl, _⟩ := okWide_struct hu h
    simp only [AsCells, Value.cells] at hc
    rw [hc]

theorem reads {r : Reach} {base : Nat} : ∀ {ts : List TypeId} {tys : List Ty} {vs : List Value} {ds : List (DataW H)} {p : List MemPlace}, tysOk P ts tys = true → DataW.TrodAll enc P W 0 (fun _ => true) true ts vs ds p →
    (∀ (j : Nat) t v, ts[j]? = some t → vs[j]? = some v → Value.okWide P W r base t v) → (∀ n ∈ DataW.weightsEach P ts ds, n ≤ reachBytes) → ∃ xs, HasTys tys xs ∧ RL (zA W) [] W xs vs
  | [], [], [], [], _, _, _, _, _ => ⟨[], rfl, rfl⟩
  | t :: ts, ty :: tys, vs, ds, p, hok, h, hv, hz => by
    obtain ⟨v, vs', d, ds', p1, p2, rfl, rfl, rfl, ⟨fuel, hf⟩, hr⟩ := trodAll_cons h
    simp only [tysOk, Bool.and_eq_true] at hok
    have hz' : ∀ n, n ∈ d.weights P t ∨ n ∈ DataW.weightsEach P ts ds' → n ≤ reachBytes := fun n hn => hz n (by simp only [DataW.weightsEach, List.mem_append]; exact hn)
    obtain ⟨x, v', k1, k2, k3, k4, k5, k6⟩ := read ty fuel t _ _ hok.1.1.1 hf fun n hn => hz' n (.inl hn)
    obtain rfl := value_of hok.1.1.1 (hv 0 t v rfl rfl) k6
    obtain ⟨xs, g1, g2⟩ := reads (tys := tys) hok.2 hr (fun j t' v' h1 h2 => hv (j + 1) t' v' h1 h2) (fun n hn => hz' n (.inr hn))
    exact ⟨x :: xs, ⟨x, xs, k1, g1, rfl⟩, v, vs', rfl, k3, g2⟩

theorem keeps (hl : laidOutB P = true) {W' : World} (hb : Below W.heap.size W W') : ∀ {ts : List TypeId} {tys : List Ty} {vs : List Value} {ds : List (DataW H)} {p : List MemPlace}, tysOk P ts tys = true → DataW.TrodAll enc P W 0 (fun _ => true) true ts vs ds p →
    DataW.TrodAll enc P W' 0 (fun b => decide (b < W.heap.size)) true ts vs ds p
  | [], [], [], [], _, _, h => h
  | t :: ts, ty :: tys, vs, ds, p, hok, h => by
    obtain ⟨v, vs', d, ds', p1, p2, rfl, rfl, rfl, hf, hr⟩ := trodAll_cons h
    simp only [tysOk, Bool.and_eq_true, decide_eq_true_eq] at hok
    refine trodAll_cons_mk ?_ (keeps hl hb hok.2 hr)
    refine Below.trod hl hok.1.1.2 hok.1.2 hf hb ?_
    obtain ⟨m, hm⟩ := hf
    exact DataW.trod_lt m _ _ _ hm

theorem Ext.below {z z' : Cz} {σ' : AH} {W' : World} (h : Ext z [] W z' σ' W') : Below W.heap.size W W' :=
  ⟨h.os, h.tape, h.output, h.size, fun k hk => h.frame k hk fun id hid => by simp at hid⟩

/-- The walk of a law: whatever its arguments, true; and what was there stays. -/
theorem law_walk {f : FuncId} {fn : Func} {tys : List Ty} (hokf : callOk P f = true) (law : ∀ xs, HasTys tys xs → ∃ σ', AFun P f xs [] (.ret (.bool true)) σ') {r : Reach} {base : Nat} {args : Array Value} {ds : List (DataW H)} {p : List MemPlace}
    (hok : tysOk P fn.params.toList tys = true) (h : DataW.TrodAll enc P W 0 (fun _ => true) true fn.params.toList args.toList ds p)
    (hv : ∀ (j : Nat) t v, fn.params[j]? = some t → args[j]? = some v → Value.okWide P W r base t v) (hz : (DataW.weightsEach P fn.params.toList ds).all (· ≤ reachBytes) = true) :
    Calls P f args W fun e W' => e = .returned (.bool true) ∧ Below W.heap.size W W' := by
  obtain ⟨xs, h1, h2⟩ := reads hok h (fun j t v ht hv' => hv j t v (by simpa using ht) (by simpa using hv')) (fun n hn => by simpa using List.all_eq_true.1 hz n hn)
  obtain ⟨σ', hl⟩ := law xs h1
  refine (hl.calls hokf (zA W) W args (invA W) h2).mono fun e W' ⟨z', hx, _, v, he, hr⟩ => ?_
  cases hr
  exact ⟨he, hx.below⟩
end

/-- A row of the template 'true, and the arguments read as they did', out of its function's contract. -/
theorem lifted {C : Checked} {f : FuncId} {fn : Func} {tys : List Ty} {s : ChangeSpec} {conds : List PathCond}
    (law : ∀ xs, HasTys tys xs → ∃ σ', AFun C.prog f xs [] (.ret (.bool true)) σ') (hokf : callOk C.prog f = true)
    (own : ownKnob C.prog.godebug = none) (noInit : C.prog.inits.idxOf? f = none) (hfn : C.prog.funcs[f]? = some fn)
    (hok : tysOk C.prog fn.params.toList tys = true) (laid : laidOutB C.prog = true)
    (hs : s.vars = []) (hfnS : ∀ (H : Type) (ds : List (DataW H)), ds.length = fn.params.size → s.fn H ds = { results := [.lit (.bool true)], args := ds })
    (hres : ∃ rt, fn.resultTypes = #[rt] ∧ C.prog.underlying rt = some .bool)
    {os : Os} (started : os.Started) {H : Type} {enc : TypeId × Value → H}
    (witness : ∃ (w : World) (tape : Tape) (i : Input), w.os = os ∧ (w.forCall tape i).Shaped C.prog ∧ i.vars = [] ∧ Input.okWide C.prog (w.forCall tape i) .any w.heap.size f i ∧
      s.pre6 enc C.prog fn conds false (w.forCall tape i).memory i.args ∧ ({} : Assume).holds C.prog (lone (Frame.enter C.prog f i.args .normal) [] (w.forCall tape i))) :
    ReturnsInHanded {} C os f .any (s.pre6 enc C.prog fn conds false) (s.post enc C.prog fn false true false false) := by
  refine returnsInHanded_of_change_sized own started noInit hfn witness ?_
  intro W base args ds gs before hval hW hcnd hsz _
  have hW' := hW
  obtain ⟨p, q, hA, hV, rfl, hfz, hnd⟩ := hW
  rw [hs] at hV
  obtain ⟨rfl, rfl⟩ := trodVars_none hV
  have hvt : s.plain.varTypes C.prog = [] := by
    have : s.plain.vars = [] := hs
    simp [DataSpec.varTypes, this]
  rw [hvt, List.append_nil, List.append_nil] at hsz
  obtain ⟨rt, hrt, hub⟩ := hres
  refine (law_walk hokf law hok hA hval hsz).mono fun e W' ⟨he, bel⟩ => ?_
  subst he
  have hlen : ds.length = fn.params.size := by
    have : ∀ {ts : List TypeId} {vs : List Value} {ds : List (DataW H)} {p : List MemPlace}, DataW.TrodAll enc C.prog W 0 (fun _ => true) true ts vs ds p → ds.length = ts.length := by
      intro ts
      induction ts with
      | nil => intro vs ds p h; obtain ⟨_, rfl, _⟩ := trodAll_nil h; rfl
      | cons t ts ih =>
        intro vs ds p h
        obtain ⟨v, vs', d, ds', p1, p2, rfl, rfl, rfl, hf, hr⟩ := trodAll_cons h
        simp [ih hr]
    simpa using this hA
  have hds : s.fn H (ds ++ []) = { results := [.lit (.bool true)], args := ds } := by rw [List.append_nil]; exact hfnS H ds hlen
  refine ⟨_, rfl, ds, [], p ++ [], [], p, [], hW', ?_, ?_, ?_, bel.frame _, fun h => by cases h⟩
  · rw [hds, hrt]
    exact trodAll_mk1 (shut_bool hub _)
  · rw [hds]
    exact keeps laid bel hok hA
  · rw [hds, hs]
    rfl
end Go.Abs
end
section
/- Needs: lists of nodes and trees, without Go. -/
namespace Go.Abs.Pl

abbrev Nd := Int × Int
def partsM (op : Int) : Nat := if op = 3 then 1 else if op = 4 ∨ op = 5 then 2 else 0
def mayM (p : Nd) : Bool := if p.1 = 2 then decide (0 ≤ p.2) && decide (p.2 < 16) else (decide (1 ≤ p.1) && decide (p.1 ≤ 5)) && decide (p.2 = 0)
inductive Tr where
  | leaf (n : Nd)
  | turned (t : Tr)
  | pair (or : Bool) (a b : Tr)
  deriving Inhabited
def flat : Tr → List Nd
  | .leaf n => [n]
  | .turned t => flat t ++ [(3, 0)]
  | .pair o a b => flat a ++ flat b ++ [(if o = true then 5 else 4, 0)]
def wf : Tr → Prop
  | .leaf n => mayM n = true ∧ partsM n.1 = 0
  | .turned t => wf t
  | .pair _ a b => wf a ∧ wf b
def deepM : Tr → Nat
  | .leaf _ => 1
  | .turned t => deepM t + 1
  | .pair _ a b => max (deepM a) (deepM b) + 1
def sizeM : Tr → Nat
  | .leaf _ => 1
  | .turned t => sizeM t + 1
  | .pair _ a b => sizeM a + sizeM b + 1
theorem flat_length : ∀ t, (flat t).length = sizeM t
  | .leaf _ => rfl
  | .turned t => by simp [flat, sizeM, flat_length t]
  | .pair _ a b => by simp [flat, sizeM, flat_length a, flat_length b]; omega
theorem size_pos (t : Tr) : 0 < sizeM t := by cases t <;> simp [sizeM]
theorem deep_le : ∀ t, deepM t ≤ sizeM t
  | .leaf _ => Nat.le_refl _
  | .turned t => by simp [deepM, sizeM, deep_le t]
  | .pair _ a b => by
    have := deep_le a
    have := deep_le b
    simp only [deepM, sizeM]
    omega
theorem deep_pos (t : Tr) : 0 < deepM t := by cases t <;> simp [deepM]

def nodeM (s : List Tr) (p : Nd) (k : Nat) : Tr :=
  if p.1 = 3 then .turned (s.getD k default) else if p.1 = 4 ∨ p.1 = 5 then .pair (decide (p.1 = 5)) (s.getD k default) (s.getD (k + 1) default) else .leaf p
def pushM (s : List Tr) (p : Nd) : Option (List Tr) :=
  if mayM p = true ∧ partsM p.1 ≤ s.length then some (s.take (s.length - partsM p.1) ++ [nodeM s p (s.length - partsM p.1)]) else none
def runM : List Tr → List Nd → Option (List Tr)
  | s, [] => some s
  | s, p :: l => (pushM s p).bind fun s' => runM s' l
def oneM : List Tr → Option Tr
  | [t] => some t
  | _ => none
def madeM (l : List Nd) : Option Tr := (runM [] l).bind oneM

theorem run_append (s : List Tr) (l r : List Nd) : runM s (l ++ r) = (runM s l).bind fun s' => runM s' r := by
  induction l generalizing s with
  | nil => rfl
  | cons p l ih =>
    simp only [List.cons_append, runM]
    cases pushM s p with
    | none => rfl
    | some s' => simp only [Option.bind_some]; exact ih s'
theorem run_flat : ∀ (t : Tr) (s : List Tr), wf t → runM s (flat t) = some (s ++ [t])
  | .leaf n, s, ⟨h1, h2⟩ => by
    have h3 : ¬ n.1 = 3 := fun h => by rw [h] at h2; cases h2
    have h4 : ¬ (n.1 = 4 ∨ n.1 = 5) := fun h => by simp [partsM, h3, h] at h2
    simp [flat, runM, pushM, h1, h2, nodeM, h3, h4]
  | .turned t, s, h => by
    rw [flat, run_append, run_flat t s h]
    simp [runM, pushM, mayM, partsM, nodeM]
  | .pair o a b, s, ⟨h1, h2⟩ => by
    rw [flat, run_append, run_append, run_flat a s h1, Option.bind_some, run_flat b _ h2, Option.bind_some]
    cases o <;> simp [runM, pushM, mayM, partsM, nodeM, List.take_append]
theorem may_bounds {p : Nd} (h : mayM p = true) : 1 ≤ p.1 ∧ p.1 ≤ 5 ∧ (p.1 ≠ 2 → p.2 = 0) ∧ 0 ≤ p.2 ∧ p.2 < 16 := by
  unfold mayM at h
  split at h <;> simp at h <;> omega
theorem run_sound : ∀ (l : List Nd) (s s' : List Tr), runM s l = some s' → (∀ t ∈ s, wf t) → (∀ t ∈ s', wf t) ∧ s'.flatMap flat = s.flatMap flat ++ l
  | [], s, s', h, hw => by
    cases h
    exact ⟨hw, by simp⟩
  | p :: l, s, s', h, hw => by
    simp only [runM] at h
    cases hs : pushM s p with
    | none => rw [hs] at h; cases h
    | some s₁ =>
      rw [hs, Option.bind_some] at h
      unfold pushM at hs
      split at hs
      · rename_i hc
        obtain ⟨hm, hp⟩ := hc
        obtain ⟨b1, b2, b3, _⟩ := may_bounds hm
        have key : (∀ t ∈ s₁, wf t) ∧ s₁.flatMap flat = s.flatMap flat ++ [p] := by
          cases hs
          by_cases h3 : p.1 = 3
          · have e : p = (3, 0) := Prod.ext h3 (b3 (by omega))
            subst e
            simp only [partsM, if_true] at hp ⊢
            obtain ⟨s0, x, rfl⟩ : ∃ s0 x, s = s0 ++ [x] := ⟨s.dropLast, s.getLast (by intro h; simp [h] at hp), (List.dropLast_concat_getLast _).symm⟩
            simp only [List.length_append, List.length_singleton, Nat.add_sub_cancel, List.take_left, nodeM, if_true]
            simp only [List.getD_eq_getElem?_getD, List.getElem?_concat_length, Option.getD_some]
            refine ⟨?_, by simp [flat]⟩
            intro t ht
            rcases List.mem_append.1 ht with ht | ht
            · exact hw t (List.mem_append_left _ ht)
            · simp at ht
              subst ht
              exact hw x (by simp)
          · by_cases h45 : p.1 = 4 ∨ p.1 = 5
            · have e : p = (if p.1 = 5 then 5 else 4, 0) := Prod.ext (by split <;> omega) (b3 (by omega))
              have hp2 : partsM p.1 = 2 := by simp [partsM, h3, h45]
              rw [hp2] at hp ⊢
              obtain ⟨s0, x, y, rfl⟩ : ∃ s0 x y, s = s0 ++ [x, y] := by
                have hne : s ≠ [] := by intro h; simp [h] at hp
                have e1 := (List.dropLast_concat_getLast hne).symm
                have hne2 : s.dropLast ≠ [] := by
                  intro h
                  have := congrArg List.length h
                  simp at this
                  omega
                have e2 := (List.dropLast_concat_getLast hne2).symm
                refine ⟨s.dropLast.dropLast, s.dropLast.getLast hne2, s.getLast hne, ?_⟩
                rw [show s.dropLast.dropLast ++ [s.dropLast.getLast hne2, s.getLast hne] = (s.dropLast.dropLast ++ [s.dropLast.getLast hne2]) ++ [s.getLast hne] by simp]
                rw [← e2, ← e1]
              have hl : (s0 ++ [x, y]).length - 2 = s0.length := by simp
              rw [hl]
              simp only [List.take_left, nodeM, h3, if_false, h45, if_true]
              have g1 : (s0 ++ [x, y]).getD s0.length default = x := by simp
              have g2 : (s0 ++ [x, y]).getD (s0.length + 1) default = y := by simp [List.getD_eq_getElem?_getD, List.getElem?_append_right]
              rw [g1, g2]
              refine ⟨?_, ?_⟩
              · intro t ht
                rcases List.mem_append.1 ht with ht | ht
                · exact hw t (List.mem_append_left _ ht)
                · simp at ht
                  subst ht
                  exact ⟨hw x (by simp), hw y (by simp)⟩
              · rw [List.flatMap_append, List.flatMap_append]
                simp only [List.flatMap_cons, List.flatMap_nil, List.append_nil, flat, decide_eq_true_eq]
                rw [← e]
                simp
            · have hp0 : partsM p.1 = 0 := by simp [partsM, h3, h45]
              rw [hp0]
              simp only [Nat.sub_zero, List.take_length, nodeM, h3, if_false, h45]
              refine ⟨?_, by simp [flat]⟩
              intro t ht
              rcases List.mem_append.1 ht with ht | ht
              · exact hw t ht
              · simp at ht
                subst ht
                exact ⟨hm, hp0⟩
        obtain ⟨k1, k2⟩ := key
        obtain ⟨g1, g2⟩ := run_sound l s₁ s' h k1
        exact ⟨g1, by rw [g2, k2]; simp⟩
      · cases hs
theorem made_iff (l : List Nd) (t : Tr) : madeM l = some t ↔ wf t ∧ flat t = l := by
  constructor
  · intro h
    unfold madeM at h
    cases hr : runM [] l with
    | none => rw [hr] at h; cases h
    | some s =>
      rw [hr, Option.bind_some] at h
      obtain ⟨h1, h2⟩ := run_sound l [] s hr (by simp)
      match s, h with
      | [t'], h =>
        cases h
        exact ⟨h1 t (by simp), by simpa using h2⟩
  · rintro ⟨h1, rfl⟩
    unfold madeM
    rw [run_flat t [] h1]
    rfl

/-! #### the other way: from the right -/
/-- What is left when `n` trees are taken from the right (the list is turned round). -/
def begR : List Nd → Nat → Option (List Nd)
  | [], _ => none
  | p :: r, n => if n - 1 + partsM p.1 = 0 then some r else begR r (n - 1 + partsM p.1)
theorem beg_flat : ∀ (t : Tr) (r : List Nd) (n : Nat), wf t → begR ((flat t).reverse ++ r) (n + 1) = if n = 0 then some r else begR r n
  | .leaf p, r, n, ⟨_, h⟩ => by
    simp only [flat, List.reverse_cons, List.reverse_nil, List.nil_append, List.cons_append, begR, h, Nat.add_sub_cancel, Nat.add_zero]
  | .turned t, r, n, h => by
    simp only [flat, List.reverse_append, List.reverse_cons, List.reverse_nil, List.nil_append, List.cons_append]
    rw [begR]
    simp only [partsM, if_true, Nat.add_sub_cancel]
    rw [if_neg (by omega)]
    exact beg_flat t r n h
  | .pair o a b, r, n, ⟨h1, h2⟩ => by
    have hp : partsM (if o = true then 5 else 4) = 2 := by cases o <;> rfl
    simp only [flat, List.reverse_append, List.reverse_cons, List.reverse_nil, List.nil_append, List.cons_append]
    rw [begR]
    simp only [hp, Nat.add_sub_cancel]
    rw [if_neg (by omega), List.append_assoc, beg_flat b _ (n + 1) h2, if_neg (by omega)]
    exact beg_flat a r n h1
theorem beg_sound : ∀ (r r' : List Nd) (n : Nat), 0 < n → (∀ p ∈ r, mayM p = true) → begR r n = some r' → ∃ ts : List Tr, ts.length = n ∧ (∀ t ∈ ts, wf t) ∧ r = (ts.flatMap flat).reverse ++ r'
  | [], _, _, _, _, h => by cases h
  | p :: r, r', n, hn, hm, h => by
    have hp := hm p (by simp)
    obtain ⟨b1, b2, b3, _⟩ := may_bounds hp
    have hm' : ∀ p ∈ r, mayM p = true := fun q hq => hm q (by simp [hq])
    rw [begR] at h
    by_cases h3 : p.1 = 3
    · have e : p = (3, 0) := Prod.ext h3 (b3 (by omega))
      subst e
      simp only [partsM, if_true] at h
      rw [if_neg (by omega), show n - 1 + 1 = n by omega] at h
      obtain ⟨ts, k1, k2, k3⟩ := beg_sound r r' n hn hm' h
      obtain ⟨s0, x, rfl⟩ : ∃ s0 x, ts = s0 ++ [x] := ⟨ts.dropLast, ts.getLast (by intro h; simp [h] at k1; omega), (List.dropLast_concat_getLast _).symm⟩
      refine ⟨s0 ++ [.turned x], by simpa using k1, ?_, ?_⟩
      · intro t ht
        rcases List.mem_append.1 ht with ht | ht
        · exact k2 t (List.mem_append_left _ ht)
        · simp at ht
          subst ht
          exact k2 x (by simp)
      · rw [k3]
        simp [flat]
    · by_cases h45 : p.1 = 4 ∨ p.1 = 5
      · have e : p = (if p.1 = 5 then 5 else 4, 0) := Prod.ext (by split <;> omega) (b3 (by omega))
        have hp2 : partsM p.1 = 2 := by simp [partsM, h3, h45]
        rw [hp2] at h
        rw [if_neg (by omega), show n - 1 + 2 = n + 1 by omega] at h
        obtain ⟨ts, k1, k2, k3⟩ := beg_sound r r' (n + 1) (by omega) hm' h
        obtain ⟨s0, x, y, rfl⟩ : ∃ s0 x y, ts = s0 ++ [x, y] := by
          have hne : ts ≠ [] := by intro h; simp [h] at k1
          have e1 := (List.dropLast_concat_getLast hne).symm
          have hne2 : ts.dropLast ≠ [] := by
            intro h
            have := congrArg List.length h
            simp at this
            omega
          have e2 := (List.dropLast_concat_getLast hne2).symm
          refine ⟨ts.dropLast.dropLast, ts.dropLast.getLast hne2, ts.getLast hne, ?_⟩
          rw [show ts.dropLast.dropLast ++ [ts.dropLast.getLast hne2, ts.getLast hne] = (ts.dropLast.dropLast ++ [ts.dropLast.getLast hne2]) ++ [ts.getLast hne] by simp]
          rw [← e2, ← e1]
        refine ⟨s0 ++ [.pair (decide (p.1 = 5)) x y], by simp at k1 ⊢; omega, ?_, ?_⟩
        · intro t ht
          rcases List.mem_append.1 ht with ht | ht
          · exact k2 t (List.mem_append_left _ ht)
          · simp at ht
            subst ht
            exact ⟨k2 x (by simp), k2 y (by simp)⟩
        · rw [k3]
          simp only [List.flatMap_append, List.flatMap_cons, List.flatMap_nil, List.append_nil, flat, decide_eq_true_eq]
          rw [← e]
          simp
      · have hp0 : partsM p.1 = 0 := by simp [partsM, h3, h45]
        rw [hp0, Nat.add_zero] at h
        by_cases h0 : n - 1 = 0
        · rw [if_pos h0] at h
          cases h
          refine ⟨[.leaf p], by simp; omega, ?_, by simp [flat]⟩
          intro t ht
          simp at ht
          subst ht
          exact ⟨hp, hp0⟩
        · rw [if_neg h0] at h
          obtain ⟨ts, k1, k2, k3⟩ := beg_sound r r' (n - 1) (by omega) hm' h
          refine ⟨ts ++ [.leaf p], by simp; omega, ?_, by rw [k3]; simp [flat]⟩
          intro t ht
          rcases List.mem_append.1 ht with ht | ht
          · exact k2 t ht
          · simp at ht
            subst ht
            exact ⟨hp, hp0⟩
theorem flat_may : ∀ (t : Tr), wf t → ∀ p ∈ flat t, mayM p = true
  | .leaf n, h, p, hp => by simp [flat] at hp; subst hp; exact h.1
  | .turned t, h, p, hp => by
    simp only [flat, List.mem_append, List.mem_singleton] at hp
    rcases hp with hp | rfl
    · exact flat_may t h p hp
    · rfl
  | .pair o a b, h, p, hp => by
    simp only [flat, List.mem_append, List.mem_singleton] at hp
    rcases hp with (hp | hp) | rfl
    · exact flat_may a h.1 p hp
    · exact flat_may b h.2 p hp
    · cases o <;> rfl
/-- No tree, told from the right. -/
theorem made_none_iff (l : List Nd) : (∃ t, madeM l = some t) ↔ (∀ p ∈ l, mayM p = true) ∧ l ≠ [] ∧ begR l.reverse 1 = some [] := by
  constructor
  · rintro ⟨t, h⟩
    obtain ⟨h1, rfl⟩ := (made_iff l t).1 h
    refine ⟨flat_may t h1, ?_, ?_⟩
    · intro he
      have := flat_length t
      have := size_pos t
      rw [he] at *
      simp at *
      omega
    · have := beg_flat t [] 0 h1
      simpa using this
  · rintro ⟨h1, h2, h3⟩
    obtain ⟨ts, k1, k2, k3⟩ := beg_sound l.reverse [] 1 (by omega) (by simpa using h1) h3
    match ts, k1 with
    | [t], _ =>
      refine ⟨t, (made_iff l t).2 ⟨k2 t (by simp), ?_⟩⟩
      have := congrArg List.reverse k3
      simpa using this.symm
/-- Where the tree begins that ends ahead of a place; -1: nowhere. -/
def begM (l : List Nd) (m : Nat) : Int := match begR (l.take m).reverse 1 with
  | some r => r.length
  | none => -1
theorem begM_flat (t : Tr) (pre post : List Nd) (h : wf t) : begM (pre ++ flat t ++ post) (pre.length + sizeM t) = pre.length := by
  unfold begM
  have e : (pre ++ flat t ++ post).take (pre.length + sizeM t) = pre ++ flat t := by
    rw [List.take_append_of_le_length (by simp [flat_length]), List.take_of_length_le (by simp [flat_length])]
  rw [e, List.reverse_append]
  have := beg_flat t pre.reverse 0 h
  simp only [Nat.zero_add, if_true] at this
  rw [this]
  simp
theorem beg_len (r r' : List Nd) (n : Nat) (h : begR r n = some r') : r'.length < r.length := by
  induction r generalizing n with
  | nil => cases h
  | cons p r ih =>
    rw [begR] at h
    split at h
    · cases h; simp
    · have := ih _ h; simp; omega
theorem begM_zero (l : List Nd) : begM l l.length = 0 ↔ begR l.reverse 1 = some [] := by
  unfold begM
  rw [List.take_length]
  cases h : begR l.reverse 1 with
  | none => simp
  | some r => cases r <;> simp; omega
def checkM (l : List Nd) : Nat := if 31 < l.length then 4 else match madeM l with
  | none => 1
  | some t => if 8 < deepM t then 4 else 0
end Go.Abs.Pl
end
