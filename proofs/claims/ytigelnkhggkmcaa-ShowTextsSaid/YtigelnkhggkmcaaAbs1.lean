/- Lemmas that the claim leans on. -/
import Derived.Calls
import Derived.Orders
import Derived.WalkKit
import Derived.Laws.BytesString
set_option linter.all false
section
/- Abstract values, their reading in a world, the invariant of the rows that are held, and what stays. -/
namespace Go.Abs

/-- Abstract values. `sl`: a slice of memory that is never written again, as a list; `own`: a slice of a row that is held; `ptr`: a pointer into a row that is held; `elem`: a pointer to memory that is never written again. -/
inductive AV where
  | bool (b : Bool)
  | int (k : IntKind) (n : Int)
  | str (s : ByteArray)
  | nilsl
  | zsl
  | sl (sz : Nat) (xs : List AV)
  | own (id sz hw off len : Nat)
  | nilptr
  | ptr (id hw i off : Nat)
  | elem (cs : List AV)
  | agg (cs : List AV)
  | tuple (vs : List AV)
  | nilIface
  | iface (t : TypeId) (v : AV)
  | nilFunc
  | func (fn : Fn) (first captured : List AV)
  deriving Inhabited

/-- What is known of a row's block: nothing; its type; it may not be written any more. -/
inductive Kd where
  | free
  | of (t : TypeId)
  | sealed
  | iter (s : ByteArray) (pos : Nat)
def Kd.open : Kd → Bool
  | .sealed | .iter _ _ => false
  | _ => true
def Kd.isOf (e : TypeId) : Kd → Bool
  | .of t => t == e
  | _ => false
theorem Kd.of_isOf {e : TypeId} : ∀ {k : Kd}, k.isOf e = true → k = .of e
  | .of t, h => by rw [beq_iff_eq.1 h]
def Kd.ok (T : TypeId) (fr : Nat × Nat) : Kd → Prop
  | .free => fr = (0, 0)
  | .of t => t = T ∧ fr = (0, 0)
  | .sealed => True
  | .iter _ _ => True
theorem Kd.ok_open {k : Kd} {T : TypeId} {fr : Nat × Nat} (h : k.open = true) (hk : k.ok T fr) : fr = (0, 0) := by
  cases k with
  | free => exact hk
  | of t => exact hk.2
  | sealed => cases h
  | iter s pos => cases h

/-- What the row's block is. -/
def Kd.At (ob : Option Obj) (n : Nat) : Kd → Prop
  | .iter s pos => ob = some (.stringIter s pos)
  | k => ∃ c T fr, ob = some (.cells c T fr) ∧ c.size = n ∧ k.ok T fr
theorem Kd.at_open {k : Kd} {ob : Option Obj} {n : Nat} (h : k.open = true) (ha : k.At ob n) : ∃ c T fr, ob = some (.cells c T fr) ∧ c.size = n ∧ k.ok T fr := by
  cases k with
  | free => exact ha
  | of t => exact ha
  | sealed => exact ha
  | iter s pos => cases h
theorem Kd.at_cells {k : Kd} {c : Array Value} {T : TypeId} {n : Nat} (h : k.ok T (0, 0)) (hn : c.size = n) (hk : k.open = true) : k.At (some (.cells c T (0, 0))) n := by
  cases k with
  | free => exact ⟨c, T, _, rfl, hn, h⟩
  | of t => exact ⟨c, T, _, rfl, hn, h⟩
  | sealed => exact ⟨c, T, _, rfl, hn, h⟩
  | iter s pos => cases hk
theorem Kd.at_some {k : Kd} {ob : Option Obj} {n : Nat} (ha : k.At ob n) : ∃ x, ob = some x := by
  cases k with
  | free => exact ⟨_, ha.choose_spec.choose_spec.choose_spec.1⟩
  | of t => exact ⟨_, ha.choose_spec.choose_spec.choose_spec.1⟩
  | sealed => exact ⟨_, ha.choose_spec.choose_spec.choose_spec.1⟩
  | iter s pos => exact ⟨_, ha⟩

/-- A row that is held: the cells of an element, the most elements that it ever had, its elements. -/
structure ARow where
  sz : Nat
  hw : Nat
  xs : List AV
  kd : Kd
/-- A slice's row. -/
abbrev arow (e : TypeId) (sz hw : Nat) (xs : List AV) : ARow := ⟨sz, hw, xs, .of e⟩
/-- A variable. -/
abbrev avar (t : TypeId) (n : Nat) (x : AV) : ARow := ⟨n, 1, [x], .of t⟩

abbrev AH := List ARow

/-- Where the rows lie: the blocks that are never written again; the block and the capacity of each row (0: no block). -/
structure Cz where
  N : Nat → Prop
  φ : Nat → Nat
  κ : Nat → Nat

/-- What one cell may hold. -/
def okV : Value → Bool
  | .agg _ | .tuple _ => false
  | _ => true
def Cell (w : World) (b o : Nat) (v : Value) : Prop := w.cell? ⟨b, o, none⟩ = some v ∧ okV v = true
def CellsAt (w : World) (b o : Nat) (vs : List Value) : Prop := ∀ j v, vs[j]? = some v → Cell w b (o + j) v

mutual
def R (z : Cz) (σ : AH) (w : World) : AV → Value → Prop
  | .bool b, v => v = .bool b
  | .int k n, v => v = .int k n
  | .str s, v => v = .string s
  | .nilsl, v => v = .slice none 0 0
  | .zsl, v => ∃ a, v = .slice a 0 0
  | .sl sz xs, v => ∃ a c, v = .slice a xs.length c ∧ xs.length ≤ c ∧ (xs = [] ∨ ∃ ad : Addr, a = some ad ∧ ad.spot = none ∧ z.N ad.block ∧ RSl z σ w ad.block sz ad.off xs)
  | .own id sz hw off len, v => ∃ o, σ[id]? = some o ∧ o.sz = sz ∧ hw ≤ o.hw ∧ ∃ a c, v = .slice a len c ∧ len ≤ c ∧
      (hw = o.hw → off + c = z.κ id) ∧ (c = 0 ∨ ∃ ad : Addr, a = some ad ∧ (hw = o.hw → ad = ⟨z.φ id, off * sz, none⟩))
  | .nilptr, v => v = .pointer none
  | .ptr id hw i off, v => ∃ o, σ[id]? = some o ∧ hw ≤ o.hw ∧ ∃ a, v = .pointer (some a) ∧ (hw = o.hw → a = ⟨z.φ id, i * o.sz + off, none⟩)
  | .elem cs, v => ∃ ad : Addr, v = .pointer (some ad) ∧ ad.spot = none ∧ z.N ad.block ∧ RCells z σ w ad.block ad.off cs
  | .agg cs, v => ∃ vs, v = .agg vs ∧ RL z σ w cs vs.toList
  | .tuple cs, v => ∃ vs, v = .tuple vs ∧ RL z σ w cs vs.toList
  | .nilIface, v => v = .nilIface
  | .iface t x, v => ∃ u, v = .iface t u ∧ R z σ w x u
  | .nilFunc, v => v = .nilFunc
  | .func fn first cap, v => ∃ fs cs, v = .func fn fs cs ∧ RL z σ w first fs.toList ∧ RL z σ w cap cs.toList
def RL (z : Cz) (σ : AH) (w : World) : List AV → List Value → Prop
  | [], vs => vs = []
  | x :: xs, vs => ∃ u us, vs = u :: us ∧ R z σ w x u ∧ RL z σ w xs us
def RSl (z : Cz) (σ : AH) (w : World) (b sz : Nat) : Nat → List AV → Prop
  | _, [] => True
  | o, x :: xs => (∃ v, R z σ w x v ∧ v.cells.size = sz ∧ CellsAt w b o v.cells.toList) ∧ RSl z σ w b sz (o + sz) xs
def RCells (z : Cz) (σ : AH) (w : World) (b : Nat) : Nat → List AV → Prop
  | _, [] => True
  | o, x :: xs => (∃ v, R z σ w x v ∧ Cell w b o v) ∧ RCells z σ w b (o + 1) xs
end

/-- The rows that are held stand in the world. -/
structure Inv (z : Cz) (σ : AH) (w : World) : Prop where
  row : ∀ id o, σ[id]? = some o → o.xs.length ≤ o.hw ∧ o.hw ≤ z.κ id ∧
    (z.κ id ≠ 0 → o.kd.At w.heap[z.φ id]? (z.κ id * o.sz)) ∧ RSl z σ w (z.φ id) o.sz 0 o.xs
  inj : ∀ i j, i < σ.length → j < σ.length → z.κ i ≠ 0 → z.κ j ≠ 0 → z.φ i = z.φ j → i = j
  apart : ∀ i, i < σ.length → z.κ i ≠ 0 → ¬ z.N (z.φ i)
  old : ∀ b, z.N b → b < w.heap.size

/-- What stays from one state to a later one. -/
structure Ext (z : Cz) (σ : AH) (w : World) (z' : Cz) (σ' : AH) (w' : World) : Prop where
  N : ∀ b, z.N b → z'.N b
  keep : ∀ b, z.N b → w'.heap[b]? = w.heap[b]?
  row : ∀ id o, σ[id]? = some o → ∃ o', σ'[id]? = some o' ∧ o'.sz = o.sz ∧ o.hw ≤ o'.hw ∧ (o'.hw = o.hw → z'.φ id = z.φ id ∧ z'.κ id = z.κ id)
  size : w.heap.size ≤ w'.heap.size
  frame : ∀ b, b < w.heap.size → (∀ id, id < σ.length → z.κ id ≠ 0 → z.φ id ≠ b) → w'.heap[b]? = w.heap[b]?
  news : ∀ id, id < σ'.length → z'.κ id ≠ 0 → (id < σ.length ∧ z.κ id ≠ 0 ∧ z'.φ id = z.φ id) ∨ w.heap.size ≤ z'.φ id
  newN : ∀ b, z'.N b → z.N b ∨ w.heap.size ≤ b ∨ ∃ id, id < σ.length ∧ z.κ id ≠ 0 ∧ z.φ id = b
  os : w'.os = w.os
  tape : w'.tape = w.tape
  output : w'.output = w.output

theorem Ext.refl (z : Cz) (σ : AH) (w : World) : Ext z σ w z σ w where
  N := fun _ h => h
  keep := fun _ _ => rfl
  row := fun _ o h => ⟨o, h, rfl, Nat.le_refl _, fun _ => ⟨rfl, rfl⟩⟩
  size := Nat.le_refl _
  frame := fun _ _ _ => rfl
  news := fun id hid hk => .inl ⟨hid, hk, rfl⟩
  newN := fun _ h => .inl h
  os := rfl
  tape := rfl
  output := rfl

theorem Ext.len {z : Cz} {σ : AH} {w : World} {z' : Cz} {σ' : AH} {w' : World} (h : Ext z σ w z' σ' w') : σ.length ≤ σ'.length := by
  rcases Nat.eq_zero_or_pos σ.length with h0 | h0
  · omega
  · obtain ⟨o', ho', _⟩ := h.row (σ.length - 1) σ[σ.length - 1] (List.getElem?_eq_getElem (by omega))
    have := (List.getElem?_eq_some_iff.1 ho').1
    omega

theorem Ext.trans {z z₁ z₂ : Cz} {σ σ₁ σ₂ : AH} {w w₁ w₂ : World} (h : Ext z σ w z₁ σ₁ w₁) (k : Ext z₁ σ₁ w₁ z₂ σ₂ w₂) : Ext z σ w z₂ σ₂ w₂ where
  N := fun b hb => k.N b (h.N b hb)
  keep := fun b hb => (k.keep b (h.N b hb)).trans (h.keep b hb)
  row := fun id o ho => by
    obtain ⟨o₁, ho₁, e1, l1, r1⟩ := h.row id o ho
    obtain ⟨o₂, ho₂, e2, l2, r2⟩ := k.row id o₁ ho₁
    refine ⟨o₂, ho₂, e2.trans e1, Nat.le_trans l1 l2, fun e => ?_⟩
    have e₁ : o₁.hw = o.hw := by omega
    have e₂ : o₂.hw = o₁.hw := by omega
    exact ⟨(r2 e₂).1.trans (r1 e₁).1, (r2 e₂).2.trans (r1 e₁).2⟩
  size := Nat.le_trans h.size k.size
  frame := fun b hb hno => by
    refine (k.frame b (Nat.lt_of_lt_of_le hb h.size) fun id hid hk he => ?_).trans (h.frame b hb hno)
    rcases h.news id hid hk with ⟨h1, h2, h3⟩ | h1
    · exact hno id h1 h2 (h3.symm.trans he)
    · omega
  news := fun id hid hk => by
    rcases k.news id hid hk with ⟨h1, h2, h3⟩ | h1
    · rcases h.news id h1 h2 with ⟨g1, g2, g3⟩ | g1
      · exact .inl ⟨g1, g2, h3.trans g3⟩
      · exact .inr (h3 ▸ g1)
    · exact .inr (Nat.le_trans h.size h1)
  newN := fun b hb => by
    rcases k.newN b hb with h1 | h1 | ⟨id, h1, h2, h3⟩
    · exact h.newN b h1
    · exact .inr (.inl (Nat.le_trans h.size h1))
    · rcases h.news id h1 h2 with ⟨g1, g2, g3⟩ | g1
      · exact .inr (.inr ⟨id, g1, g2, g3.symm.trans h3⟩)
      · exact .inr (.inl (h3 ▸ g1))
  os := k.os.trans h.os
  tape := k.tape.trans h.tape
  output := k.output.trans h.output

theorem cell?_congr {w w' : World} {b : Nat} (h : w'.heap[b]? = w.heap[b]?) (o : Nat) (s : Option Nat) : w'.cell? ⟨b, o, s⟩ = w.cell? ⟨b, o, s⟩ := by
  simp only [World.cell?, h]

theorem CellsAt.congr {w w' : World} {b o : Nat} {vs : List Value} (h : w'.heap[b]? = w.heap[b]?) (k : CellsAt w b o vs) : CellsAt w' b o vs :=
  fun j v hv => ⟨(cell?_congr h _ _).trans (k j v hv).1, (k j v hv).2⟩

section
variable {z z' : Cz} {σ σ' : AH} {w w' : World}
mutual
theorem R.mono (E : Ext z σ w z' σ' w') : ∀ (x : AV) (v : Value), R z σ w x v → R z' σ' w' x v
  | .bool _, _, h => h
  | .int _ _, _, h => h
  | .str _, _, h => h
  | .nilsl, _, h => h
  | .zsl, _, h => h
  | .nilptr, _, h => h
  | .nilIface, _, h => h
  | .nilFunc, _, h => h
  | .sl _ xs, _, ⟨a, c, hv, hl, hc⟩ => ⟨a, c, hv, hl, by
      rcases hc with hc | ⟨ad, h1, h2, h3, h4⟩
      · exact .inl hc
      · exact .inr ⟨ad, h1, h2, E.N _ h3, RSl.mono E (E.keep _ h3) xs _ h4⟩⟩
  | .own id _ _ _ _, _, ⟨o, ho, hs, hle, a, c, hv, hl, h1, h2⟩ => by
      obtain ⟨o', ho', e1, l1, r1⟩ := E.row id o ho
      refine ⟨o', ho', e1.trans hs, Nat.le_trans hle l1, a, c, hv, hl, fun e => ?_, h2.imp (fun g => g) ?_⟩
      · obtain ⟨p1, p2⟩ := r1 (by omega)
        rw [p2]
        exact h1 (by omega)
      · rintro ⟨ad, g1, g2⟩
        refine ⟨ad, g1, fun e => ?_⟩
        obtain ⟨p1, p2⟩ := r1 (by omega)
        rw [p1]
        exact g2 (by omega)
  | .ptr id _ _ _, _, ⟨o, ho, hle, a, hv, hc⟩ => by
      obtain ⟨o', ho', e1, l1, r1⟩ := E.row id o ho
      refine ⟨o', ho', Nat.le_trans hle l1, a, hv, fun e => ?_⟩
      obtain ⟨p1, p2⟩ := r1 (by omega)
      rw [p1, e1]; exact hc (by omega)
  | .elem cs, _, ⟨ad, hv, h1, h2, h3⟩ => ⟨ad, hv, h1, E.N _ h2, RCells.mono E (E.keep _ h2) cs _ h3⟩
  | .agg cs, _, ⟨vs, hv, h⟩ => ⟨vs, hv, RL.mono E cs _ h⟩
  | .tuple cs, _, ⟨vs, hv, h⟩ => ⟨vs, hv, RL.mono E cs _ h⟩
  | .iface _ x, _, ⟨u, hv, h⟩ => ⟨u, hv, R.mono E x u h⟩
  | .func _ fs cs, _, ⟨a, b, hv, h1, h2⟩ => ⟨a, b, hv, RL.mono E fs _ h1, RL.mono E cs _ h2⟩
theorem RL.mono (E : Ext z σ w z' σ' w') : ∀ (xs : List AV) (vs : List Value), RL z σ w xs vs → RL z' σ' w' xs vs
  | [], _, h => h
  | x :: xs, _, ⟨u, us, hv, h1, h2⟩ => ⟨u, us, hv, R.mono E x u h1, RL.mono E xs us h2⟩
theorem RSl.mono (E : Ext z σ w z' σ' w') {b sz : Nat} (hb : w'.heap[b]? = w.heap[b]?) : ∀ (xs : List AV) (o : Nat), RSl z σ w b sz o xs → RSl z' σ' w' b sz o xs
  | [], _, _ => trivial
  | x :: xs, _, ⟨⟨v, h1, h2, h3⟩, h4⟩ => ⟨⟨v, R.mono E x v h1, h2, h3.congr hb⟩, RSl.mono E hb xs _ h4⟩
theorem RCells.mono (E : Ext z σ w z' σ' w') {b : Nat} (hb : w'.heap[b]? = w.heap[b]?) : ∀ (xs : List AV) (o : Nat), RCells z σ w b o xs → RCells z' σ' w' b o xs
  | [], _, _ => trivial
  | x :: xs, _, ⟨⟨v, h1, h2⟩, h3⟩ => ⟨⟨v, R.mono E x v h1, (cell?_congr hb _ _).trans h2.1, h2.2⟩, RCells.mono E hb xs _ h3⟩
end
end

/-! #### lists of values -/
theorem RL.length {z : Cz} {σ : AH} {w : World} : ∀ {xs : List AV} {vs : List Value}, RL z σ w xs vs → xs.length = vs.length
  | [], _, h => by rw [show _ = [] from h]; rfl
  | x :: xs, _, ⟨u, us, hv, _, h⟩ => by rw [hv, List.length_cons, List.length_cons, RL.length h]

theorem RL.get {z : Cz} {σ : AH} {w : World} : ∀ {xs : List AV} {vs : List Value}, RL z σ w xs vs → ∀ (i : Nat) (x : AV), xs[i]? = some x → ∃ v, vs[i]? = some v ∧ R z σ w x v
  | [], _, _, i, x, hx => by simp at hx
  | y :: ys, _, ⟨u, us, hv, h1, h2⟩, 0, x, hx => by
    simp at hx
    exact ⟨u, by simp [hv], hx ▸ h1⟩
  | y :: ys, _, ⟨u, us, hv, h1, h2⟩, i + 1, x, hx => by
    obtain ⟨v, h3, h4⟩ := RL.get h2 i x (by simpa using hx)
    exact ⟨v, by simpa [hv] using h3, h4⟩

theorem RL.set {z : Cz} {σ : AH} {w : World} : ∀ {xs : List AV} {vs : List Value}, RL z σ w xs vs → ∀ (i : Nat) {x : AV} {v : Value}, R z σ w x v → RL z σ w (xs.set i x) (vs.set i v)
  | [], _, h, i, x, v, _ => by rw [show _ = [] from h]; exact rfl
  | y :: ys, _, ⟨u, us, hv, _, h2⟩, 0, x, v, hx => ⟨v, us, by simp [hv], hx, h2⟩
  | y :: ys, _, ⟨u, us, hv, h1, h2⟩, i + 1, x, v, hx => ⟨u, us.set i v, by simp [hv], h1, RL.set h2 i hx⟩

theorem RL.append {z : Cz} {σ : AH} {w : World} : ∀ {xs ys : List AV} {vs us : List Value}, RL z σ w xs vs → RL z σ w ys us → RL z σ w (xs ++ ys) (vs ++ us)
  | [], _, _, _, h, k => by rw [show _ = [] from h]; exact k
  | x :: xs, _, _, _, ⟨u, us, hv, h1, h2⟩, k => ⟨u, us ++ _, by simp [hv], h1, RL.append h2 k⟩

theorem RL.of_get {z : Cz} {σ : AH} {w : World} : ∀ {xs : List AV} {vs : List Value}, xs.length = vs.length → (∀ (i : Nat) x v, xs[i]? = some x → vs[i]? = some v → R z σ w x v) → RL z σ w xs vs
  | [], vs, hl, _ => by cases vs with | nil => exact rfl | cons _ _ => simp at hl
  | x :: xs, vs, hl, h => by
    cases vs with
    | nil => simp at hl
    | cons v vs => exact ⟨v, vs, rfl, h 0 x v rfl rfl, RL.of_get (by simpa using hl) fun i x v h1 h2 => h (i + 1) x v (by simpa using h1) (by simpa using h2)⟩

theorem RL.replicate {z : Cz} {σ : AH} {w : World} {x : AV} {v : Value} (h : R z σ w x v) (n : Nat) : RL z σ w (List.replicate n x) (List.replicate n v) :=
  RL.of_get (by simp) fun i a b h1 h2 => by
    rw [List.getElem?_replicate] at h1 h2
    split at h1 <;> simp_all

theorem RL.drop {z : Cz} {σ : AH} {w : World} {xs : List AV} {vs : List Value} (h : RL z σ w xs vs) (n : Nat) : RL z σ w (xs.drop n) (vs.drop n) :=
  RL.of_get (by simp [h.length]) fun i a b h1 h2 => by
    rw [List.getElem?_drop] at h1 h2
    obtain ⟨v, h3, h4⟩ := h.get _ _ h1
    rw [h3] at h2
    cases h2
    exact h4

theorem RL.take {z : Cz} {σ : AH} {w : World} {xs : List AV} {vs : List Value} (h : RL z σ w xs vs) (n : Nat) : RL z σ w (xs.take n) (vs.take n) :=
  RL.of_get (by simp [h.length]) fun i a b h1 h2 => by
    rw [List.getElem?_take] at h1 h2
    split at h1
    · rename_i hlt
      rw [if_pos hlt] at h2
      obtain ⟨v, h3, h4⟩ := h.get _ _ h1
      rw [h3] at h2
      cases h2
      exact h4
    · simp at h1

theorem RSl.get {z : Cz} {σ : AH} {w : World} {b sz : Nat} : ∀ {xs : List AV} {o : Nat}, RSl z σ w b sz o xs → ∀ (i : Nat) (x : AV), xs[i]? = some x →
    ∃ v, R z σ w x v ∧ v.cells.size = sz ∧ CellsAt w b (o + i * sz) v.cells.toList
  | [], _, _, i, x, hx => by simp at hx
  | y :: ys, o, ⟨h1, _⟩, 0, x, hx => by
    simp at hx
    subst hx
    simpa using h1
  | y :: ys, o, ⟨_, h2⟩, i + 1, x, hx => by
    obtain ⟨v, h3, h4, h5⟩ := RSl.get h2 i x (by simpa using hx)
    exact ⟨v, h3, h4, by rw [show o + (i + 1) * sz = o + sz + i * sz by rw [Nat.add_mul]; omega]; exact h5⟩

theorem RSl.of_get {z : Cz} {σ : AH} {w : World} {b sz : Nat} : ∀ {xs : List AV} {o : Nat}, (∀ (i : Nat) (x : AV), xs[i]? = some x →
    ∃ v, R z σ w x v ∧ v.cells.size = sz ∧ CellsAt w b (o + i * sz) v.cells.toList) → RSl z σ w b sz o xs
  | [], _, _ => trivial
  | y :: ys, o, h => ⟨by simpa using h 0 y rfl, RSl.of_get fun i x hx => by
    obtain ⟨v, h3, h4, h5⟩ := h (i + 1) x (by simpa using hx)
    exact ⟨v, h3, h4, by rw [show o + sz + i * sz = o + (i + 1) * sz by rw [Nat.add_mul]; omega]; exact h5⟩⟩

theorem RCells.get {z : Cz} {σ : AH} {w : World} {b : Nat} : ∀ {xs : List AV} {o : Nat}, RCells z σ w b o xs → ∀ (i : Nat) (x : AV), xs[i]? = some x →
    ∃ v, R z σ w x v ∧ Cell w b (o + i) v
  | [], _, _, i, x, hx => by simp at hx
  | y :: ys, o, ⟨h1, _⟩, 0, x, hx => by
    simp at hx
    subst hx
    simpa using h1
  | y :: ys, o, ⟨_, h2⟩, i + 1, x, hx => by
    obtain ⟨v, h3, h4⟩ := RCells.get h2 i x (by simpa using hx)
    exact ⟨v, h3, by rw [show o + (i + 1) = o + 1 + i by omega]; exact h4⟩

theorem RCells.of_get {z : Cz} {σ : AH} {w : World} {b : Nat} : ∀ {xs : List AV} {o : Nat}, (∀ (i : Nat) (x : AV), xs[i]? = some x →
    ∃ v, R z σ w x v ∧ Cell w b (o + i) v) → RCells z σ w b o xs
  | [], _, _ => trivial
  | y :: ys, o, h => ⟨by simpa using h 0 y rfl, RCells.of_get fun i x hx => by
    obtain ⟨v, h3, h4⟩ := h (i + 1) x (by simpa using hx)
    exact ⟨v, h3, by rw [show o + 1 + i = o + (i + 1) by omega]; exact h4⟩⟩

end Go.Abs
end
section
/- Operations that only reckon: what they give on abstract values. -/
namespace Go.Abs

def undefA : AV := .tuple []

/-- A constant's abstract value (a flat one). -/
def absS : Value → Option AV
  | .bool b => some (.bool b)
  | .int k n => some (.int k n)
  | .string s => some (.str s)
  | .slice none 0 0 => some .nilsl
  | .pointer none => some .nilptr
  | .nilIface => some .nilIface
  | .nilFunc => some .nilFunc
  | _ => none
def absL : List Value → Option (List AV)
  | [] => some []
  | v :: vs => match absS v, absL vs with
    | some x, some xs => some (x :: xs)
    | _, _ => none
def absV : Value → Option AV
  | .agg cs => (absL cs.toList).map .agg
  | v => absS v

section
variable {z : Cz} {σ : AH} {w : World}
theorem absS_R {v : Value} {x : AV} (h : absS v = some x) : R z σ w x v := by
  unfold absS at h
  split at h <;> first | (cases h; done) | (cases h; exact rfl)
theorem absL_R : ∀ {vs : List Value} {xs : List AV}, absL vs = some xs → RL z σ w xs vs
  | [], _, h => by cases h; exact rfl
  | v :: vs, _, h => by
    unfold absL at h
    split at h
    · rename_i x xs hx hxs
      cases h
      exact ⟨v, vs, rfl, absS_R hx, absL_R hxs⟩
    · cases h
theorem absV_R {v : Value} {x : AV} (h : absV v = some x) : R z σ w x v := by
  unfold absV at h
  split at h
  · rename_i cs
    cases hl : absL cs.toList with
    | none => simp [hl] at h
    | some xs =>
      rw [hl] at h
      cases h
      exact ⟨cs, rfl, absL_R hl⟩
  · exact absS_R h
end

/-- An operand's abstract value in a frame. -/
def ev (fr : List AV) : Operand → Option AV
  | .tmp t => some (fr.getD t undefA)
  | .const v => absV v
  | .global _ => none
  | .func f => some (.func (.func f) [] [])

theorem R_undef {z : Cz} {σ : AH} {w : World} : R z σ w undefA undef := ⟨#[], rfl, rfl⟩

theorem ev_R {z : Cz} {σ : AH} {w : World} {fr : List AV} {a : Act} (h : RL z σ w fr a.tmps.toList) (x : Operand) (v : AV) (hx : ev fr x = some v) : R z σ w v (a.eval x) := by
  cases x with
  | tmp t =>
    simp only [ev, Option.some.injEq] at hx
    subst hx
    have hl := h.length
    simp only [Act.eval]
    by_cases ht : t < fr.length
    · obtain ⟨v, hv, hr⟩ := h.get t fr[t] (List.getElem?_eq_getElem ht)
      have e1 : fr.getD t undefA = fr[t] := by simp [List.getD, List.getElem?_eq_getElem ht]
      have e2 : a.tmps.getD t undef = v := by
        have : a.tmps[t]? = some v := by simpa using hv
        simp [this]
      rw [e1, e2]; exact hr
    · have e1 : fr.getD t undefA = undefA := by simp [List.getD, List.getElem?_eq_none (Nat.le_of_not_lt ht)]
      have e2 : a.tmps.getD t undef = undef := by
        have : a.tmps[t]? = none := Array.getElem?_eq_none (by have hl2 : fr.length = a.tmps.size := hl; rw [← hl2]; exact Nat.le_of_not_lt ht)
        simp [this]
      rw [e1, e2]; exact R_undef
  | const c => exact absV_R hx
  | global g => cases hx
  | func f =>
    simp only [ev, Option.some.injEq] at hx
    subst hx
    exact ⟨#[], #[], rfl, rfl, rfl⟩

/-! #### reckoning -/
def evInt (op : BinOp) (k : IntKind) (a b : Int) : Option AV :=
  match op with
  | .add => some (.int k (k.wrap (a + b)))
  | .sub => some (.int k (k.wrap (a - b)))
  | .mul => some (.int k (k.wrap (a * b)))
  | .quo => if b = 0 then none else some (.int k (k.wrap (a.tdiv b)))
  | .rem => if b = 0 then none else some (.int k (a.tmod b))
  | .and => some (.int k (k.wrap (BitVec.ofInt k.bits a &&& BitVec.ofInt k.bits b).toNat))
  | .or => some (.int k (k.wrap (BitVec.ofInt k.bits a ||| BitVec.ofInt k.bits b).toNat))
  | .xor => some (.int k (k.wrap (BitVec.ofInt k.bits a ^^^ BitVec.ofInt k.bits b).toNat))
  | .andNot => some (.int k (k.wrap (BitVec.ofInt k.bits a &&& ~~~ BitVec.ofInt k.bits b).toNat))
  | .eql => some (.bool (a == b))
  | .neq => some (.bool (a != b))
  | .lss => some (.bool (a < b))
  | .leq => some (.bool (a ≤ b))
  | .gtr => some (.bool (a > b))
  | .geq => some (.bool (a ≥ b))
  | _ => none
def evShift (op : BinOp) (k : IntKind) (a b : Int) : Option AV :=
  if b < 0 then none else
  match op with
  | .shl => some (.int k (k.wrap (a * 2 ^ min b.toNat k.bits)))
  | .shr => some (.int k (a.fdiv (2 ^ min b.toNat k.bits)))
  | _ => none
def evStr (op : BinOp) (x y : ByteArray) : Option AV :=
  match op with
  | .add => if x.size + y.size ≤ 9223372036854775807 then some (.str (x ++ y)) else none
  | .eql => some (.bool (x.toList == y.toList))
  | .neq => some (.bool !(x.toList == y.toList))
  | .lss => some (.bool (Op.bytesLess x.toList y.toList))
  | .leq => some (.bool (Op.bytesLess x.toList y.toList || x.toList == y.toList))
  | .gtr => some (.bool !(Op.bytesLess x.toList y.toList || x.toList == y.toList))
  | .geq => some (.bool !(Op.bytesLess x.toList y.toList))
  | _ => none

theorem bin_int {P : Program} {op : BinOp} {t : TypeId} {k : IntKind} {a b : Int} {out : AV} (hop : op ≠ .shl ∧ op ≠ .shr) (h : evInt op k a b = some out) (z : Cz) (σ : AH) (w : World) :
    ∃ v, (binOp op t (.int k a) (.int k b)).run P w = .ok v w ∧ R z σ w out v := by
  obtain ⟨h1, h2⟩ := hop
  cases op <;> simp only [evInt] at h
  case shl => exact absurd rfl h1
  case shr => exact absurd rfl h2
  case quo =>
    split at h
    · cases h
    · rename_i h0
      cases h
      exact ⟨_, by simp only [binOp, ne_eq, not_true_eq_false, if_false, Op.intDiv, if_neg h0]; rfl, rfl⟩
  case rem =>
    split at h
    · cases h
    · rename_i h0
      cases h
      exact ⟨_, by simp only [binOp, ne_eq, not_true_eq_false, if_false, Op.intDiv, if_neg h0]; rfl, rfl⟩
  all_goals first
    | (cases h; exact ⟨_, by simp only [binOp, ne_eq, not_true_eq_false, if_false]; rfl, rfl⟩)
    | cases h

theorem bin_shift {P : Program} {op : BinOp} {t : TypeId} {k k' : IntKind} {a b : Int} {out : AV} (hop : op = .shl ∨ op = .shr) (h : evShift op k a b = some out) (z : Cz) (σ : AH) (w : World) :
    ∃ v, (binOp op t (.int k a) (.int k' b)).run P w = .ok v w ∧ R z σ w out v := by
  unfold evShift at h
  split at h
  · cases h
  · rename_i h0
    rcases hop with rfl | rfl <;> (cases h; exact ⟨_, by simp only [binOp, Op.shift, if_neg h0]; rfl, rfl⟩)

theorem bin_str {P : Program} {op : BinOp} {t : TypeId} {x y : ByteArray} {out : AV} (h : evStr op x y = some out) (z : Cz) (σ : AH) (w : World) :
    ∃ v, (binOp op t (.string x) (.string y)).run P w = .ok v w ∧ R z σ w out v := by
  cases op <;> simp only [evStr] at h
  case add =>
    split at h
    · rename_i h0
      cases h
      exact ⟨_, by simp only [binOp, Op.stringOp]; rw [if_neg (by show ¬ (_ : Int) > 9223372036854775807; omega)]; rfl, rfl⟩
    · cases h
  all_goals first
    | (cases h; exact ⟨_, by simp only [binOp, Op.stringOp]; rfl, rfl⟩)
    | cases h

/-! #### the type table -/
def szT (P : Program) (t : TypeId) : Option Nat := (P.info? t).map (·.size)
def aggT (P : Program) (t : TypeId) : Option Bool := (P.underlying t).map fun d => match d with | .struct _ | .array _ _ => true | _ => false

theorem szT_run {P : Program} {t : TypeId} {n : Nat} (h : szT P t = some n) (w : World) : (sizeOf t).run P w = .ok n w := by
  unfold szT at h
  cases hi : P.info? t with
  | none => simp [hi] at h
  | some i =>
    simp [hi] at h
    simp [sizeOf, typeInfo, hi, h, go_sem]
theorem under_run {P : Program} {t : TypeId} {d : TypeDesc} (h : P.underlying t = some d) (w : World) : (underlying t).run P w = .ok d w := by
  simp [underlying, h, go_sem]
theorem aggT_run {P : Program} {t : TypeId} {b : Bool} (h : aggT P t = some b) (w : World) : (isAgg t).run P w = .ok b w := by
  unfold aggT at h
  cases hd : P.underlying t with
  | none => simp [hd] at h
  | some d =>
    simp [hd] at h
    simp only [isAgg]
    rw [Sem.run_bind, under_run hd]
    subst h
    cases d <;> rfl

end Go.Abs
end
section
/- Operations that only reckon, as one function; and that the model does the same. -/
namespace Go.Abs

def cellsA : AV → List AV
  | .agg cs => cs
  | x => [x]

theorem R_cells {z : Cz} {σ : AH} {w : World} {x : AV} {v : Value} (h : R z σ w x v) : RL z σ w (cellsA x) v.cells.toList := by
  cases x
  case agg cs =>
    obtain ⟨vs, rfl, hl⟩ := h
    exact hl
  case bool b => obtain rfl := h; exact ⟨_, [], rfl, rfl, rfl⟩
  case int k n => obtain rfl := h; exact ⟨_, [], rfl, rfl, rfl⟩
  case str s => obtain rfl := h; exact ⟨_, [], rfl, rfl, rfl⟩
  case nilsl => obtain rfl := h; exact ⟨_, [], rfl, rfl, rfl⟩
  case nilptr => obtain rfl := h; exact ⟨_, [], rfl, rfl, rfl⟩
  case nilIface => obtain rfl := h; exact ⟨_, [], rfl, rfl, rfl⟩
  case nilFunc => obtain rfl := h; exact ⟨_, [], rfl, rfl, rfl⟩
  case zsl => have h' := h; obtain ⟨a, rfl⟩ := h; exact ⟨_, [], rfl, h', rfl⟩
  case sl sz xs => have h' := h; obtain ⟨a, c, rfl, _⟩ := h; exact ⟨_, [], rfl, h', rfl⟩
  case own => have h' := h; obtain ⟨_, _, _, _, a, c, rfl, _⟩ := h; exact ⟨_, [], rfl, h', rfl⟩
  case ptr => have h' := h; obtain ⟨_, _, _, a, rfl, _⟩ := h; exact ⟨_, [], rfl, h', rfl⟩
  case elem => have h' := h; obtain ⟨_, rfl, _⟩ := h; exact ⟨_, [], rfl, h', rfl⟩
  case tuple => have h' := h; obtain ⟨_, rfl, _⟩ := h; exact ⟨_, [], rfl, h', rfl⟩
  case iface => have h' := h; obtain ⟨_, rfl, _⟩ := h; exact ⟨_, [], rfl, h', rfl⟩
  case func => have h' := h; obtain ⟨_, _, rfl, _⟩ := h; exact ⟨_, [], rfl, h', rfl⟩

/-- No agg: its value is one cell. -/
def flatA : AV → Bool
  | .agg _ => false
  | _ => true

theorem cells_one {z : Cz} {σ : AH} {w : World} {x : AV} {v : Value} (h : R z σ w x v) (hf : flatA x = true) : v.cells = #[v] := by
  cases x
  case agg cs => cases hf
  case bool b => obtain rfl := h; rfl
  case int k n => obtain rfl := h; rfl
  case str s => obtain rfl := h; rfl
  case nilsl => obtain rfl := h; rfl
  case nilptr => obtain rfl := h; rfl
  case nilIface => obtain rfl := h; rfl
  case nilFunc => obtain rfl := h; rfl
  case zsl => obtain ⟨a, rfl⟩ := h; rfl
  case sl sz xs => obtain ⟨a, c, rfl, _⟩ := h; rfl
  case own => obtain ⟨_, _, _, _, a, c, rfl, _⟩ := h; rfl
  case ptr => obtain ⟨_, _, _, a, rfl, _⟩ := h; rfl
  case elem => obtain ⟨_, rfl, _⟩ := h; rfl
  case tuple => obtain ⟨_, rfl, _⟩ := h; rfl
  case iface => obtain ⟨_, rfl, _⟩ := h; rfl
  case func => obtain ⟨_, _, rfl, _⟩ := h; rfl

theorem CellsAt.rcells {z : Cz} {σ : AH} {w : World} {b o : Nat} {xs : List AV} {vs : List Value} (hc : CellsAt w b o vs) (h : RL z σ w xs vs) : RCells z σ w b o xs :=
  RCells.of_get fun i x hx => by
    obtain ⟨v, hv, hr⟩ := h.get i x hx
    exact ⟨v, hr, hc i v hv⟩

/-! #### the functions -/
def isCst : Operand → Bool
  | .const _ => true
  | _ => false

def evBin (P : Program) (op : BinOp) (t : TypeId) (cst : Bool) : AV → AV → Option AV
  | .int k a, .int k' b => match op with
    | .shl | .shr => evShift op k a b
    | _ => if k = k' then evInt op k a b else none
  | .str a, .str b => evStr op a b
  | .bool a, .bool b => match op, P.underlying t with
    | .eql, some .bool => some (.bool (a == b))
    | .neq, some .bool => some (.bool (a != b))
    | _, _ => none
  | .nilIface, .nilIface => match cst, op, P.underlying t with
    | true, .eql, some (.interface _) => some (.bool true)
    | true, .neq, some (.interface _) => some (.bool false)
    | _, _, _ => none
  | .nilIface, .iface _ _ | .iface _ _, .nilIface => match op, P.underlying t with
    | .eql, some (.interface _) => some (.bool false)
    | .neq, some (.interface _) => some (.bool true)
    | _, _ => none
  | .nilptr, .nilptr => match op, P.underlying t with
    | .eql, some (.pointer _) => some (.bool true)
    | .neq, some (.pointer _) => some (.bool false)
    | _, _ => none
  | .nilptr, .ptr _ _ _ _ | .ptr _ _ _ _, .nilptr | .nilptr, .elem _ | .elem _, .nilptr => match op, P.underlying t with
    | .eql, some (.pointer _) => some (.bool false)
    | .neq, some (.pointer _) => some (.bool true)
    | _, _ => none
  | _, _ => none

def evUn (op : UnOp) : AV → Option AV
  | .bool b => match op with
    | .not => some (.bool !b)
    | _ => none
  | .int k n => match op with
    | .neg => some (.int k (k.wrap (0 - n)))
    | .xor => evInt .xor k (if k.signed then -1 else k.max) n
    | _ => none
  | _ => none

def evConv (P : Program) (s d : TypeId) : AV → Option AV
  | .int _ n => match P.underlying s, P.underlying d with
    | some _, some (.int k) => some (.int k (k.wrap n))
    | some _, some .string => some (.str (Utf8.encode n))
    | _, _ => none
  | .str x => match P.underlying s, P.underlying d with
    | some _, some .string => some (.str x)
    | _, _ => none
  | _ => none

def evBnd (es : Operand → Option AV) (d : Nat) : Option Operand → Option Nat
  | none => some d
  | some x => match es x with
    | some (.int _ n) => if 0 ≤ n then some n.toNat else none
    | _ => none

def evSlice (P : Program) (es : Operand → Option AV) (t : TypeId) (x : AV) (lo hi mx : Option Operand) : Option AV :=
  match x, P.underlying t with
  | .str s, some .string => match mx, evBnd es 0 lo, evBnd es s.size hi with
    | none, some l, some h => if l ≤ h ∧ h ≤ s.size then some (.str (s.extract l h)) else none
    | _, _, _ => none
  | .nilsl, some (.slice e) => match szT P e, mx, evBnd es 0 lo, evBnd es 0 hi with
    | some _, none, some 0, some 0 => some .nilsl
    | some _, some m, some 0, some 0 => if evBnd es 0 (some m) = some 0 ∧ hi.isSome then some .nilsl else none
    | _, _, _, _ => none
  | .sl sz xs, some (.slice e) => if szT P e = some sz then match mx, evBnd es 0 lo, evBnd es xs.length hi with
      | none, some l, some h => if l ≤ h ∧ h ≤ xs.length then some (.sl sz ((xs.take h).drop l)) else none
      | some m, some 0, some 0 => if evBnd es 0 (some m) = some 0 ∧ hi.isSome then some .zsl else none
      | _, _, _ => none
    else none
  | .own id sz hw off len, some (.slice e) => if szT P e = some sz then match mx, evBnd es 0 lo, evBnd es len hi with
      | none, some l, some h => if l ≤ h ∧ h ≤ len then some (.own id sz hw (off + l) (h - l)) else none
      | some m, some 0, some 0 => if evBnd es 0 (some m) = some 0 ∧ hi.isSome then some .zsl else none
      | _, _, _ => none
    else none
  | _, _ => none

def fieldT (P : Program) (t : TypeId) (f : Nat) : Option Field :=
  match P.underlying t with
  | some (.struct fs) => fs[f]?
  | _ => none

def evFieldAddr (P : Program) (t : TypeId) (f : Nat) (x : AV) : Option AV :=
  match fieldT P t f with
  | some fd => match szT P fd.type with
    | some (_ + 1) => match x with
      | .ptr id hw i off => some (.ptr id hw i (off + fd.offset))
      | .elem cs => some (.elem (cs.drop fd.offset))
      | _ => none
    | _ => none
  | none => none

def evPart (P : Program) (t : TypeId) (cs : List AV) (off : Nat) : Option AV :=
  match aggT P t, szT P t with
  | some true, some n => some (.agg ((cs.drop off).take n))
  | some false, some _ => cs[off]?
  | _, _ => none

def evField (P : Program) (t : TypeId) (f : Nat) (x : AV) : Option AV :=
  match fieldT P t f, x with
  | some fd, .agg cs => evPart P fd.type cs fd.offset
  | _, _ => none

def evIndexAddr (P : Program) (t : TypeId) (x i : AV) : Option AV :=
  match i with
  | .int _ n => match P.underlying t, x with
    | some (.slice e), .sl sz xs => if szT P e = some sz ∧ 0 ≤ n ∧ n < xs.length then (xs[n.toNat]?).map fun y => .elem (cellsA y) else none
    | some (.slice e), .own id sz hw off len => if szT P e = some sz ∧ 0 ≤ n ∧ n < len then some (.ptr id hw (off + n.toNat) 0) else none
    | some (.array len e), .ptr id hw j off => match szT P e with
      | some sz => if 0 ≤ n ∧ n < len then some (.ptr id hw j (off + n.toNat * sz)) else none
      | none => none
    | some (.array len e), .elem cs => match szT P e with
      | some sz => if 0 ≤ n ∧ n < len then some (.elem (cs.drop (n.toNat * sz))) else none
      | none => none
    | _, _ => none
  | _ => none

def evIndex (P : Program) (t : TypeId) (x i : AV) : Option AV :=
  match i with
  | .int _ n => match P.underlying t, x with
    | some .string, .str s => if 0 ≤ n then (s[n.toNat]?).map fun b => .int .u8 b.toNat else none
    | some (.array len e), .agg cs => match szT P e with
      | some sz => if 0 ≤ n ∧ n < len then evPart P e cs (n.toNat * sz) else none
      | none => none
    | _, _ => none
  | _ => none

def evAssert (P : Program) (T : TypeId) (ok : Bool) (x : AV) : Option AV :=
  match P.underlying T with
  | none => none
  | some (.interface _) => none
  | some _ => match x with
    | .iface t v => if t = T then some (if ok then .tuple [v, .bool true] else v) else if ok then (match (P.info? T).bind (·.zero) with
        | some zv => (absV zv).map fun y => .tuple [y, .bool false]
        | none => none) else none
    | .nilIface => if ok then (match (P.info? T).bind (·.zero) with
        | some zv => (absV zv).map fun y => .tuple [y, .bool false]
        | none => none) else none
    | _ => none

def evL (es : Operand → Option AV) : List Operand → Option (List AV)
  | [] => some []
  | x :: xs => match es x, evL es xs with
    | some a, some as => some (a :: as)
    | _, _ => none

def setAll : List AV → Nat → List AV → List AV
  | cs, _, [] => cs
  | cs, off, v :: vs => setAll (cs.set off v) (off + 1) vs

def evFill (place : Nat → Option (Nat × Nat)) (es : Operand → Option AV) (cells : List AV) : List (Nat × Operand) → Option (List AV)
  | [] => some cells
  | (i, x) :: rest => match place i, es x with
    | some (off, size), some v => if (cellsA v).length = size ∧ off + size ≤ cells.length then evFill place es (setAll cells off (cellsA v)) rest else none
    | _, _ => none

def fieldsPlace (P : Program) : List Field → Option (List (Nat × Nat))
  | [] => some []
  | f :: fs => match szT P f.type, fieldsPlace P fs with
    | some n, some r => some ((f.offset, n) :: r)
    | _, _ => none

def zeroA (P : Program) (t : TypeId) : Option AV := ((P.info? t).bind (·.zero)).bind absV

def evBuild (P : Program) (es : Operand → Option AV) (t : TypeId) (parts : List (Nat × Operand)) : Option AV :=
  match zeroA P t, P.underlying t with
  | some zv, some (.struct fs) => match fieldsPlace P fs.toList with
    | some ps => (evFill (ps[·]?) es (cellsA zv) parts).map .agg
    | none => none
  | some zv, some (.array _ e) => match szT P e with
    | some n => (evFill (fun i => some (i * n, n)) es (cellsA zv) parts).map .agg
    | none => none
  | _, _ => none

def evLen (P : Program) (t : TypeId) : AV → Option AV
  | .str s => match P.underlying t with
    | some .string => some (.int .i64 s.size)
    | _ => none
  | .nilsl | .zsl => match P.underlying t with
    | some (.slice _) => some (.int .i64 0)
    | _ => none
  | .sl _ xs => match P.underlying t with
    | some (.slice _) => some (.int .i64 xs.length)
    | _ => none
  | .own _ _ _ _ len => match P.underlying t with
    | some (.slice _) => some (.int .i64 len)
    | _ => none
  | _ => none

def evMax2 : AV → AV → Option AV
  | .int k x, .int _ y => some (.int k (if y > x then y else x))
  | _, _ => none
def evMin2 : AV → AV → Option AV
  | .int k x, .int _ y => some (.int k (if y < x then y else x))
  | _, _ => none
def evFold (f : AV → AV → Option AV) : AV → List AV → Option AV
  | x, [] => some x
  | x, y :: ys => match f x y with
    | some u => evFold f u ys
    | none => none

/-- unsafe.SliceData. -/
def evSlDat : AV → Option AV
  | .nilsl => some .nilptr
  | .own id _ hw off len => if 0 < len then some (.ptr id hw off 0) else none
  | _ => none
def evBuiltin (P : Program) (b : Builtin) (argTypes : List TypeId) (args : List AV) : Option AV :=
  match b, args with
  | .len, [x] => match argTypes with
    | t :: _ => evLen P t x
    | _ => none
  | .max, x :: xs => evFold evMax2 x xs
  | .min, x :: xs => evFold evMin2 x xs
  | .unsafeSliceData, [x] => evSlDat x
  | _, _ => none

/-- What an operation gives that only reckons. -/
def evP (P : Program) (op : Op) (es : Operand → Option AV) : Option AV :=
  match op with
  | .move x | .assign x => es x
  | .pick c a b => match es c with
    | some (.bool true) => es a
    | some (.bool false) => es b
    | _ => none
  | .binOp op t x y _ => match es x, es y with
    | some a, some b => evBin P op t (isCst x || isCst y) a b
    | _, _ => none
  | .unOp op _ x => match es x with
    | some a => evUn op a
    | none => none
  | .convert s d x => match es x with
    | some a => evConv P s d a
    | none => none
  | .makeInterface t x => match es x, P.underlying t with
    | some a, some d => (match d with
      | .interface _ => none
      | _ => some (.iface t a))
    | _, _ => none
  | .makeFunc fn first cap => match evL es first.toList, evL es cap.toList with
    | some a, some b => some (.func fn a b)
    | _, _ => none
  | .extract x i => match es x with
    | some (.tuple vs) => vs[i]?
    | _ => none
  | .typeAssert x _ T ok => match es x with
    | some a => evAssert P T ok a
    | none => none
  | .nilCheck x => match es x with
    | some (.ptr a b c d) => some (.ptr a b c d)
    | some (.elem cs) => some (.elem cs)
    | some (.func (.func f) a b) => some (.func (.func f) a b)
    | _ => none
  | .slice t x lo hi mx => match es x with
    | some a => evSlice P es t a lo hi mx
    | none => none
  | .fieldAddr t x f => match es x with
    | some a => evFieldAddr P t f a
    | none => none
  | .field t x f => match es x with
    | some a => evField P t f a
    | none => none
  | .indexAddr t x i => match es x, es i with
    | some a, some b => evIndexAddr P t a b
    | _, _ => none
  | .index t x i => match es x, es i with
    | some a, some b => evIndex P t a b
    | _, _ => none
  | .build t parts => evBuild P es t parts.toList
  | .call c => match c.callee with
    | .builtin b => match evL es c.args.toList with
      | some as => evBuiltin P b c.argTypes.toList as
      | none => none
    | _ => none
  | _ => none

end Go.Abs
end
section
/- What only reckons: the model does as `evP` says. -/
namespace Go.Abs
section
variable {P : Program} {z : Cz} {σ : AH} {w : World} {es : Operand → Option AV} {ρ : Operand → Value}

theorem run_pure' {α : Type} (P : Program) (a : α) (w : World) : (pure a : Sem α).run P w = .ok a w := rfl
theorem run_bind_ok {α β : Type} {P : Program} {x : Sem α} {f : α → Sem β} {w w' : World} {a : α} (h : x.run P w = .ok a w') : (x >>= f).run P w = (f a).run P w' := by
  rw [Sem.run_bind, h]; rfl

theorem int_of {x : AV} {v : Value} {k : IntKind} {n : Int} (h : R z σ w x v) (e : x = .int k n) : v = .int k n := by subst e; exact h

theorem bnd_run {d n y : Nat} {x : Operand} {code : BoundsCode} (he : ∀ a, es x = some a → R z σ w a (ρ x)) (h : evBnd es d (some x) = some n) (hn : n ≤ y) :
    (Instr.sliceBound (ρ x) y code).run P w = .ok n w := by
  simp only [evBnd] at h
  split at h
  · rename_i k m hx
    split at h
    · rename_i h0
      cases h
      obtain hv := he _ hx
      have hv' : ρ x = .int k m := hv
      rw [hv']
      simp only [Instr.sliceBound, asIntOf]
      rw [run_bind_ok (run_pure' P _ w)]
      simp only []
      rw [if_pos ⟨h0, by omega⟩]
      rfl
    · cases h
  · cases h

/-- The three bounds: low (else 0), high (else the length), no max. -/
theorem bounds_run {isSlice : Bool} {len cap l h : Nat} {lo hi : Option Operand} (he : ∀ x, lo = some x ∨ hi = some x → ∀ a, es x = some a → R z σ w a (ρ x))
    (hl : evBnd es 0 lo = some l) (hh : evBnd es len hi = some h) (h1 : l ≤ h) (h2 : h ≤ len) (h3 : len ≤ cap) :
    (Instr.sliceBounds isSlice len cap (lo.map ρ) (hi.map ρ) none).run P w = .ok (l, h, cap) w := by
  simp only [Instr.sliceBounds]
  rw [run_bind_ok (run_pure' P _ w)]
  cases hi with
  | none =>
    simp only [evBnd, Option.some.injEq] at hh
    subst hh
    simp only [Option.map_none]
    rw [run_bind_ok (run_pure' P _ w)]
    cases lo with
    | none =>
      simp only [evBnd, Option.some.injEq] at hl
      subst hl
      rfl
    | some x => exact run_bind_ok (bnd_run (he x (.inl rfl)) hl h1)
  | some y =>
    simp only [Option.map_some]
    rw [run_bind_ok (bnd_run (he y (.inr rfl)) hh (by omega))]
    cases lo with
    | none =>
      simp only [evBnd, Option.some.injEq] at hl
      subst hl
      rfl
    | some x => exact run_bind_ok (bnd_run (he x (.inl rfl)) hl h1)

/-- The three bounds are all 0. -/
theorem bounds0_run {isSlice : Bool} {len cap : Nat} {lo hi : Option Operand} {m : Operand} (he : ∀ x, lo = some x ∨ hi = some x ∨ m = x → ∀ a, es x = some a → R z σ w a (ρ x))
    (hl : evBnd es 0 lo = some 0) (hh : evBnd es len hi = some 0) (hs : hi.isSome = true) (hm : evBnd es 0 (some m) = some 0) :
    (Instr.sliceBounds isSlice len cap (lo.map ρ) (hi.map ρ) (some (ρ m))).run P w = .ok (0, 0, 0) w := by
  simp only [Instr.sliceBounds]
  rw [run_bind_ok (bnd_run (he m (.inr (.inr rfl))) hm (Nat.zero_le _))]
  cases hi with
  | none => cases hs
  | some x =>
    simp only [Option.map_some]
    rw [run_bind_ok (bnd_run (he x (.inr (.inl rfl))) hh (Nat.le_refl _))]
    cases lo with
    | none => rfl
    | some y =>
      simp only [Option.map_some]
      rw [run_bind_ok (bnd_run (he y (.inl rfl)) hl (Nat.le_refl _))]
      rfl

theorem RSl.drop_take {b sz o : Nat} {xs : List AV} (h : RSl z σ w b sz o xs) (l k : Nat) : RSl z σ w b sz (o + l * sz) ((xs.take k).drop l) :=
  RSl.of_get fun i x hx => by
    rw [List.getElem?_drop, List.getElem?_take] at hx
    split at hx
    · obtain ⟨v, h1, h2, h3⟩ := h.get _ _ hx
      exact ⟨v, h1, h2, by rw [Nat.add_assoc, ← Nat.add_mul]; exact h3⟩
    · simp at hx

theorem Addr_add (a : Addr) (h : a.spot = none) (n : Nat) : a.add n = ⟨a.block, a.off + n, none⟩ := by
  obtain ⟨b, o, s⟩ := a
  simp only at h
  subst h
  unfold Addr.add
  split
  · rename_i h0; subst h0; rfl
  · rfl

theorem sliceAt_slice {t e : TypeId} {va : Value} {lo hi mx : Option Value} (h : P.underlying t = some (.slice e)) :
    (Instr.sliceAt t va lo hi mx).run P w = (Instr.slice t va lo hi mx).run P w := by
  unfold Instr.sliceAt
  rw [run_bind_ok (under_run h w)]

theorem sliceAt_string {t : TypeId} {va : Value} {lo hi mx : Option Value} (h : P.underlying t = some .string) :
    (Instr.sliceAt t va lo hi mx).run P w = (Instr.slice t va lo hi mx).run P w := by
  unfold Instr.sliceAt
  rw [run_bind_ok (under_run h w)]

theorem slice_run {t : TypeId} {x : AV} {v : Value} {lo hi mx : Option Operand} {out : AV} (hx : R z σ w x v)
    (he : ∀ y, lo = some y ∨ hi = some y ∨ mx = some y → ∀ a, es y = some a → R z σ w a (ρ y)) (h : evSlice P es t x lo hi mx = some out) :
    ∃ u, (Instr.sliceAt t v (lo.map ρ) (hi.map ρ) (mx.map ρ)).run P w = .ok u w ∧ R z σ w out u := by
  have he' : ∀ x, lo = some x ∨ hi = some x → ∀ a, es x = some a → R z σ w a (ρ x) := fun y hy => he y (hy.elim .inl fun k => .inr (.inl k))
  unfold evSlice at h
  split at h
  · rename_i s hu
    split at h
    · rename_i l k hl hh
      split at h
      · rename_i hb
        cases h
        obtain rfl := hx
        refine ⟨.string (s.extract l k), ?_, rfl⟩
        rw [sliceAt_string hu]
        unfold Instr.slice
        rw [run_bind_ok (under_run hu w)]
        simp only [Option.map_none, Option.isSome_none, Bool.false_eq_true, if_false]
        rw [run_bind_ok (bounds_run he' hl hh hb.1 hb.2 (Nat.le_refl _))]
        rfl
      · cases h
    · cases h
  · rename_i e hu
    obtain rfl := hx
    split at h
    · rename_i n hsz hl hh
      cases h
      refine ⟨.slice none 0 0, ?_, rfl⟩
      rw [sliceAt_slice hu]
      unfold Instr.slice
      rw [run_bind_ok (under_run hu w)]
      simp only [Option.map_none]
      rw [run_bind_ok (bounds_run he' hl hh (Nat.le_refl _) (Nat.le_refl _) (Nat.le_refl _)), run_bind_ok (szT_run hsz w)]
      rfl
    · rename_i n m hsz hl hh
      split at h
      · rename_i hb
        cases h
        refine ⟨.slice none 0 0, ?_, rfl⟩
        rw [sliceAt_slice hu]
        unfold Instr.slice
        rw [run_bind_ok (under_run hu w)]
        simp only [Option.map_some]
        rw [run_bind_ok (bounds0_run (fun y hy => he y (hy.imp (fun q => q) (Or.imp (fun q => q) (congrArg some)))) hl hh hb.2 hb.1), run_bind_ok (szT_run hsz w)]
        rfl
      · cases h
    · cases h
  · rename_i sz xs e hu
    obtain ⟨a, c, rfl, hlen, hc⟩ := hx
    split at h
    · rename_i hsz
      split at h
      · rename_i l k hl hh
        split at h
        · rename_i hb
          cases h
          refine ⟨.slice (if c = l then a else a.map (·.add (l * sz))) (k - l) (c - l), ?_, ?_⟩
          · rw [sliceAt_slice hu]
            unfold Instr.slice
            rw [run_bind_ok (under_run hu w)]
            simp only [Option.map_none]
            rw [run_bind_ok (bounds_run he' hl hh hb.1 hb.2 hlen), run_bind_ok (szT_run hsz w)]
            rfl
          · have e1 : ((xs.take k).drop l).length = k - l := by simp; omega
            refine ⟨_, _, by rw [e1], by rw [e1]; omega, ?_⟩
            by_cases h0 : (xs.take k).drop l = []
            · exact .inl h0
            · right
              have hk : l < k := by
                rcases Nat.lt_or_ge l k with h | h
                · exact h
                · exact absurd (List.eq_nil_of_length_eq_zero (by rw [e1]; omega)) h0
              rcases hc with rfl | ⟨ad, rfl, hs, hN, hR⟩
              · simp at h0
              · rw [if_neg (by omega)]
                refine ⟨_, rfl, ?_, ?_, ?_⟩ <;> simp only [Addr_add ad hs]
                · exact hN
                · exact hR.drop_take l k
        · cases h
      · rename_i m hl hh
        split at h
        · rename_i hb
          cases h
          refine ⟨.slice a 0 0, ?_, ⟨a, rfl⟩⟩
          rw [sliceAt_slice hu]
          unfold Instr.slice
          rw [run_bind_ok (under_run hu w)]
          simp only [Option.map_some]
          rw [run_bind_ok (bounds0_run (fun y hy => he y (hy.imp (fun q => q) (Or.imp (fun q => q) (congrArg some)))) hl hh hb.2 hb.1), run_bind_ok (szT_run hsz w)]
          rfl
        · cases h
      · cases h
    · cases h
  · rename_i id sz hw off len e hu
    obtain ⟨o, ho, hsz', hle, a, c, rfl, hlen, h1, h2⟩ := hx
    split at h
    · rename_i hsz
      split at h
      · rename_i l k hl hh
        split at h
        · rename_i hb
          cases h
          refine ⟨.slice (if c = l then a else a.map (·.add (l * sz))) (k - l) (c - l), ?_, ?_⟩
          · rw [sliceAt_slice hu]
            unfold Instr.slice
            rw [run_bind_ok (under_run hu w)]
            simp only [Option.map_none]
            rw [run_bind_ok (bounds_run he' hl hh hb.1 hb.2 hlen), run_bind_ok (szT_run hsz w)]
            rfl
          · refine ⟨o, ho, hsz', hle, _, _, rfl, by omega, fun e => by have := h1 e; omega, ?_⟩
            by_cases h0 : c = l
            · exact .inl (by omega)
            · rw [if_neg h0]
              right
              rcases h2 with h2 | ⟨ad, rfl, h2⟩
              · omega
              · refine ⟨_, rfl, fun e => ?_⟩
                have := h2 e
                subst this
                simp only [Addr_add (⟨z.φ id, off * sz, none⟩ : Addr) rfl, Nat.add_mul]
        · cases h
      · rename_i m hl hh
        split at h
        · rename_i hb
          cases h
          refine ⟨.slice a 0 0, ?_, ⟨a, rfl⟩⟩
          rw [sliceAt_slice hu]
          unfold Instr.slice
          rw [run_bind_ok (under_run hu w)]
          simp only [Option.map_some]
          rw [run_bind_ok (bounds0_run (fun y hy => he y (hy.imp (fun q => q) (Or.imp (fun q => q) (congrArg some)))) hl hh hb.2 hb.1), run_bind_ok (szT_run hsz w)]
          rfl
        · cases h
      · cases h
    · cases h
  · cases h

end
end Go.Abs
end
section
/- What only reckons, the other operations. -/
namespace Go.Abs
section
variable {P : Program} {z : Cz} {σ : AH} {w : World} {es : Operand → Option AV} {ρ : Operand → Value}

theorem RCells.drop {b o : Nat} {xs : List AV} (h : RCells z σ w b o xs) (n : Nat) : RCells z σ w b (o + n) (xs.drop n) :=
  RCells.of_get fun i x hx => by
    rw [List.getElem?_drop] at hx
    obtain ⟨v, h1, h2⟩ := h.get _ _ hx
    exact ⟨v, h1, by rw [Nat.add_assoc]; exact h2⟩

theorem fieldT_run {t : TypeId} {f : Nat} {fd : Field} (h : fieldT P t f = some fd) : ∃ fs, P.underlying t = some (.struct fs) ∧ fs[f]? = some fd := by
  unfold fieldT at h
  split at h
  · exact ⟨_, by assumption, h⟩
  · cases h

theorem asIntOf_run (k : IntKind) (n : Int) (w : World) : (asIntOf (.int k n)).run P w = .ok (k, n) w := rfl
theorem asAgg_run (vs : Array Value) (w : World) : (asAgg (.agg vs)).run P w = .ok vs w := rfl
theorem sure_run (a : Addr) (w : World) : (Instr.sureAddr (.pointer (some a))).run P w = .ok a w := rfl

theorem fieldPlace_run {fd : Field} {n : Nat} (h : szT P fd.type = some (n + 1)) (a : Addr) : (fieldPlace a fd).run P w = .ok (a.add fd.offset) w := by
  unfold fieldPlace
  rw [run_bind_ok (szT_run h w), if_neg (by omega)]
  rfl

theorem fieldAt_run {t : TypeId} {f : Nat} {x : AV} {v : Value} {out : AV} (hx : R z σ w x v) (h : evFieldAddr P t f x = some out) :
    ∃ u, (Instr.fieldAt t v f).run P w = .ok u w ∧ R z σ w out u := by
  unfold evFieldAddr at h
  split at h
  · rename_i fd hfd
    obtain ⟨fs, hu, hf⟩ := fieldT_run hfd
    split at h
    · rename_i n hsz
      have run : ∀ a, v = .pointer (some a) → (Instr.fieldAt t v f).run P w = .ok (.pointer (some (a.add fd.offset))) w := by
        rintro a rfl
        unfold Instr.fieldAt
        rw [run_bind_ok (under_run hu w)]
        simp only [hf]
        rw [run_bind_ok (sure_run a w), run_bind_ok (fieldPlace_run hsz a)]
        rfl
      split at h
      · cases h
        obtain ⟨o, ho, hle, a, hv, ha⟩ := hx
        refine ⟨_, run a hv, o, ho, hle, _, rfl, fun e => ?_⟩
        rw [ha e, Addr_add _ rfl, Nat.add_assoc]
      · cases h
        obtain ⟨ad, hv, hs, hN, hR⟩ := hx
        refine ⟨_, run ad hv, _, rfl, ?_, ?_, ?_⟩ <;> rw [Addr_add ad hs]
        · exact hN
        · exact hR.drop _
      · cases h
    · cases h
  · cases h

theorem part_run {t : TypeId} {cs : List AV} {vs : Array Value} {off : Nat} {out : AV} (hx : RL z σ w cs vs.toList) (h : evPart P t cs off = some out) :
    ∃ u, (part t vs off).run P w = .ok u w ∧ R z σ w out u := by
  unfold evPart at h
  split at h
  · rename_i n ha hn
    cases h
    refine ⟨.agg (vs.extract off (off + n)), ?_, _, rfl, ?_⟩
    · unfold part
      rw [run_bind_ok (aggT_run ha w), if_pos rfl, run_bind_ok (szT_run hn w)]
      rfl
    · have : (vs.extract off (off + n)).toList = (vs.toList.drop off).take n := by
        rw [Array.toList_extract]
        simp [List.extract]
      rw [this]
      exact (hx.drop off).take n
  · rename_i n ha hn
    obtain ⟨v, hv, hr⟩ := hx.get _ _ h
    refine ⟨v, ?_, hr⟩
    unfold part
    rw [run_bind_ok (aggT_run ha w)]
    have hv' : vs[off]? = some v := by simpa using hv
    simp only [Bool.false_eq_true, if_false, hv']
    rfl
  · cases h

theorem field_run {t : TypeId} {f : Nat} {x : AV} {v : Value} {out : AV} (hx : R z σ w x v) (h : evField P t f x = some out) :
    ∃ u, (Instr.field t v f).run P w = .ok u w ∧ R z σ w out u := by
  unfold evField at h
  split at h
  · rename_i fd cs hfd
    obtain ⟨fs, hu, hf⟩ := fieldT_run hfd
    obtain ⟨vs, rfl, hl⟩ := hx
    obtain ⟨u, h1, h2⟩ := part_run hl h
    refine ⟨u, ?_, h2⟩
    unfold Instr.field
    rw [run_bind_ok (under_run hu w)]
    simp only [hf]
    rw [run_bind_ok (asAgg_run vs w)]
    exact h1
  · cases h

theorem indexAt_run {t : TypeId} {x i : AV} {v u : Value} {out : AV} (hx : R z σ w x v) (hi : R z σ w i u) (h : evIndexAddr P t x i = some out) :
    ∃ q, (Instr.indexAt t v u).run P w = .ok q w ∧ R z σ w out q := by
  unfold evIndexAddr at h
  split at h
  · rename_i k n
    obtain rfl := hi
    split at h
    · rename_i e sz xs hu
      split at h
      · rename_i hc
        obtain ⟨hsz, h0, hn⟩ := hc
        obtain ⟨a, c, rfl, hlen, hc⟩ := hx
        cases hy : xs[n.toNat]? with
        | none => rw [hy] at h; cases h
        | some y =>
          rw [hy] at h
          cases h
          rcases hc with rfl | ⟨ad, rfl, hs, hN, hR⟩
          · simp at hn; omega
          · obtain ⟨v, h1, h2, h3⟩ := hR.get _ _ hy
            refine ⟨.pointer (some (ad.add (n.toNat * sz))), ?_, _, rfl, ?_, ?_, ?_⟩
            · unfold Instr.indexAt
              rw [run_bind_ok (asIntOf_run k n w)]
              simp only []
              rw [run_bind_ok (under_run hu w)]
              simp only []
              rw [run_bind_ok (run_pure' P _ w), run_bind_ok (under_run hu w)]
              simp only [h0, hn, and_self, if_true]
              rw [run_bind_ok (szT_run hsz w)]
              rfl
            all_goals rw [Addr_add ad hs]
            · exact hN
            · exact h3.rcells (R_cells h1)
      · cases h
    · rename_i e id sz hw off len hu
      split at h
      · rename_i hc
        obtain ⟨hsz, h0, hn⟩ := hc
        cases h
        obtain ⟨o, ho, hsz', hle, a, c, rfl, hlen, h1, h2⟩ := hx
        rcases h2 with h2 | ⟨ad, rfl, h2⟩
        · omega
        · refine ⟨.pointer (some (ad.add (n.toNat * sz))), ?_, o, ho, hle, _, rfl, fun e => ?_⟩
          · unfold Instr.indexAt
            rw [run_bind_ok (asIntOf_run k n w)]
            simp only []
            rw [run_bind_ok (under_run hu w)]
            simp only []
            rw [run_bind_ok (run_pure' P _ w), run_bind_ok (under_run hu w)]
            simp only [h0, hn, and_self, if_true]
            rw [run_bind_ok (szT_run hsz w)]
            rfl
          · rw [h2 e, Addr_add _ rfl, hsz', Nat.add_mul]
            rfl
      · cases h
    · rename_i len e id hw j off hu
      split at h
      · rename_i sz hsz
        split at h
        · rename_i hn
          cases h
          obtain ⟨o, ho, hle, a, rfl, ha⟩ := hx
          refine ⟨.pointer (some (a.add (n.toNat * sz))), ?_, o, ho, hle, _, rfl, fun e => ?_⟩
          · unfold Instr.indexAt
            rw [run_bind_ok (asIntOf_run k n w)]
            simp only []
            rw [run_bind_ok (under_run hu w)]
            simp only []
            rw [run_bind_ok (sure_run a w), run_bind_ok (run_pure' P _ w), run_bind_ok (under_run hu w)]
            simp only [hn, and_self, if_true]
            rw [run_bind_ok (szT_run hsz w)]
            rfl
          · rw [ha e, Addr_add _ rfl, Nat.add_assoc]
        · cases h
      · cases h
    · rename_i len e cs hu
      split at h
      · rename_i sz hsz
        split at h
        · rename_i hn
          cases h
          obtain ⟨ad, rfl, hs, hN, hR⟩ := hx
          refine ⟨.pointer (some (ad.add (n.toNat * sz))), ?_, _, rfl, ?_, ?_, ?_⟩
          · unfold Instr.indexAt
            rw [run_bind_ok (asIntOf_run k n w)]
            simp only []
            rw [run_bind_ok (under_run hu w)]
            simp only []
            rw [run_bind_ok (sure_run ad w), run_bind_ok (run_pure' P _ w), run_bind_ok (under_run hu w)]
            simp only [hn, and_self, if_true]
            rw [run_bind_ok (szT_run hsz w)]
            rfl
          all_goals rw [Addr_add ad hs]
          · exact hN
          · exact hR.drop _
        · cases h
      · cases h
    · cases h
  · cases h

theorem index_run {t : TypeId} {x i : AV} {v u : Value} {out : AV} (hx : R z σ w x v) (hi : R z σ w i u) (h : evIndex P t x i = some out) :
    ∃ q, (Instr.index t v u).run P w = .ok q w ∧ R z σ w out q := by
  unfold evIndex at h
  split at h
  · rename_i k n
    obtain rfl := hi
    split at h
    · rename_i s hu
      split at h
      · rename_i h0
        obtain rfl := hx
        cases hb : s[n.toNat]? with
        | none => rw [hb] at h; cases h
        | some b =>
          rw [hb] at h
          cases h
          refine ⟨.int .u8 b.toNat, ?_, rfl⟩
          unfold Instr.index
          rw [run_bind_ok (asIntOf_run k n w)]
          simp only []
          rw [run_bind_ok (under_run hu w)]
          simp only [h0, if_true, hb]
          rfl
      · cases h
    · rename_i len e cs hu
      split at h
      · rename_i sz hsz
        split at h
        · rename_i hn
          obtain ⟨vs, rfl, hl⟩ := hx
          obtain ⟨q, h1, h2⟩ := part_run hl h
          refine ⟨q, ?_, h2⟩
          unfold Instr.index
          rw [run_bind_ok (asIntOf_run k n w)]
          simp only []
          rw [run_bind_ok (under_run hu w)]
          simp only [hn, and_self, if_true]
          rw [run_bind_ok (szT_run hsz w)]
          exact h1
        · cases h
      · cases h
    · cases h
  · cases h

theorem zero_run {t : TypeId} {v : Value} (h : (P.info? t).bind (·.zero) = some v) : (zeroValue t).run P w = .ok v w := by
  cases hi : P.info? t with
  | none => rw [hi] at h; cases h
  | some i =>
    rw [hi] at h
    have h' : i.zero = some v := h
    unfold zeroValue
    rw [run_bind_ok (show (typeInfo t).run P w = .ok i w by simp [typeInfo, hi, go_sem])]
    simp only [h']
    rfl

theorem assert_run {T xt : TypeId} {ok : Bool} {x : AV} {v : Value} {out : AV} (hx : R z σ w x v) (h : evAssert P T ok x = some out) :
    ∃ u, (Instr.typeAssert v xt T ok).run P w = .ok u w ∧ R z σ w out u := by
  unfold evAssert at h
  split at h
  · cases h
  · cases h
  · rename_i d hno hu
    have hfail : ∀ (st dy : Option TypeId) (m : String) (zv : Value), ok = true → (P.info? T).bind (·.zero) = some zv →
        ((do if ok then pure (.tuple #[← zeroValue T, .bool false]) else runtimePanic (.typeAssertion st dy T m)) : Sem Value).run P w = .ok (.tuple #[zv, .bool false]) w := by
      intro st dy m zv hok hz
      rw [if_pos hok, run_bind_ok (zero_run hz)]
      rfl
    split at h
    · rename_i t y
      obtain ⟨u, rfl, hr⟩ := hx
      split at h
      · rename_i ht
        cases h
        refine ⟨if ok then .tuple #[u, .bool true] else u, ?_, ?_⟩
        · unfold Instr.typeAssert
          rw [run_bind_ok (under_run hu w)]
          cases d <;> first
            | exact (hno _ rfl).elim
            | (simp only [ht, if_true]; rfl)
        · cases ok
          · exact hr
          · exact ⟨_, rfl, u, _, rfl, hr, _, _, rfl, rfl, rfl⟩
      · rename_i ht
        split at h
        · rename_i hok
          split at h
          · rename_i zv hz
            cases hb : absV zv with
            | none => rw [hb] at h; cases h
            | some y =>
              rw [hb] at h
              cases h
              refine ⟨.tuple #[zv, .bool false], ?_, _, rfl, zv, _, rfl, absV_R hb, _, _, rfl, rfl, rfl⟩
              unfold Instr.typeAssert
              rw [run_bind_ok (under_run hu w)]
              cases d <;> first
                | exact (hno _ rfl).elim
                | (simp only [if_neg ht]; exact hfail _ _ _ _ hok hz)
          · cases h
        · cases h
    · obtain rfl := hx
      split at h
      · rename_i hok
        split at h
        · rename_i zv hz
          cases hb : absV zv with
          | none => rw [hb] at h; cases h
          | some y =>
            rw [hb] at h
            cases h
            refine ⟨.tuple #[zv, .bool false], ?_, _, rfl, zv, _, rfl, absV_R hb, _, _, rfl, rfl, rfl⟩
            unfold Instr.typeAssert
            rw [run_bind_ok (under_run hu w)]
            cases d <;> first
              | exact (hno _ rfl).elim
              | exact hfail _ _ _ _ hok hz
        · cases h
      · cases h
    · cases h

end
end Go.Abs
end
section
/- What only reckons: all of it. -/
namespace Go.Abs
section
variable {P : Program} {z : Cz} {σ : AH} {w : World} {es : Operand → Option AV} {ρ : Operand → Value}

theorem setAll_R : ∀ {vs : List AV} {us : List Value} {cs : List AV} {ds : Array Value} {off : Nat} (j : Nat), RL z σ w cs ds.toList → RL z σ w vs us →
    RL z σ w (setAll cs (off + j) vs) (((us.zipIdx j).foldl (fun cs (c, j) => cs.setIfInBounds (off + j) c) ds).toList)
  | [], _, cs, ds, off, j, h, hv => by rw [show _ = [] from hv]; exact h
  | x :: xs, _, cs, ds, off, j, h, ⟨u, us, rfl, h1, h2⟩ => by
    simp only [setAll, List.zipIdx_cons, List.foldl_cons]
    rw [Nat.add_assoc]
    refine setAll_R (j + 1) ?_ h2
    rw [Array.toList_setIfInBounds]
    exact h.set _ h1

theorem fill_R {place : Nat → Option (Nat × Nat)} : ∀ {parts : List (Nat × Operand)} {cs out : List AV} {ds : Array Value},
    (∀ p ∈ parts, ∀ a, es p.2 = some a → R z σ w a (ρ p.2)) → RL z σ w cs ds.toList → evFill place es cs parts = some out →
    ∃ ds', Instr.fill place ds (parts.map fun (i, x) => (i, ρ x)) = some ds' ∧ RL z σ w out ds'.toList
  | [], cs, out, ds, _, h, e => by
    cases e
    exact ⟨ds, rfl, h⟩
  | (i, x) :: rest, cs, out, ds, hp, h, e => by
    simp only [evFill] at e
    split at e
    · rename_i off size v hpl hx
      split at e
      · rename_i hc
        have hR := hp (i, x) (List.mem_cons_self ..) v hx
        have hcells := R_cells hR
        have hlen : (ρ x).cells.size = size := by have := hcells.length; simp at this; omega
        have hcs : cs.length = ds.size := by simpa using h.length
        obtain ⟨ds', h1, h2⟩ := fill_R (ds := (ρ x).cells.toList.zipIdx.foldl (fun cs (c, j) => cs.setIfInBounds (off + j) c) ds)
          (fun p hpm => hp p (List.mem_cons_of_mem _ hpm)) (setAll_R (off := off) 0 h hcells) e
        refine ⟨ds', ?_, h2⟩
        simp only [List.map_cons, Instr.fill, hpl]
        rw [if_neg (by rw [hlen]; simp; omega)]
        rw [← h1]
        congr 1
        rw [← Array.foldl_toList, Array.toList_zipIdx]
      · cases e
    · cases e

theorem fieldsPlace_run : ∀ {fs : List Field} {ps : List (Nat × Nat)}, fieldsPlace P fs = some ps →
    (fs.mapM fun f => (do pure (f.offset, ← sizeOf f.type) : Sem (Nat × Nat))).run P w = .ok ps w
  | [], _, h => by cases h; rfl
  | f :: fs, _, h => by
    simp only [fieldsPlace] at h
    split at h
    · rename_i n r hn hr
      cases h
      rw [List.mapM_cons, run_bind_ok (show (do pure (f.offset, ← sizeOf f.type) : Sem (Nat × Nat)).run P w = .ok (f.offset, n) w by rw [run_bind_ok (szT_run hn w)]; rfl),
        run_bind_ok (fieldsPlace_run hr)]
      rfl
    · cases h

theorem zeroA_run {t : TypeId} {x : AV} (h : zeroA P t = some x) : ∃ v, (zeroValue t).run P w = .ok v w ∧ R z σ w x v := by
  unfold zeroA at h
  cases hz : (P.info? t).bind (·.zero) with
  | none => rw [hz] at h; cases h
  | some v =>
    rw [hz] at h
    exact ⟨v, zero_run hz, absV_R h⟩

theorem build_run {t : TypeId} {parts : Array (Nat × Operand)} {out : AV} (hp : ∀ p ∈ parts.toList, ∀ a, es p.2 = some a → R z σ w a (ρ p.2)) (h : evBuild P es t parts.toList = some out) :
    ∃ v, (Instr.build t (parts.map fun (i, x) => (i, ρ x))).run P w = .ok v w ∧ R z σ w out v := by
  unfold evBuild at h
  split at h
  · rename_i zv fs hz hu
    obtain ⟨v, hv, hR⟩ := zeroA_run (w := w) (z := z) (σ := σ) hz
    split at h
    · rename_i ps hps
      cases hf : evFill (ps[·]?) es (cellsA zv) parts.toList with
      | none => rw [hf] at h; cases h
      | some cs =>
        rw [hf] at h
        cases h
        obtain ⟨ds', h1, h2⟩ := fill_R hp (R_cells hR) hf
        refine ⟨.agg ds', ?_, _, rfl, h2⟩
        unfold Instr.build
        rw [run_bind_ok hv]
        simp only []
        rw [run_bind_ok (under_run hu w)]
        simp only []
        have hm : (fs.mapM fun f => (do pure (f.offset, ← sizeOf f.type) : Sem (Nat × Nat))).run P w = .ok ps.toArray w := by
          rw [Array.mapM_eq_mapM_toList]
          show ((fs.toList.mapM fun f => (do pure (f.offset, ← sizeOf f.type) : Sem (Nat × Nat))) >>= fun x => pure x.toArray).run P w = _
          rw [run_bind_ok (fieldsPlace_run hps)]
          rfl
        rw [run_bind_ok hm]
        simp only [Array.toList_map]
        have e : (fun (x : Nat) => ps.toArray[x]?) = (fun (x : Nat) => ps[x]?) := by funext x; simp
        rw [e, h1]
        rfl
    · cases h
  · rename_i zv n e hz hu
    obtain ⟨v, hv, hR⟩ := zeroA_run (w := w) (z := z) (σ := σ) hz
    split at h
    · rename_i m hm
      cases hf : evFill (fun i => some (i * m, m)) es (cellsA zv) parts.toList with
      | none => rw [hf] at h; cases h
      | some cs =>
        rw [hf] at h
        cases h
        obtain ⟨ds', h1, h2⟩ := fill_R hp (R_cells hR) hf
        refine ⟨.agg ds', ?_, _, rfl, h2⟩
        unfold Instr.build
        rw [run_bind_ok hv]
        simp only []
        rw [run_bind_ok (under_run hu w)]
        simp only []
        rw [run_bind_ok (szT_run hm w)]
        simp only [Array.toList_map]
        rw [h1]
        rfl
    · cases h
  · cases h

theorem len_run {ts : Array TypeId} {t ty : TypeId} {x : AV} {v : Value} {out : AV} (ht : ts[0]? = some t) (hx : R z σ w x v) (h : evLen P t x = some out) :
    ∃ u, (Builtin.len_ ts ty #[v]).run P w = .ok u w ∧ R z σ w out u := by
  unfold evLen at h
  split at h
  case h_6 => cases h
  case h_1 =>
    obtain rfl := hx
    split at h
    · rename_i hu
      cases h
      exact ⟨_, by unfold Builtin.len_; simp only [ht, List.getElem?_toArray, List.getElem?_cons_zero]; rw [run_bind_ok (under_run hu w)]; rfl, rfl⟩
    · cases h
  case h_2 =>
    obtain rfl := hx
    split at h
    · rename_i hu
      cases h
      exact ⟨_, by unfold Builtin.len_; simp only [ht, List.getElem?_toArray, List.getElem?_cons_zero]; rw [run_bind_ok (under_run hu w)]; rfl, rfl⟩
    · cases h
  case h_3 =>
    obtain ⟨a, rfl⟩ := hx
    split at h
    · rename_i hu
      cases h
      exact ⟨_, by unfold Builtin.len_; simp only [ht, List.getElem?_toArray, List.getElem?_cons_zero]; rw [run_bind_ok (under_run hu w)]; rfl, rfl⟩
    · cases h
  case h_4 =>
    obtain ⟨a, c, rfl, _⟩ := hx
    split at h
    · rename_i hu
      cases h
      exact ⟨_, by unfold Builtin.len_; simp only [ht, List.getElem?_toArray, List.getElem?_cons_zero]; rw [run_bind_ok (under_run hu w)]; rfl, rfl⟩
    · cases h
  case h_5 =>
    obtain ⟨o, ho, _, _, a, c, rfl, _⟩ := hx
    split at h
    · rename_i hu
      cases h
      exact ⟨_, by unfold Builtin.len_; simp only [ht, List.getElem?_toArray, List.getElem?_cons_zero]; rw [run_bind_ok (under_run hu w)]; rfl, rfl⟩
    · cases h

theorem fold_run {f : AV → AV → Option AV} {g : Value → Value → Sem Value} (hf : ∀ {a b c : AV} {u v : Value}, R z σ w a u → R z σ w b v → f a b = some c → ∃ q, (g u v).run P w = .ok q w ∧ R z σ w c q) :
    ∀ {xs : List AV} {vs : List Value} {x out : AV} {v : Value}, R z σ w x v → RL z σ w xs vs → evFold f x xs = some out → ∃ q, (vs.foldlM g v).run P w = .ok q w ∧ R z σ w out q
  | [], _, x, out, v, hx, hl, h => by
    rw [show _ = [] from hl]
    cases h
    exact ⟨v, rfl, hx⟩
  | y :: ys, _, x, out, v, hx, ⟨u, us, rfl, h1, h2⟩, h => by
    simp only [evFold] at h
    split at h
    · rename_i c hc
      obtain ⟨q, hq, hr⟩ := hf hx h1 hc
      obtain ⟨p, hp, hpr⟩ := fold_run hf hr h2 h
      exact ⟨p, by rw [List.foldlM_cons, run_bind_ok hq]; exact hp, hpr⟩
    · cases h

theorem max2_run {a b c : AV} {u v : Value} (ha : R z σ w a u) (hb : R z σ w b v) (h : evMax2 a b = some c) : ∃ q, (Builtin.max2 u v).run P w = .ok q w ∧ R z σ w c q := by
  unfold evMax2 at h
  split at h
  · obtain rfl := ha; obtain rfl := hb; cases h; exact ⟨_, rfl, rfl⟩
  · cases h
theorem min2_run {a b c : AV} {u v : Value} (ha : R z σ w a u) (hb : R z σ w b v) (h : evMin2 a b = some c) : ∃ q, (Builtin.min2 u v).run P w = .ok q w ∧ R z σ w c q := by
  unfold evMin2 at h
  split at h
  · obtain rfl := ha; obtain rfl := hb; cases h; exact ⟨_, rfl, rfl⟩
  · cases h

theorem evL_R : ∀ {xs : List Operand} {as : List AV}, (∀ x ∈ xs, ∀ a, es x = some a → R z σ w a (ρ x)) → evL es xs = some as → RL z σ w as (xs.map ρ)
  | [], _, _, h => by cases h; rfl
  | x :: xs, _, hp, h => by
    simp only [evL] at h
    split at h
    · rename_i a r ha hr
      cases h
      exact ⟨_, _, rfl, hp x (List.mem_cons_self ..) a ha, evL_R (fun y hy => hp y (List.mem_cons_of_mem _ hy)) hr⟩
    · cases h

theorem un_run {op : UnOp} {x : AV} {v : Value} {out : AV} (hx : R z σ w x v) (h : evUn op x = some out) : ∃ u, (Op.unary op v).run P w = .ok u w ∧ R z σ w out u := by
  unfold evUn at h
  split at h
  · obtain rfl := hx
    split at h
    · cases h; exact ⟨_, rfl, rfl⟩
    · cases h
  · obtain rfl := hx
    split at h
    · cases h; exact ⟨_, rfl, rfl⟩
    · simp only [evInt] at h; cases h; exact ⟨_, rfl, rfl⟩
    · cases h
  · cases h

theorem conv_run {s d : TypeId} {x : AV} {v : Value} {out : AV} (hx : R z σ w x v) (h : evConv P s d x = some out) : ∃ u, (convert s d v).run P w = .ok u w ∧ R z σ w out u := by
  unfold evConv at h
  split at h
  · obtain rfl := hx
    split at h
    · rename_i sd k hs hd
      cases h
      refine ⟨_, ?_, rfl⟩
      unfold convert
      rw [run_bind_ok (under_run hs w), run_bind_ok (under_run hd w)]
      rfl
    · rename_i sd hs hd
      cases h
      refine ⟨_, ?_, rfl⟩
      unfold convert
      rw [run_bind_ok (under_run hs w), run_bind_ok (under_run hd w)]
      rfl
    · cases h
  · obtain rfl := hx
    split at h
    · rename_i sd hs hd
      cases h
      refine ⟨_, ?_, rfl⟩
      unfold convert
      rw [run_bind_ok (under_run hs w), run_bind_ok (under_run hd w)]
      rfl
    · cases h
  · cases h

end
end Go.Abs
end
section
/- What only reckons: comparisons; the whole. -/
namespace Go.Abs
section
variable {P : Program} {z : Cz} {σ : AH} {w : World} {es : Operand → Option AV} {ρ : Operand → Value}

theorem eqGuard_plain {op : BinOp} {t : TypeId} {x y : Operand} {a b : Value} (h1 : ¬ (a = .nilIface ∧ b = .nilIface)) (h2 : ∀ xs ys, ¬ (a = .agg xs ∧ b = .agg ys)) :
    (eqGuard op t x y a b).run P w = .ok () w := by
  unfold eqGuard
  cases op <;> first
    | rfl
    | (cases a <;> cases b <;> first | rfl | exact absurd ⟨rfl, rfl⟩ h1 | exact absurd ⟨rfl, rfl⟩ (h2 _ _))

theorem eqGuard_cst {op : BinOp} {t : TypeId} {x y : Operand} (h : (isCst x || isCst y) = true) : (eqGuard op t x y .nilIface .nilIface).run P w = .ok () w := by
  unfold eqGuard
  cases op <;> cases x <;> cases y <;> first | rfl | cases h

theorem eq_bool {t : TypeId} (hu : P.underlying t = some .bool) (a b : Bool) : (Op.equal t (.bool a) (.bool b)).run P w = .ok (a == b) w := by
  show (Op.equalIn (9999 + 1) _ _ _).run P w = _
  unfold Op.equalIn
  rw [run_bind_ok (under_run hu w)]
  rfl
theorem eq_nil_ptr {t e : TypeId} (hu : P.underlying t = some (.pointer e)) (b : Option Addr) : (Op.equal t (.pointer none) (.pointer b)).run P w = .ok b.isNone w := by
  show (Op.equalIn (9999 + 1) _ _ _).run P w = _
  unfold Op.equalIn
  rw [run_bind_ok (under_run hu w)]
  rfl
theorem eq_ptr_nil {t e : TypeId} (hu : P.underlying t = some (.pointer e)) (b : Addr) : (Op.equal t (.pointer (some b)) (.pointer none)).run P w = .ok false w := by
  show (Op.equalIn (9999 + 1) _ _ _).run P w = _
  unfold Op.equalIn
  rw [run_bind_ok (under_run hu w)]
  rfl
theorem eq_nil_nil {t : TypeId} {ms : Array (String × TypeId)} (hu : P.underlying t = some (.interface ms)) : (Op.equal t .nilIface .nilIface).run P w = .ok true w := by
  show (Op.equalIn (9999 + 1) _ _ _).run P w = _
  unfold Op.equalIn
  rw [run_bind_ok (under_run hu w)]
  rfl
theorem eq_nil_iface {t : TypeId} {ms : Array (String × TypeId)} (hu : P.underlying t = some (.interface ms)) (a : TypeId) (b : Value) : (Op.equal t .nilIface (.iface a b)).run P w = .ok false w := by
  show (Op.equalIn (9999 + 1) _ _ _).run P w = _
  unfold Op.equalIn
  rw [run_bind_ok (under_run hu w)]
  rfl
theorem eq_iface_nil {t : TypeId} {ms : Array (String × TypeId)} (hu : P.underlying t = some (.interface ms)) (a : TypeId) (b : Value) : (Op.equal t (.iface a b) .nilIface).run P w = .ok false w := by
  show (Op.equalIn (9999 + 1) _ _ _).run P w = _
  unfold Op.equalIn
  rw [run_bind_ok (under_run hu w)]
  rfl

theorem bin_run {op : BinOp} {t : TypeId} {x y : Operand} {a b : AV} {u v : Value} {out : AV} (ha : R z σ w a u) (hb : R z σ w b v) (h : evBin P op t (isCst x || isCst y) a b = some out) :
    ∃ q, ((do eqGuard op t x y u v; binOp op t u v) : Sem Value).run P w = .ok q w ∧ R z σ w out q := by
  have plain : ¬ (u = .nilIface ∧ v = .nilIface) → (∀ xs ys, ¬ (u = .agg xs ∧ v = .agg ys)) → (∃ q, (binOp op t u v).run P w = .ok q w ∧ R z σ w out q) →
      ∃ q, ((do eqGuard op t x y u v; binOp op t u v) : Sem Value).run P w = .ok q w ∧ R z σ w out q := by
    rintro g1 g2 ⟨q, hq, hr⟩
    exact ⟨q, by rw [run_bind_ok (eqGuard_plain g1 g2)]; exact hq, hr⟩
  unfold evBin at h
  split at h
  · obtain rfl := ha; obtain rfl := hb
    refine plain (by simp) (by simp) ?_
    split at h
    · exact bin_shift (.inl rfl) h z σ w
    · exact bin_shift (.inr rfl) h z σ w
    · rename_i h1 h2
      split at h
      · rename_i hk
        subst hk
        exact bin_int ⟨h1, h2⟩ h z σ w
      · cases h
  · obtain rfl := ha; obtain rfl := hb
    exact plain (by simp) (by simp) (bin_str h z σ w)
  · rename_i p q
    obtain rfl := ha; obtain rfl := hb
    refine plain (by simp) (by simp) ?_
    split at h
    · rename_i hu
      cases h
      exact ⟨.bool (p == q), by show ((do pure (.bool (← Op.equal t _ _))) : Sem Value).run P w = _; rw [run_bind_ok (eq_bool hu p q)]; rfl, rfl⟩
    · rename_i hu
      cases h
      refine ⟨.bool (!(p == q)), ?_, rfl⟩
      · show ((do pure (.bool (!(← Op.equal t _ _)))) : Sem Value).run P w = _
        rw [run_bind_ok (eq_bool hu p q)]
        rfl
    · cases h
  · obtain rfl := ha; obtain rfl := hb
    split at h
    · rename_i hc hu
      cases h
      exact ⟨.bool true, by rw [run_bind_ok (eqGuard_cst hc)]; show ((do pure (.bool (← Op.equal t _ _))) : Sem Value).run P w = _; rw [run_bind_ok (eq_nil_nil hu)]; rfl, rfl⟩
    · rename_i hc hu
      cases h
      exact ⟨.bool false, by rw [run_bind_ok (eqGuard_cst hc)]; show ((do pure (.bool (!(← Op.equal t _ _)))) : Sem Value).run P w = _; rw [run_bind_ok (eq_nil_nil hu)]; rfl, rfl⟩
    · cases h
  · obtain rfl := ha; obtain ⟨_, rfl, _⟩ := hb
    refine plain (by simp) (by simp) ?_
    split at h
    · rename_i hu
      cases h
      exact ⟨.bool false, by show ((do pure (.bool (← Op.equal t _ _))) : Sem Value).run P w = _; rw [run_bind_ok (eq_nil_iface hu _ _)]; rfl, rfl⟩
    · rename_i hu
      cases h
      exact ⟨.bool true, by show ((do pure (.bool (!(← Op.equal t _ _)))) : Sem Value).run P w = _; rw [run_bind_ok (eq_nil_iface hu _ _)]; rfl, rfl⟩
    · cases h
  · obtain ⟨_, rfl, _⟩ := ha; obtain rfl := hb
    refine plain (by simp) (by simp) ?_
    split at h
    · rename_i hu
      cases h
      exact ⟨.bool false, by show ((do pure (.bool (← Op.equal t _ _))) : Sem Value).run P w = _; rw [run_bind_ok (eq_iface_nil hu _ _)]; rfl, rfl⟩
    · rename_i hu
      cases h
      exact ⟨.bool true, by show ((do pure (.bool (!(← Op.equal t _ _)))) : Sem Value).run P w = _; rw [run_bind_ok (eq_iface_nil hu _ _)]; rfl, rfl⟩
    · cases h
  · obtain rfl := ha; obtain rfl := hb
    refine plain (by simp) (by simp) ?_
    split at h
    · rename_i hu
      cases h
      exact ⟨.bool true, by show ((do pure (.bool (← Op.equal t _ _))) : Sem Value).run P w = _; rw [run_bind_ok (eq_nil_ptr hu none)]; rfl, rfl⟩
    · rename_i hu
      cases h
      exact ⟨.bool false, by show ((do pure (.bool (!(← Op.equal t _ _)))) : Sem Value).run P w = _; rw [run_bind_ok (eq_nil_ptr hu none)]; rfl, rfl⟩
    · cases h
  · obtain rfl := ha; obtain ⟨_, _, _, _, rfl, _⟩ := hb
    refine plain (by simp) (by simp) ?_
    split at h
    · rename_i hu
      cases h
      exact ⟨.bool false, by show ((do pure (.bool (← Op.equal t _ _))) : Sem Value).run P w = _; rw [run_bind_ok (eq_nil_ptr hu (some _))]; rfl, rfl⟩
    · rename_i hu
      cases h
      exact ⟨.bool true, by show ((do pure (.bool (!(← Op.equal t _ _)))) : Sem Value).run P w = _; rw [run_bind_ok (eq_nil_ptr hu (some _))]; rfl, rfl⟩
    · cases h
  · obtain ⟨_, _, _, _, rfl, _⟩ := ha; obtain rfl := hb
    refine plain (by simp) (by simp) ?_
    split at h
    · rename_i hu
      cases h
      exact ⟨.bool false, by show ((do pure (.bool (← Op.equal t _ _))) : Sem Value).run P w = _; rw [run_bind_ok (eq_ptr_nil hu _)]; rfl, rfl⟩
    · rename_i hu
      cases h
      exact ⟨.bool true, by show ((do pure (.bool (!(← Op.equal t _ _)))) : Sem Value).run P w = _; rw [run_bind_ok (eq_ptr_nil hu _)]; rfl, rfl⟩
    · cases h
  · obtain rfl := ha; obtain ⟨_, rfl, _⟩ := hb
    refine plain (by simp) (by simp) ?_
    split at h
    · rename_i hu
      cases h
      exact ⟨.bool false, by show ((do pure (.bool (← Op.equal t _ _))) : Sem Value).run P w = _; rw [run_bind_ok (eq_nil_ptr hu (some _))]; rfl, rfl⟩
    · rename_i hu
      cases h
      exact ⟨.bool true, by show ((do pure (.bool (!(← Op.equal t _ _)))) : Sem Value).run P w = _; rw [run_bind_ok (eq_nil_ptr hu (some _))]; rfl, rfl⟩
    · cases h
  · obtain ⟨_, rfl, _⟩ := ha; obtain rfl := hb
    refine plain (by simp) (by simp) ?_
    split at h
    · rename_i hu
      cases h
      exact ⟨.bool false, by show ((do pure (.bool (← Op.equal t _ _))) : Sem Value).run P w = _; rw [run_bind_ok (eq_ptr_nil hu _)]; rfl, rfl⟩
    · rename_i hu
      cases h
      exact ⟨.bool true, by show ((do pure (.bool (!(← Op.equal t _ _)))) : Sem Value).run P w = _; rw [run_bind_ok (eq_ptr_nil hu _)]; rfl, rfl⟩
    · cases h
  · cases h

/-- What only reckons: the model does as `evP` says, in every world. -/
theorem evP_run {o : Oper} {out : AV} (hρ : ∀ x ∈ o.op.operands, ∀ a, es x = some a → R z σ w a (ρ x)) (h : evP P o.op es = some out) :
    ∃ v, (execOp ρ o).run P w = .ok (.value v) w ∧ R z σ w out v := by
  obtain ⟨dst, op, type, pos, after, guard⟩ := o
  have lift : ∀ {s : Sem Value}, (∃ v, s.run P w = .ok v w ∧ R z σ w out v) → ∃ v, ((do pure (.value (← s))) : Sem Next).run P w = .ok (.value v) w ∧ R z σ w out v := by
    rintro s ⟨v, hv, hr⟩
    exact ⟨v, by rw [run_bind_ok hv]; rfl, hr⟩
  simp only at hρ h
  unfold evP at h
  cases op
  case move x => exact ⟨_, rfl, hρ x (by simp [Op.operands]) _ h⟩
  case assign x => exact ⟨_, rfl, hρ x (by simp [Op.operands]) _ h⟩
  case pick c a b =>
    simp only at h
    split at h
    · rename_i hc
      have e : ρ c = .bool true := hρ c (by simp [Op.operands]) _ hc
      exact ⟨ρ a, by simp only [execOp, e]; rfl, hρ a (by simp [Op.operands]) _ h⟩
    · rename_i hc
      have e : ρ c = .bool false := hρ c (by simp [Op.operands]) _ hc
      exact ⟨ρ b, by simp only [execOp, e]; rfl, hρ b (by simp [Op.operands]) _ h⟩
    · cases h
  case binOp op t x y yt =>
    simp only at h
    split at h
    · rename_i a b hx hy
      exact lift (bin_run (hρ x (by simp [Op.operands]) _ hx) (hρ y (by simp [Op.operands]) _ hy) h)
    · cases h
  case unOp op t x =>
    simp only at h
    split at h
    · rename_i a hx
      exact lift (un_run (hρ x (by simp [Op.operands]) _ hx) h)
    · cases h
  case convert s d x =>
    simp only at h
    split at h
    · rename_i a hx
      exact lift (conv_run (hρ x (by simp [Op.operands]) _ hx) h)
    · cases h
  case makeInterface t x =>
    simp only at h
    split at h
    · rename_i a d hx hu
      refine lift ⟨.iface t (ρ x), ?_, ?_⟩
      · unfold Instr.makeInterface
        rw [run_bind_ok (under_run hu w)]
        split at h
        · cases h
        · rename_i hno
          cases d <;> first | rfl | exact (hno _ rfl).elim
      · split at h
        · cases h
        · cases h
          exact ⟨_, rfl, hρ x (by simp [Op.operands]) _ hx⟩
    · cases h
  case makeFunc fn first cap =>
    simp only at h
    split at h
    · rename_i a b hx hy
      cases h
      refine lift ⟨.func fn (first.map ρ) (cap.map ρ), rfl, _, _, rfl, ?_, ?_⟩
      · rw [Array.toList_map]
        exact evL_R (fun x hx => hρ x (by simp [Op.operands]; exact .inl (by simpa using hx))) hx
      · rw [Array.toList_map]
        exact evL_R (fun x hx => hρ x (by simp [Op.operands]; exact .inr (by simpa using hx))) hy
    · cases h
  case extract x i =>
    simp only at h
    split at h
    · rename_i vs hx
      obtain ⟨us, e, hl⟩ := hρ x (by simp [Op.operands]) _ hx
      obtain ⟨v, hv, hr⟩ := hl.get _ _ h
      have hv' : us[i]? = some v := by simpa using hv
      refine lift ⟨v, ?_, hr⟩
      rw [e]
      simp only [Instr.extract, hv']
      rfl
    · cases h
  case typeAssert x xt T ok =>
    simp only at h
    split at h
    · rename_i a hx
      exact lift (assert_run (hρ x (by simp [Op.operands]) _ hx) h)
    · cases h
  case nilCheck x =>
    simp only at h
    split at h
    · rename_i a b c d hx
      have hr := hρ x (by simp [Op.operands]) _ hx
      cases h
      have hr' := hr
      obtain ⟨_, _, _, _, e, _⟩ := hr'
      exact ⟨ρ x, by simp only [execOp, e]; rfl, hr⟩
    · rename_i cs hx
      have hr := hρ x (by simp [Op.operands]) _ hx
      cases h
      have hr' := hr
      obtain ⟨_, e, _⟩ := hr'
      exact ⟨ρ x, by simp only [execOp, e]; rfl, hr⟩
    · rename_i f a b hx
      have hr := hρ x (by simp [Op.operands]) _ hx
      cases h
      have hr' := hr
      obtain ⟨_, _, e, _⟩ := hr'
      exact ⟨ρ x, by simp only [execOp, e]; rfl, hr⟩
    · cases h
  case slice t x lo hi mx =>
    simp only at h
    split at h
    · rename_i a hx
      refine lift (slice_run (hρ x (by simp [Op.operands]) _ hx) (fun y hy => hρ y ?_) h)
      rcases hy with rfl | rfl | rfl <;> simp [Op.operands]
    · cases h
  case fieldAddr t x f =>
    simp only at h
    split at h
    · rename_i a hx
      exact lift (fieldAt_run (hρ x (by simp [Op.operands]) _ hx) h)
    · cases h
  case field t x f =>
    simp only at h
    split at h
    · rename_i a hx
      exact lift (field_run (hρ x (by simp [Op.operands]) _ hx) h)
    · cases h
  case indexAddr t x i =>
    simp only at h
    split at h
    · rename_i a b hx hi
      exact lift (indexAt_run (hρ x (by simp [Op.operands]) _ hx) (hρ i (by simp [Op.operands]) _ hi) h)
    · cases h
  case index t x i =>
    simp only at h
    split at h
    · rename_i a b hx hi
      exact lift (index_run (hρ x (by simp [Op.operands]) _ hx) (hρ i (by simp [Op.operands]) _ hi) h)
    · cases h
  case build t parts =>
    simp only at h
    refine lift (build_run (fun p hp => hρ p.2 ?_) h)
    simp only [Op.operands]
    simp
    exact ⟨p.1, by simpa using hp⟩
  case call c =>
    obtain ⟨callee, args, argTypes⟩ := c
    simp only at h
    cases callee
    case builtin b =>
      simp only at h
      split at h
      · rename_i as has
        have hl : RL z σ w as (args.toList.map ρ) := evL_R (fun x hx => hρ x (by simp [Op.operands, Call.operands]; simpa using hx)) has
        have hargs : (args.map ρ).toList = args.toList.map ρ := by simp
        unfold evBuiltin at h
        split at h
        · rename_i x
          split at h
          · rename_i t ts hts
            obtain ⟨u, us, e, hx, hn⟩ := hl
            rw [show us = [] from hn] at e
            obtain ⟨q, hq, hr⟩ := len_run (ts := argTypes) (t := t) (ty := type) (by rw [← Array.getElem?_toList, hts]; rfl) hx h
            refine ⟨q, ?_, hr⟩
            have ea : args.map ρ = #[u] := by apply Array.ext'; rw [hargs, e]
            simp only [execOp, resolve, ea]
            rw [run_bind_ok (run_pure' P _ w)]
            simp only [invoke, builtin]
            rw [run_bind_ok hq]
            rfl
          · cases h
        · rename_i x xs
          obtain ⟨u, us, e, hx, hn⟩ := hl
          obtain ⟨q, hq, hr⟩ := fold_run (P := P) (g := Builtin.max2) (fun ha hb hc => max2_run ha hb hc) hx hn h
          refine ⟨q, ?_, hr⟩
          have ea : args.map ρ = (u :: us).toArray := by apply Array.ext'; rw [hargs, e]
          simp only [execOp, resolve, ea]
          rw [run_bind_ok (run_pure' P _ w)]
          simp only [invoke, builtin]
          rw [run_bind_ok (show (Builtin.max_ argTypes type (u :: us).toArray).run P w = _ from hq)]
          rfl
        · rename_i x xs
          obtain ⟨u, us, e, hx, hn⟩ := hl
          obtain ⟨q, hq, hr⟩ := fold_run (P := P) (g := Builtin.min2) (fun ha hb hc => min2_run ha hb hc) hx hn h
          refine ⟨q, ?_, hr⟩
          have ea : args.map ρ = (u :: us).toArray := by apply Array.ext'; rw [hargs, e]
          simp only [execOp, resolve, ea]
          rw [run_bind_ok (run_pure' P _ w)]
          simp only [invoke, builtin]
          rw [run_bind_ok (show (Builtin.min_ argTypes type (u :: us).toArray).run P w = _ from hq)]
          rfl
        · rename_i x
          obtain ⟨u, us, e, hx, hn⟩ := hl
          rw [show us = [] from hn] at e
          have ea : args.map ρ = #[u] := by apply Array.ext'; rw [hargs, e]
          have hq : ∃ q, (Builtin.unsafeSliceData_ argTypes type #[u]).run P w = .ok q w ∧ R z σ w out q := by
            unfold evSlDat at h
            split at h
            · cases h
              obtain rfl := hx
              exact ⟨_, rfl, rfl⟩
            · split at h
              · rename_i hlen
                cases h
                obtain ⟨o, ho, hsz, hle, a, c, rfl, hlc, h1, h2⟩ := hx
                rcases h2 with h2 | ⟨ad, rfl, had⟩
                · omega
                · obtain ⟨k, rfl⟩ : ∃ k, c = k + 1 := ⟨c - 1, by omega⟩
                  exact ⟨.pointer (some ad), rfl, o, ho, hle, ad, rfl, fun hh => by rw [had hh, hsz, Nat.add_zero]⟩
              · cases h
            · cases h
          obtain ⟨q, hq, hr⟩ := hq
          refine ⟨q, ?_, hr⟩
          simp only [execOp, resolve, ea]
          rw [run_bind_ok (run_pure' P _ w)]
          simp only [invoke, builtin]
          rw [run_bind_ok hq]
          rfl
        · cases h
      · cases h
    all_goals cases h
  all_goals cases h

end
end Go.Abs
end
section
/- New memory and writes: what stays, what holds. -/
namespace Go.Abs
section
variable {P : Program} {z : Cz} {σ : AH} {w : World}

def upd (f : Nat → Nat) (i v : Nat) : Nat → Nat := fun j => if j = i then v else f j
theorem upd_self (f : Nat → Nat) (i v : Nat) : upd f i v i = v := if_pos rfl
theorem upd_ne (f : Nat → Nat) {i j : Nat} (v : Nat) (h : j ≠ i) : upd f i v j = f j := if_neg h

/-- A world with one block more. -/
def moreO (w : World) (ob : Obj) : World := { w with heap := w.heap.push ob }
abbrev more (w : World) (c : Array Value) (T : TypeId) : World := moreO w (.cells c T)
theorem moreO_old (w : World) (ob : Obj) {b : Nat} (h : b < w.heap.size) : (moreO w ob).heap[b]? = w.heap[b]? := by
  simp only [moreO, Array.getElem?_push]; rw [if_neg (by omega)]
theorem moreO_new (w : World) (ob : Obj) : (moreO w ob).heap[w.heap.size]? = some ob := by
  show (w.heap.push ob)[w.heap.size]? = _
  rw [Array.getElem?_push, if_pos rfl]
theorem moreO_size (w : World) (ob : Obj) : (moreO w ob).heap.size = w.heap.size + 1 := by simp [moreO]
theorem more_old (w : World) (c : Array Value) (T : TypeId) {b : Nat} (h : b < w.heap.size) : (more w c T).heap[b]? = w.heap[b]? := moreO_old w _ h
theorem more_new (w : World) (c : Array Value) (T : TypeId) : (more w c T).heap[w.heap.size]? = some (.cells c T (0, 0)) := moreO_new w _
theorem more_size (w : World) (c : Array Value) (T : TypeId) : (more w c T).heap.size = w.heap.size + 1 := moreO_size w _
theorem cell_of {w : World} {b : Nat} {c : Array Value} {T : TypeId} {fr : Nat × Nat} (h : w.heap[b]? = some (.cells c T fr)) {o : Nat} {v : Value} (hv : c[o]? = some v) : w.cell? ⟨b, o, none⟩ = some v := by
  simp only [World.cell?, h, Option.isSome_none, Bool.false_eq_true, if_false]
  exact hv
theorem CellsAt.take {b o : Nat} {vs : List Value} (h : CellsAt w b o vs) (n : Nat) : CellsAt w b o (vs.take n) := by
  intro j v hv
  rw [List.getElem?_take] at hv
  split at hv
  · exact h j v hv
  · cases hv
theorem CellsAt.drop {b o : Nat} {vs : List Value} (h : CellsAt w b o vs) (n : Nat) : CellsAt w b (o + n) (vs.drop n) := by
  intro j v hv
  rw [List.getElem?_drop] at hv
  rw [Nat.add_assoc]
  exact h _ v hv

theorem Inv.lt (hI : Inv z σ w) {i : Nat} (hi : i < σ.length) (hk : z.κ i ≠ 0) : z.φ i < w.heap.size := by
  obtain ⟨_, _, h, _⟩ := hI.row i σ[i] (List.getElem?_eq_getElem hi)
  obtain ⟨_, hb⟩ := Kd.at_some (h hk)
  exact (Array.getElem?_eq_some_iff.1 hb).1

/-- New memory that is never written again. -/
def zF (z : Cz) (w : World) : Cz := ⟨fun b => z.N b ∨ b = w.heap.size, z.φ, z.κ⟩
theorem extFb (z : Cz) (σ : AH) (w : World) (hI : Inv z σ w) (ob : Obj) : Ext z σ w (zF z w) σ (moreO w ob) where
  N := fun _ h => .inl h
  keep := fun b hb => moreO_old w ob (hI.old b hb)
  row := fun _ o h => ⟨o, h, rfl, Nat.le_refl _, fun _ => ⟨rfl, rfl⟩⟩
  size := by rw [moreO_size]; omega
  frame := fun b hb _ => moreO_old w ob hb
  news := fun id hid hk => .inl ⟨hid, hk, rfl⟩
  newN := fun b hb => hb.imp (fun h => h) fun h => .inl (by omega)
  os := rfl
  tape := rfl
  output := rfl
theorem invFb (hI : Inv z σ w) (ob : Obj) : Inv (zF z w) σ (moreO w ob) where
  row := fun id o ho => by
    obtain ⟨h1, h2, h3, h4⟩ := hI.row id o ho
    have hid : id < σ.length := (List.getElem?_eq_some_iff.1 ho).1
    have hb : z.κ id ≠ 0 → (moreO w ob).heap[z.φ id]? = w.heap[z.φ id]? := fun hk => moreO_old w ob (hI.lt hid hk)
    refine ⟨h1, h2, fun hk => ?_, ?_⟩
    · show o.kd.At (moreO w ob).heap[z.φ id]? (z.κ id * o.sz)
      rw [hb hk]; exact h3 hk
    · by_cases hk : z.κ id = 0
      · have : o.xs = [] := List.eq_nil_of_length_eq_zero (by omega)
        rw [this]; trivial
      · exact RSl.mono (extFb z σ w hI ob) (hb hk) _ _ h4
  inj := hI.inj
  apart := fun i hi hk h => h.elim (hI.apart i hi hk) fun e => by
    have hk' : z.κ i ≠ 0 := hk
    have e' : z.φ i = w.heap.size := e
    have := hI.lt hi hk'
    omega
  old := fun b hb => by
    rw [moreO_size]
    exact hb.elim (fun h => Nat.lt_succ_of_lt (hI.old b h)) fun h => by omega

theorem extF (z : Cz) (σ : AH) (w : World) (hI : Inv z σ w) (c : Array Value) (T : TypeId) : Ext z σ w (zF z w) σ (more w c T) := extFb z σ w hI _
theorem invF (hI : Inv z σ w) (c : Array Value) (T : TypeId) : Inv (zF z w) σ (more w c T) := invFb hI _

/-- New memory that is held: the row's place is the end of the list. -/
def zO (z : Cz) (σ : AH) (w : World) (cap : Nat) : Cz := ⟨z.N, upd z.φ σ.length w.heap.size, upd z.κ σ.length cap⟩
theorem extOb (z : Cz) (σ : AH) (w : World) (hI : Inv z σ w) (ob : Obj) (o : ARow) (cap : Nat) : Ext z σ w (zO z σ w cap) (σ ++ [o]) (moreO w ob) where
  N := fun _ h => h
  keep := fun b hb => moreO_old w ob (hI.old b hb)
  row := fun id o' h => by
    have hid : id < σ.length := (List.getElem?_eq_some_iff.1 h).1
    exact ⟨o', by rw [List.getElem?_append_left hid]; exact h, rfl, Nat.le_refl _, fun _ => ⟨upd_ne _ _ (by omega), upd_ne _ _ (by omega)⟩⟩
  size := by rw [moreO_size]; omega
  frame := fun b hb _ => moreO_old w ob hb
  news := fun id hid hk => by
    by_cases he : id = σ.length
    · subst he; exact .inr (by rw [show (zO z σ w cap).φ = upd z.φ σ.length w.heap.size from rfl, upd_self]; omega)
    · have hk' : upd z.κ σ.length cap id ≠ 0 := hk
      rw [upd_ne _ _ he] at hk'
      exact .inl ⟨by simp at hid; omega, hk', upd_ne _ _ he⟩
  newN := fun _ h => .inl h
  os := rfl
  tape := rfl
  output := rfl
theorem invOb (hI : Inv z σ w) (ob : Obj) (o : ARow) (cap : Nat) (h1 : o.xs.length ≤ o.hw) (h2 : o.hw ≤ cap) (h3 : o.kd.At (some ob) (cap * o.sz))
    (h4 : RSl (zO z σ w cap) (σ ++ [o]) (moreO w ob) w.heap.size o.sz 0 o.xs) : Inv (zO z σ w cap) (σ ++ [o]) (moreO w ob) where
  row := fun id o' ho => by
    by_cases he : id = σ.length
    · subst he
      rw [List.getElem?_append_right (Nat.le_refl _), Nat.sub_self] at ho
      cases ho
      have e1 : (zO z σ w cap).κ σ.length = cap := upd_self _ _ _
      have e2 : (zO z σ w cap).φ σ.length = w.heap.size := upd_self _ _ _
      rw [e1, e2]
      exact ⟨h1, h2, fun _ => by rw [moreO_new w ob]; exact h3, h4⟩
    · have hid : id < σ.length := by
        have := (List.getElem?_eq_some_iff.1 ho).1
        simp at this; omega
      rw [List.getElem?_append_left hid] at ho
      have e1 : (zO z σ w cap).κ id = z.κ id := upd_ne _ _ he
      have e2 : (zO z σ w cap).φ id = z.φ id := upd_ne _ _ he
      rw [e1, e2]
      obtain ⟨g1, g2, g3, g4⟩ := hI.row id o' ho
      have hb : z.κ id ≠ 0 → (moreO w ob).heap[z.φ id]? = w.heap[z.φ id]? := fun hk => moreO_old w ob (hI.lt hid hk)
      refine ⟨g1, g2, fun hk => ?_, ?_⟩
      · rw [hb hk]; exact g3 hk
      · by_cases hk : z.κ id = 0
        · have : o'.xs = [] := List.eq_nil_of_length_eq_zero (by omega)
          rw [this]; trivial
        · exact RSl.mono (extOb z σ w hI ob o cap) (hb hk) _ _ g4
  inj := fun i j hi hj hki hkj he => by
    have hi' : i < σ.length ∨ i = σ.length := by simp at hi; omega
    have hj' : j < σ.length ∨ j = σ.length := by simp at hj; omega
    have F : ∀ i, i ≠ σ.length → (zO z σ w cap).φ i = z.φ i ∧ (zO z σ w cap).κ i = z.κ i := fun i hi => ⟨upd_ne _ _ hi, upd_ne _ _ hi⟩
    have G : (zO z σ w cap).φ σ.length = w.heap.size := upd_self _ _ _
    rcases hi' with hi' | rfl <;> rcases hj' with hj' | rfl
    · rw [(F i (by omega)).1, (F j (by omega)).1] at he
      rw [(F i (by omega)).2] at hki
      rw [(F j (by omega)).2] at hkj
      exact hI.inj i j hi' hj' hki hkj he
    · rw [(F i (by omega)).1, G] at he
      rw [(F i (by omega)).2] at hki
      have := hI.lt hi' hki
      omega
    · rw [(F j (by omega)).1, G] at he
      rw [(F j (by omega)).2] at hkj
      have := hI.lt hj' hkj
      omega
    · rfl
  apart := fun i hi hk h => by
    have hN : z.N ((zO z σ w cap).φ i) := h
    by_cases he : i = σ.length
    · subst he
      rw [show (zO z σ w cap).φ σ.length = w.heap.size from upd_self _ _ _] at hN
      have := hI.old _ hN
      omega
    · rw [show (zO z σ w cap).φ i = z.φ i from upd_ne _ _ he] at hN
      have hk' : z.κ i ≠ 0 := by rw [← show (zO z σ w cap).κ i = z.κ i from upd_ne _ _ he]; exact hk
      exact hI.apart i (by simp at hi; omega) hk' hN
  old := fun b hb => by rw [moreO_size]; exact Nat.lt_succ_of_lt (hI.old b hb)

theorem extO (z : Cz) (σ : AH) (w : World) (hI : Inv z σ w) (c : Array Value) (T : TypeId) (o : ARow) (cap : Nat) : Ext z σ w (zO z σ w cap) (σ ++ [o]) (more w c T) := extOb z σ w hI _ o cap
theorem invO (hI : Inv z σ w) (c : Array Value) (T : TypeId) (o : ARow) (cap : Nat) (h1 : o.xs.length ≤ o.hw) (h2 : o.hw ≤ cap) (h3 : c.size = cap * o.sz) (hT : o.kd.ok T (0, 0)) (hk : o.kd.open = true)
    (h4 : RSl (zO z σ w cap) (σ ++ [o]) (more w c T) w.heap.size o.sz 0 o.xs) : Inv (zO z σ w cap) (σ ++ [o]) (more w c T) := invOb hI _ o cap h1 h2 (Kd.at_cells hT h3 hk) h4

/-- A row without a block: what a nil slice will grow into. -/
def zG (z : Cz) (σ : AH) : Cz := ⟨z.N, z.φ, upd z.κ σ.length 0⟩
theorem extG (z : Cz) (σ : AH) (w : World) (e : TypeId) (sz : Nat) : Ext z σ w (zG z σ) (σ ++ [arow e sz 0 []]) w where
  N := fun _ h => h
  keep := fun _ _ => rfl
  row := fun id o' h => by
    have hid : id < σ.length := (List.getElem?_eq_some_iff.1 h).1
    exact ⟨o', by rw [List.getElem?_append_left hid]; exact h, rfl, Nat.le_refl _, fun _ => ⟨rfl, upd_ne _ _ (by omega)⟩⟩
  size := Nat.le_refl _
  frame := fun _ _ _ => rfl
  news := fun id hid hk => by
    by_cases he : id = σ.length
    · subst he; exact absurd (upd_self _ _ _) hk
    · have hk' : upd z.κ σ.length 0 id ≠ 0 := hk
      rw [upd_ne _ _ he] at hk'
      exact .inl ⟨by simp at hid; omega, hk', rfl⟩
  newN := fun _ h => .inl h
  os := rfl
  tape := rfl
  output := rfl
theorem invG (hI : Inv z σ w) (e : TypeId) (sz : Nat) : Inv (zG z σ) (σ ++ [arow e sz 0 []]) w where
  row := fun id o' ho => by
    by_cases he : id = σ.length
    · subst he
      rw [List.getElem?_append_right (Nat.le_refl _), Nat.sub_self] at ho
      cases ho
      exact ⟨Nat.le_refl _, Nat.zero_le _, fun h => absurd (upd_self _ _ _) h, trivial⟩
    · have hid : id < σ.length := by
        have := (List.getElem?_eq_some_iff.1 ho).1
        simp at this; omega
      rw [List.getElem?_append_left hid] at ho
      have e1 : (zG z σ).κ id = z.κ id := upd_ne _ _ he
      rw [e1]
      obtain ⟨g1, g2, g3, g4⟩ := hI.row id o' ho
      exact ⟨g1, g2, g3, RSl.mono (extG z σ w e sz) rfl _ _ g4⟩
  inj := fun i j hi hj hki hkj he => by
    have F : ∀ i, i < (σ ++ [arow e sz 0 []]).length → (zG z σ).κ i ≠ 0 → i < σ.length ∧ z.κ i ≠ 0 := fun i hi hk => by
      by_cases he : i = σ.length
      · subst he; exact absurd (upd_self _ _ _) hk
      · have hk' : upd z.κ σ.length 0 i ≠ 0 := hk
        rw [upd_ne _ _ he] at hk'
        exact ⟨by simp at hi; omega, hk'⟩
    exact hI.inj i j (F i hi hki).1 (F j hj hkj).1 (F i hi hki).2 (F j hj hkj).2 he
  apart := fun i hi hk => by
    have F : i < σ.length ∧ z.κ i ≠ 0 := by
      by_cases he : i = σ.length
      · subst he; exact absurd (upd_self _ _ _) hk
      · have hk' : upd z.κ σ.length 0 i ≠ 0 := hk
        rw [upd_ne _ _ he] at hk'
        exact ⟨by simp at hi; omega, hk'⟩
    exact hI.apart i F.1 F.2
  old := hI.old

/-- A row's block, written. -/
def wroteO (w : World) (b : Nat) (ob : Obj) : World := { w with heap := w.heap.setIfInBounds b ob }
abbrev wrote (w : World) (b : Nat) (c : Array Value) (T : TypeId) : World := wroteO w b (.cells c T)
theorem wroteO_ne (w : World) {b b' : Nat} (ob : Obj) (h : b' ≠ b) : (wroteO w b ob).heap[b']? = w.heap[b']? := by
  simp only [wroteO]
  rw [Array.getElem?_setIfInBounds_ne (Ne.symm h)]
theorem wroteO_self (w : World) {b : Nat} (ob : Obj) (h : b < w.heap.size) : (wroteO w b ob).heap[b]? = some ob := by
  simp [wroteO, h]
theorem wroteO_size (w : World) (b : Nat) (ob : Obj) : (wroteO w b ob).heap.size = w.heap.size := by simp [wroteO]
theorem wrote_ne (w : World) {b b' : Nat} (c : Array Value) (T : TypeId) (h : b' ≠ b) : (wrote w b c T).heap[b']? = w.heap[b']? := wroteO_ne w _ h
theorem wrote_self (w : World) {b : Nat} (c : Array Value) (T : TypeId) (h : b < w.heap.size) : (wrote w b c T).heap[b]? = some (.cells c T (0, 0)) := wroteO_self w _ h
theorem wrote_size (w : World) (b : Nat) (c : Array Value) (T : TypeId) : (wrote w b c T).heap.size = w.heap.size := wroteO_size w b _
theorem extWb (hI : Inv z σ w) {id : Nat} {o o' : ARow} (ho : σ[id]? = some o) (hk : z.κ id ≠ 0) (hs : o'.sz = o.sz) (hh : o.hw ≤ o'.hw) (ob : Obj) :
    Ext z σ w z (σ.set id o') (wroteO w (z.φ id) ob) where
  N := fun _ h => h
  keep := fun b hb => wroteO_ne w ob fun e => hI.apart id (List.getElem?_eq_some_iff.1 ho).1 hk (e ▸ hb)
  row := fun j oj hj => by
    by_cases he : j = id
    · subst he
      rw [ho] at hj
      cases hj
      exact ⟨o', by simp [(List.getElem?_eq_some_iff.1 ho).1], hs, hh, fun _ => ⟨rfl, rfl⟩⟩
    · exact ⟨oj, by rw [List.getElem?_set_ne (Ne.symm he)]; exact hj, rfl, Nat.le_refl _, fun _ => ⟨rfl, rfl⟩⟩
  size := by rw [wroteO_size]; omega
  frame := fun b _ hno => wroteO_ne w ob fun e => hno id (List.getElem?_eq_some_iff.1 ho).1 hk e.symm
  news := fun j hj hkj => .inl ⟨by simpa using hj, hkj, rfl⟩
  newN := fun _ h => .inl h
  os := rfl
  tape := rfl
  output := rfl
theorem invWb (hI : Inv z σ w) {id : Nat} {o o' : ARow} (ho : σ[id]? = some o) (hk : z.κ id ≠ 0) (hs : o'.sz = o.sz) (hh : o.hw ≤ o'.hw) (ob : Obj)
    (h1 : o'.xs.length ≤ o'.hw) (h2 : o'.hw ≤ z.κ id) (h3 : o'.kd.At (some ob) (z.κ id * o.sz))
    (h4 : RSl z (σ.set id o') (wroteO w (z.φ id) ob) (z.φ id) o'.sz 0 o'.xs) : Inv z (σ.set id o') (wroteO w (z.φ id) ob) where
  row := fun j oj hj => by
    have hid := (List.getElem?_eq_some_iff.1 ho).1
    by_cases he : j = id
    · subst he
      rw [List.getElem?_set_self hid] at hj
      cases hj
      exact ⟨h1, h2, fun _ => by rw [wroteO_self w ob (hI.lt hid hk), hs]; exact h3, h4⟩
    · rw [List.getElem?_set_ne (Ne.symm he)] at hj
      obtain ⟨g1, g2, g3, g4⟩ := hI.row j oj hj
      have hjd := (List.getElem?_eq_some_iff.1 hj).1
      have hb : z.κ j ≠ 0 → (wroteO w (z.φ id) ob).heap[z.φ j]? = w.heap[z.φ j]? := fun hkj => wroteO_ne w ob fun e => he (hI.inj j id hjd hid hkj hk e)
      refine ⟨g1, g2, fun hkj => ?_, ?_⟩
      · rw [hb hkj]; exact g3 hkj
      · by_cases hkj : z.κ j = 0
        · have : oj.xs = [] := List.eq_nil_of_length_eq_zero (by omega)
          rw [this]; trivial
        · exact RSl.mono (extWb hI ho hk hs hh ob) (hb hkj) _ _ g4
  inj := fun i j hi hj => hI.inj i j (by simpa using hi) (by simpa using hj)
  apart := fun i hi => hI.apart i (by simpa using hi)
  old := fun b hb => by rw [wroteO_size]; exact hI.old b hb

theorem extW (hI : Inv z σ w) {id : Nat} {o o' : ARow} (ho : σ[id]? = some o) (hk : z.κ id ≠ 0) (hs : o'.sz = o.sz) (hh : o.hw ≤ o'.hw) (c : Array Value) (T : TypeId) :
    Ext z σ w z (σ.set id o') (wrote w (z.φ id) c T) := extWb hI ho hk hs hh _
theorem invW (hI : Inv z σ w) {id : Nat} {o o' : ARow} (ho : σ[id]? = some o) (hk : z.κ id ≠ 0) (hs : o'.sz = o.sz) (hh : o.hw ≤ o'.hw) (c : Array Value) (T : TypeId)
    (h1 : o'.xs.length ≤ o'.hw) (h2 : o'.hw ≤ z.κ id) (h3 : c.size = z.κ id * o.sz) (hT : o'.kd.ok T (0, 0)) (hop : o'.kd.open = true)
    (h4 : RSl z (σ.set id o') (wrote w (z.φ id) c T) (z.φ id) o'.sz 0 o'.xs) : Inv z (σ.set id o') (wrote w (z.φ id) c T) := invWb hI ho hk hs hh _ h1 h2 (Kd.at_cells hT h3 hop) h4

/-- A row that moves into a new block. -/
def zM (z : Cz) (w : World) (id cap : Nat) : Cz := ⟨z.N, upd z.φ id w.heap.size, upd z.κ id cap⟩
theorem extM (hI : Inv z σ w) {id : Nat} {o o' : ARow} (ho : σ[id]? = some o) (hs : o'.sz = o.sz) (hh : o.hw < o'.hw) (c : Array Value) (T : TypeId) (cap : Nat) :
    Ext z σ w (zM z w id cap) (σ.set id o') (more w c T) where
  N := fun _ h => h
  keep := fun b hb => more_old w c T (hI.old b hb)
  row := fun j oj hj => by
    by_cases he : j = id
    · subst he
      rw [ho] at hj
      cases hj
      exact ⟨o', by simp [(List.getElem?_eq_some_iff.1 ho).1], hs, Nat.le_of_lt hh, fun e => by omega⟩
    · exact ⟨oj, by rw [List.getElem?_set_ne (Ne.symm he)]; exact hj, rfl, Nat.le_refl _, fun _ => ⟨upd_ne _ _ he, upd_ne _ _ he⟩⟩
  size := by rw [more_size]; omega
  frame := fun b hb _ => more_old w c T hb
  news := fun j hj hkj => by
    by_cases he : j = id
    · subst he; exact .inr (by rw [show (zM z w j cap).φ j = w.heap.size from upd_self _ _ _]; omega)
    · have hk' : upd z.κ id cap j ≠ 0 := hkj
      rw [upd_ne _ _ he] at hk'
      exact .inl ⟨by simpa using hj, hk', upd_ne _ _ he⟩
  newN := fun _ h => .inl h
  os := rfl
  tape := rfl
  output := rfl
theorem invM (hI : Inv z σ w) {id : Nat} {o o' : ARow} (ho : σ[id]? = some o) (hs : o'.sz = o.sz) (hh : o.hw < o'.hw) (c : Array Value) (T : TypeId) (cap : Nat)
    (h1 : o'.xs.length ≤ o'.hw) (h2 : o'.hw ≤ cap) (h3 : c.size = cap * o.sz) (hT : o'.kd.ok T (0, 0)) (hop : o'.kd.open = true)
    (h4 : RSl (zM z w id cap) (σ.set id o') (more w c T) w.heap.size o'.sz 0 o'.xs) : Inv (zM z w id cap) (σ.set id o') (more w c T) where
  row := fun j oj hj => by
    have hid := (List.getElem?_eq_some_iff.1 ho).1
    by_cases he : j = id
    · subst he
      rw [List.getElem?_set_self hid] at hj
      cases hj
      rw [show (zM z w j cap).φ j = w.heap.size from upd_self _ _ _, show (zM z w j cap).κ j = cap from upd_self _ _ _]
      exact ⟨h1, h2, fun _ => by rw [more_new w c T]; exact Kd.at_cells hT (by rw [hs]; exact h3) hop, h4⟩
    · rw [List.getElem?_set_ne (Ne.symm he)] at hj
      rw [show (zM z w id cap).φ j = z.φ j from upd_ne _ _ he, show (zM z w id cap).κ j = z.κ j from upd_ne _ _ he]
      obtain ⟨g1, g2, g3, g4⟩ := hI.row j oj hj
      have hjd := (List.getElem?_eq_some_iff.1 hj).1
      have hb : z.κ j ≠ 0 → (more w c T).heap[z.φ j]? = w.heap[z.φ j]? := fun hkj => more_old w c T (hI.lt hjd hkj)
      refine ⟨g1, g2, fun hkj => ?_, ?_⟩
      · rw [hb hkj]; exact g3 hkj
      · by_cases hkj : z.κ j = 0
        · have : oj.xs = [] := List.eq_nil_of_length_eq_zero (by omega)
          rw [this]; trivial
        · exact RSl.mono (extM hI ho hs hh c T cap) (hb hkj) _ _ g4
  inj := fun i j hi hj hki hkj he => by
    have F : ∀ i, i ≠ id → (zM z w id cap).φ i = z.φ i ∧ (zM z w id cap).κ i = z.κ i := fun i hi => ⟨upd_ne _ _ hi, upd_ne _ _ hi⟩
    have G : (zM z w id cap).φ id = w.heap.size := upd_self _ _ _
    have hi' : i < σ.length := by simpa using hi
    have hj' : j < σ.length := by simpa using hj
    by_cases h1 : i = id <;> by_cases h2 : j = id
    · omega
    · subst h1
      rw [(F j h2).1, G] at he
      rw [(F j h2).2] at hkj
      have := hI.lt hj' hkj
      omega
    · subst h2
      rw [(F i h1).1, G] at he
      rw [(F i h1).2] at hki
      have := hI.lt hi' hki
      omega
    · rw [(F i h1).1, (F j h2).1] at he
      rw [(F i h1).2] at hki
      rw [(F j h2).2] at hkj
      exact hI.inj i j hi' hj' hki hkj he
  apart := fun i hi hk h => by
    have hi' : i < σ.length := by simpa using hi
    have hN : z.N ((zM z w id cap).φ i) := h
    by_cases he : i = id
    · subst he
      rw [show (zM z w i cap).φ i = w.heap.size from upd_self _ _ _] at hN
      have := hI.old _ hN
      omega
    · rw [show (zM z w id cap).φ i = z.φ i from upd_ne _ _ he] at hN
      have hk' : z.κ i ≠ 0 := by rw [← show (zM z w id cap).κ i = z.κ i from upd_ne _ _ he]; exact hk
      exact hI.apart i hi' hk' hN
  old := fun b hb => by rw [more_size]; exact Nat.lt_succ_of_lt (hI.old b hb)

end
end Go.Abs
end
section
/- Operations that load, store and make memory. -/
namespace Go.Abs

def okA : AV → Bool
  | .agg _ | .tuple _ => false
  | _ => true

theorem okV_of {z : Cz} {σ : AH} {w : World} {x : AV} {v : Value} (h : R z σ w x v) (hx : okA x = true) : okV v = true := by
  cases x
  case agg cs => cases hx
  case tuple cs => cases hx
  case bool b => obtain rfl := h; rfl
  case int k n => obtain rfl := h; rfl
  case str s => obtain rfl := h; rfl
  case nilsl => obtain rfl := h; rfl
  case nilptr => obtain rfl := h; rfl
  case nilIface => obtain rfl := h; rfl
  case nilFunc => obtain rfl := h; rfl
  case zsl => obtain ⟨a, rfl⟩ := h; rfl
  case sl sz xs => obtain ⟨a, c, rfl, _⟩ := h; rfl
  case own => obtain ⟨_, _, _, _, a, c, rfl, _⟩ := h; rfl
  case ptr => obtain ⟨_, _, _, a, rfl, _⟩ := h; rfl
  case elem => obtain ⟨_, rfl, _⟩ := h; rfl
  case iface => obtain ⟨_, rfl, _⟩ := h; rfl
  case func => obtain ⟨_, _, rfl, _⟩ := h; rfl

theorem RL.okV {z : Cz} {σ : AH} {w : World} : ∀ {xs : List AV} {vs : List Value}, RL z σ w xs vs → xs.all okA = true → ∀ v ∈ vs, Go.Abs.okV v = true
  | [], _, h, _ => by rw [show _ = [] from h]; simp
  | x :: xs, _, ⟨u, us, rfl, h1, h2⟩, ha => by
    simp only [List.all_cons, Bool.and_eq_true] at ha
    intro v hv
    rcases List.mem_cons.1 hv with rfl | hv
    · exact okV_of h1 ha.1
    · exact RL.okV h2 ha.2 v hv

/-- The cells of a row in an array: each element's. -/
def RArr (z : Cz) (σ : AH) (w : World) (sz : Nat) (xs : List AV) (ds : Array Value) : Prop :=
  ∀ i x, xs[i]? = some x → ∃ v, R z σ w x v ∧ v.cells.size = sz ∧ ∀ j u, v.cells.toList[j]? = some u → ds[i * sz + j]? = some u ∧ okV u = true

section
variable {P : Program} {z : Cz} {σ : AH} {w : World} {es : Operand → Option AV} {ρ : Operand → Value}

theorem RArr.mono {z' : Cz} {σ' : AH} {w' : World} (E : Ext z σ w z' σ' w') {sz : Nat} {xs : List AV} {ds : Array Value} (h : RArr z σ w sz xs ds) : RArr z' σ' w' sz xs ds :=
  fun i x hx => let ⟨v, h1, h2, h3⟩ := h i x hx; ⟨v, h1.mono E, h2, h3⟩

theorem RArr.rsl {sz b : Nat} {xs : List AV} {ds : Array Value} {T : TypeId} {fr : Nat × Nat} (h : RArr z σ w sz xs ds) (hb : w.heap[b]? = some (.cells ds T fr)) : RSl z σ w b sz 0 xs :=
  RSl.of_get fun i x hx => by
    obtain ⟨v, h1, h2, h3⟩ := h i x hx
    refine ⟨v, h1, h2, fun j u hu => ?_⟩
    obtain ⟨h4, h5⟩ := h3 j u hu
    rw [Nat.zero_add]
    exact ⟨cell_of hb h4, h5⟩

theorem RArr.append {sz : Nat} {xs ys : List AV} {ds es : Array Value} (h : RArr z σ w sz xs ds) (hd : ds.size = xs.length * sz) (k : RArr z σ w sz ys es) : RArr z σ w sz (xs ++ ys) (ds ++ es) :=
  fun i x hx => by
    by_cases hi : i < xs.length
    · rw [List.getElem?_append_left hi] at hx
      obtain ⟨v, h1, h2, h3⟩ := h i x hx
      refine ⟨v, h1, h2, fun j u hu => ?_⟩
      obtain ⟨h4, h5⟩ := h3 j u hu
      refine ⟨?_, h5⟩
      rw [Array.getElem?_append_left (Array.getElem?_eq_some_iff.1 h4).1]
      exact h4
    · rw [List.getElem?_append_right (by omega)] at hx
      obtain ⟨v, h1, h2, h3⟩ := k _ x hx
      refine ⟨v, h1, h2, fun j u hu => ?_⟩
      obtain ⟨h4, h5⟩ := h3 j u hu
      refine ⟨?_, h5⟩
      have e : i * sz + j - ds.size = (i - xs.length) * sz + j := by
        rw [hd, Nat.sub_mul]
        have : xs.length * sz ≤ i * sz := Nat.mul_le_mul_right _ (by omega)
        omega
      rw [Array.getElem?_append_right (by rw [hd]; have : xs.length * sz ≤ i * sz := Nat.mul_le_mul_right _ (by omega); omega), e]
      exact h4

theorem RArr.left {sz : Nat} {xs : List AV} {ds es : Array Value} (h : RArr z σ w sz xs ds) : RArr z σ w sz xs (ds ++ es) :=
  fun i x hx => by
    obtain ⟨v, h1, h2, h3⟩ := h i x hx
    refine ⟨v, h1, h2, fun j u hu => ?_⟩
    obtain ⟨h4, h5⟩ := h3 j u hu
    exact ⟨by rw [Array.getElem?_append_left (Array.getElem?_eq_some_iff.1 h4).1]; exact h4, h5⟩

/-! #### loads -/
theorem load_run {a : Addr} {v : Value} (h : w.cell? a = some v) : (load a).run P w = .ok v w := by
  simp only [load, Sem.run, h]

theorem loadCellsFrom_run {b o : Nat} : ∀ (n i : Nat) (vs : List Value) (acc : Array Value), vs.length = n → (∀ j v, vs[j]? = some v → w.cell? ⟨b, o + i + j, none⟩ = some v) →
    (loadCellsFrom ⟨b, o, none⟩ i n acc).run P w = .ok (acc ++ vs.toArray) w
  | 0, i, vs, acc, hl, _ => by
    have : vs = [] := List.eq_nil_of_length_eq_zero hl
    subst this
    simp only [loadCellsFrom]
    rw [run_pure']
    simp
  | n + 1, i, vs, acc, hl, h => by
    cases vs with
    | nil => cases hl
    | cons v vs =>
      simp only [loadCellsFrom]
      have e : (⟨b, o, none⟩ : Addr).add i = ⟨b, o + i, none⟩ := Addr_add _ rfl _
      rw [run_bind_ok (load_run (by rw [e]; simpa using h 0 v rfl))]
      rw [loadCellsFrom_run n (i + 1) vs (acc.push v) (by simpa using hl) fun j u hu => by
        rw [show o + (i + 1) + j = o + i + (j + 1) by omega]
        exact h (j + 1) u (by simpa using hu)]
      simp

theorem loadCells_run {b o n : Nat} {vs : List Value} (hl : vs.length = n) (h : CellsAt w b o vs) : (loadCells ⟨b, o, none⟩ n).run P w = .ok vs.toArray w := by
  unfold loadCells
  rw [loadCellsFrom_run n 0 vs #[] hl fun j v hv => (h j v hv).1]
  simp

/-- What is loaded of cells, at a type. -/
def evLoadC (P : Program) (t : TypeId) (cs : List AV) : Option AV :=
  match aggT P t, szT P t with
  | some true, some n => if n ≤ cs.length then some (.agg (cs.take n)) else none
  | some false, some _ => cs.head?
  | _, _ => none

theorem loadC_run {t : TypeId} {b o : Nat} {cs : List AV} {out : AV} (hc : RCells z σ w b o cs) (h : evLoadC P t cs = some out) :
    ∃ v, (loadVar t ⟨b, o, none⟩).run P w = .ok v w ∧ R z σ w out v := by
  unfold evLoadC at h
  split at h
  · rename_i n ha hn
    split at h
    · rename_i hle
      cases h
      have hex : ∀ i, i < n → ∃ v, w.cell? ⟨b, o + i, none⟩ = some v := fun i hi => by
        obtain ⟨v, _, h2⟩ := hc.get i cs[i] (List.getElem?_eq_getElem (by omega))
        exact ⟨v, h2.1⟩
      have hat : ∀ j v, ((List.range n).map fun i => (w.cell? ⟨b, o + i, none⟩).getD undef)[j]? = some v → w.cell? ⟨b, o + 0 + j, none⟩ = some v := by
        intro j v hv
        simp only [List.getElem?_map, Option.map_eq_some_iff] at hv
        obtain ⟨i, hi, hv⟩ := hv
        obtain ⟨hj, e⟩ := List.getElem?_eq_some_iff.1 hi
        simp only [List.length_range] at hj
        simp only [List.getElem_range] at e
        subst e
        obtain ⟨u, hu⟩ := hex j hj
        rw [Nat.add_zero, hu]
        rw [hu] at hv
        exact congrArg some hv
      refine ⟨.agg ((List.range n).map fun i => (w.cell? ⟨b, o + i, none⟩).getD undef).toArray, ?_, _, rfl, ?_⟩
      · unfold loadVar
        rw [run_bind_ok (aggT_run ha w), if_pos rfl, run_bind_ok (szT_run hn w)]
        unfold loadCells
        rw [run_bind_ok (loadCellsFrom_run n 0 _ #[] (by simp) hat)]
        simp
      · refine RL.of_get (by simp; omega) fun i x v hx hv => ?_
        rw [List.getElem?_take] at hx
        split at hx
        · rename_i hi
          obtain ⟨u, h1, h2⟩ := hc.get i x hx
          simp only [List.getElem?_map, Option.map_eq_some_iff] at hv
          obtain ⟨k, hk, hv⟩ := hv
          obtain ⟨hj, e⟩ := List.getElem?_eq_some_iff.1 hk
          simp only [List.getElem_range] at e
          subst e
          rw [h2.1] at hv
          cases hv
          exact h1
        · cases hx
    · cases h
  · rename_i ha hn
    cases cs with
    | nil => cases h
    | cons y cs =>
      simp only [List.head?_cons, Option.some.injEq] at h
      subst h
      obtain ⟨v, h1, h2⟩ := hc.get 0 y rfl
      refine ⟨v, ?_, h1⟩
      unfold loadVar
      rw [run_bind_ok (aggT_run ha w)]
      simp only [Bool.false_eq_true, if_false]
      exact load_run h2.1
  · cases h

def evLoad (P : Program) (σ : AH) (t : TypeId) : AV → Option AV
  | .elem cs => evLoadC P t cs
  | .ptr id hw i off => match σ[id]? with
    | some o => if hw = o.hw then (match o.xs[i]? with
      | some x => evLoadC P t ((cellsA x).drop off)
      | none => none) else none
    | none => none
  | _ => none

theorem Inv.cellsOf (hI : Inv z σ w) {id i : Nat} {o : ARow} {x : AV} (ho : σ[id]? = some o) (hx : o.xs[i]? = some x) :
    RCells z σ w (z.φ id) (i * o.sz) (cellsA x) := by
  obtain ⟨_, _, _, h⟩ := hI.row id o ho
  obtain ⟨v, h1, _, h3⟩ := h.get i x hx
  rw [Nat.zero_add] at h3
  exact h3.rcells (R_cells h1)

theorem loadAt_run (hI : Inv z σ w) {t : TypeId} {x : AV} {v : Value} {out : AV} (hx : R z σ w x v) (h : evLoad P σ t x = some out) :
    ∃ u, (Instr.loadAt t v).run P w = .ok u w ∧ R z σ w out u := by
  unfold evLoad at h
  split at h
  · obtain ⟨ad, rfl, hs, hN, hR⟩ := hx
    obtain ⟨u, h1, h2⟩ := loadC_run hR h
    refine ⟨u, ?_, h2⟩
    unfold Instr.loadAt
    rw [run_bind_ok (sure_run ad w)]
    have e : ad = ⟨ad.block, ad.off, none⟩ := by cases ad; simp_all
    rw [e]
    exact h1
  · rename_i id hw i off
    obtain ⟨o, ho, hle, a, rfl, ha⟩ := hx
    rw [ho] at h
    simp only at h
    split at h
    · rename_i hhw
      split at h
      · rename_i y hy
        obtain ⟨u, h1, h2⟩ := loadC_run ((hI.cellsOf ho hy).drop off) h
        refine ⟨u, ?_, h2⟩
        unfold Instr.loadAt
        rw [run_bind_ok (sure_run a w), ha hhw]
        exact h1
      · cases h
    · cases h
  · cases h

/-! #### stores -/
def putAll' (c : Array Value) (o : Nat) : List Value → Array Value
  | [] => c
  | v :: vs => putAll' (c.setIfInBounds o v) (o + 1) vs
theorem putAll'_size : ∀ (vs : List Value) (c : Array Value) (o : Nat), (putAll' c o vs).size = c.size
  | [], _, _ => rfl
  | v :: vs, c, o => by simp [putAll', putAll'_size vs]
theorem putAll'_get : ∀ (vs : List Value) (c : Array Value) (o : Nat), o + vs.length ≤ c.size → ∀ k, (putAll' c o vs)[k]? = if o ≤ k ∧ k < o + vs.length then vs[k - o]? else c[k]?
  | [], c, o, _, k => by
    rw [if_neg (fun h => by have := h.1; have := h.2; simp at *; omega)]; rfl
  | v :: vs, c, o, h, k => by
    simp only [List.length_cons] at h
    simp only [putAll']
    rw [putAll'_get vs _ _ (by simp; omega)]
    by_cases h1 : o + 1 ≤ k ∧ k < o + 1 + vs.length
    · rw [if_pos h1, if_pos (by simp; omega), show k - o = (k - (o + 1)) + 1 by omega, List.getElem?_cons_succ]
    · rw [if_neg h1]
      by_cases h2 : k = o
      · subst h2
        rw [if_pos (by simp), Nat.sub_self, List.getElem?_cons_zero]
        rw [Array.getElem?_setIfInBounds_self_of_lt (by omega)]
      · rw [if_neg (by simp; omega), Array.getElem?_setIfInBounds_ne (Ne.symm h2)]

theorem setCell_wrote {b : Nat} {c : Array Value} {T : TypeId} (h : w.heap[b]? = some (.cells c T (0, 0))) (o : Nat) (v : Value) :
    w.setCell ⟨b, o, none⟩ v = wrote w b (c.setIfInBounds o v) T := by
  obtain ⟨hb, he⟩ := Array.getElem?_eq_some_iff.1 h
  unfold World.setCell wrote
  congr 1
  apply Array.ext
  · simp
  · intro i h1 h2
    simp only [Array.size_modify] at h1
    rw [Array.getElem_modify, Array.getElem_setIfInBounds (by simpa using h1)]
    by_cases hi : b = i
    · subst hi
      simp only [if_true, he, Option.isSome_none, Bool.false_eq_true, if_false]
    · simp only [hi, if_false]

theorem wrote_wrote (w : World) (b : Nat) (c d : Array Value) (T : TypeId) : wrote (wrote w b c T) b d T = wrote w b d T := by
  unfold wrote wroteO
  simp

theorem wrote_same {b : Nat} {c : Array Value} {T : TypeId} (h : w.heap[b]? = some (.cells c T (0, 0))) : wrote w b c T = w := by
  obtain ⟨hb, he⟩ := Array.getElem?_eq_some_iff.1 h
  unfold wrote wroteO
  have : w.heap.setIfInBounds b (.cells c T (0, 0)) = w.heap := by
    apply Array.ext
    · simp
    · intro i h1 h2
      rw [Array.getElem_setIfInBounds (by simpa using h1)]
      by_cases hi : b = i
      · subst hi; simp [he]
      · simp [hi]
  rw [this]

theorem store_run {b o : Nat} {c : Array Value} {T : TypeId} {v : Value} (h : w.heap[b]? = some (.cells c T (0, 0))) (ho : o < c.size) (hv : okV v = true) :
    (store ⟨b, o, none⟩ v).run P w = .ok () (wrote w b (c.setIfInBounds o v) T) := by
  have hc : w.cell? ⟨b, o, none⟩ = some c[o] := cell_of h (by simp [ho])
  have hf : w.frozen? ⟨b, o, none⟩ = false := by simp [World.frozen?, h]
  have key : ∀ v, okV v = true → Sem.run P (Sem.store .plain ⟨b, o, none⟩ v (.pure ())) w = .ok () (w.setCell ⟨b, o, none⟩ v) := by
    intro v hv
    cases v <;> first
      | (simp only [Sem.run, hc, hf, Bool.false_eq_true, if_false]; done)
      | (cases hv; done)
  unfold store
  rw [key v hv, setCell_wrote h]

theorem storeCells_run {b o : Nat} {T : TypeId} : ∀ (vs : List Value) (i : Nat) (w : World) (c : Array Value), w.heap[b]? = some (.cells c T (0, 0)) → o + i + vs.length ≤ c.size → (∀ v ∈ vs, okV v = true) →
    (storeCells ⟨b, o, none⟩ vs i).run P w = .ok () (wrote w b (putAll' c (o + i) vs) T)
  | [], i, w, c, h, _, _ => by
    simp only [storeCells, putAll']
    rw [run_pure', wrote_same h]
  | v :: vs, i, w, c, h, hl, hv => by
    simp only [List.length_cons] at hl
    simp only [storeCells]
    have e : (⟨b, o, none⟩ : Addr).add i = ⟨b, o + i, none⟩ := Addr_add _ rfl _
    rw [run_bind_ok (by rw [e]; exact store_run h (by omega) (hv v (List.mem_cons_self ..)))]
    have hb : b < w.heap.size := (Array.getElem?_eq_some_iff.1 h).1
    rw [storeCells_run vs (i + 1) _ (c.setIfInBounds (o + i) v) (wrote_self w _ T hb) (by simp; omega) fun u hu => hv u (List.mem_cons_of_mem _ hu)]
    rw [wrote_wrote]
    rfl

end
end Go.Abs
end
section
/- Operations that load, store and make memory: stores, boxes, literals, make. -/
namespace Go.Abs
section
variable {P : Program} {z : Cz} {σ : AH} {w : World} {es : Operand → Option AV} {ρ : Operand → Value}

def reA : AV → List AV → AV
  | .agg _, cs => .agg cs
  | e, cs => cs.headD e

def evStore (P : Program) (σ : AH) (t : TypeId) (x v : AV) : Option AH :=
  match x with
  | .ptr id hw i off => match σ[id]? with
    | some o => if hw = o.hw then (match o.xs[i]?, szT P t with
      | some e, some n => if (cellsA v).length = n ∧ off + n ≤ (cellsA e).length ∧ (cellsA v).all okA = true ∧ o.kd.open = true then
          some (σ.set id ⟨o.sz, o.hw, o.xs.set i (reA e (setAll (cellsA e) off (cellsA v))), o.kd⟩) else none
      | _, _ => none) else none
    | none => none
  | _ => none

theorem setAll_put : ∀ {vs : List AV} {us : List Value} {cs : List AV} {ds : Array Value} {off : Nat}, RL z σ w cs ds.toList → RL z σ w vs us →
    RL z σ w (setAll cs off vs) (putAll' ds off us).toList
  | [], _, cs, ds, off, h, hv => by rw [show _ = [] from hv]; exact h
  | x :: xs, _, cs, ds, off, h, ⟨u, us, rfl, h1, h2⟩ => by
    simp only [setAll, putAll']
    refine setAll_put ?_ h2
    rw [Array.toList_setIfInBounds]
    exact h.set _ h1

theorem reA_val {e v : AV} {ue uv : Value} {off : Nat} (he : R z σ w e ue) (hv : R z σ w v uv) (hlen : off + (cellsA v).length ≤ (cellsA e).length) (hok : (cellsA v).all okA = true) :
    ∃ u, R z σ w (reA e (setAll (cellsA e) off (cellsA v))) u ∧ u.cells.size = ue.cells.size ∧ ∀ j : Nat, u.cells.toList[j]? = (putAll' ue.cells off uv.cells.toList)[j]? := by
  have hce := R_cells he
  have hcv := R_cells hv
  by_cases hf : flatA e = true
  · have e1 : cellsA e = [e] := by cases e <;> first | rfl | cases hf
    have e2 : ue.cells = #[ue] := cells_one he hf
    have e3 : reA e (setAll (cellsA e) off (cellsA v)) = (setAll [e] off (cellsA v)).headD e := by rw [e1]; cases e <;> first | rfl | cases hf
    rw [e1] at hlen
    simp only [List.length_singleton] at hlen
    rw [e3, e2]
    match hc : cellsA v, hcv with
    | [], hcv =>
      rw [show uv.cells.toList = [] from hcv]
      exact ⟨ue, he, by rw [e2], fun j => by simp [putAll', e2]⟩
    | y :: ys, hcv =>
      rw [hc] at hlen hok
      simp only [List.length_cons] at hlen
      have : ys = [] := List.eq_nil_of_length_eq_zero (by omega)
      subst this
      obtain rfl : off = 0 := by omega
      obtain ⟨uy, us, e5, hy, hn⟩ := hcv
      rw [show us = [] from hn] at e5
      rw [e5]
      simp only [List.all_cons, List.all_nil, Bool.and_true] at hok
      have hfy : flatA y = true := by cases y <;> first | rfl | cases hok
      have e4 := cells_one hy hfy
      exact ⟨uy, hy, by rw [e4]; rfl, fun j => by simp [putAll', e4]⟩
  · cases e with
    | agg cs =>
      obtain ⟨ds, rfl, hl⟩ := he
      exact ⟨.agg (putAll' ds off uv.cells.toList), ⟨_, rfl, setAll_put hl hcv⟩, putAll'_size _ _ _, fun j => by simp [Value.cells]⟩
    | _ => exact absurd rfl hf

theorem storeAt_run (hI : Inv z σ w) {t : TypeId} {x v : AV} {u q : Value} {σ' : AH} (hx : R z σ w x u) (hv : R z σ w v q) (h : evStore P σ t x v = some σ') :
    ∃ w', (Instr.storeAt t u q).run P w = .ok () w' ∧ Ext z σ w z σ' w' ∧ Inv z σ' w' := by
  unfold evStore at h
  split at h
  · rename_i id hw i off
    obtain ⟨o, ho, hle, a, rfl, ha⟩ := hx
    rw [ho] at h
    simp only at h
    split at h
    · rename_i hhw
      split at h
      · rename_i e n he hn
        split at h
        · rename_i hc
          obtain ⟨hc1, hc2, hok, hop⟩ := hc
          cases h
          obtain ⟨g1, g2, g3, g4⟩ := hI.row id o ho
          have hix := (List.getElem?_eq_some_iff.1 he).1
          have hk : z.κ id ≠ 0 := by omega
          obtain ⟨c, T, frz, hb, hcs, hkd⟩ := Kd.at_open hop (g3 hk)
          obtain rfl := Kd.ok_open hop hkd
          obtain ⟨ue, r1, r2, r3⟩ := g4.get i e he
          rw [Nat.zero_add] at r3
          have hce := R_cells r1
          have hcv := R_cells hv
          have l1 : q.cells.size = n := by have := hcv.length; simp at this; omega
          have l2 : (cellsA e).length = o.sz := by have := hce.length; simp at this; omega
          have hfit : i * o.sz + o.sz ≤ c.size := by
            rw [hcs, ← Nat.succ_mul]
            exact Nat.mul_le_mul_right _ (by omega)
          have hrun := storeCells_run (P := P) (b := z.φ id) (o := i * o.sz + off) q.cells.toList 0 w c hb (by simp; omega) (hcv.okV hok)
          rw [Nat.add_zero] at hrun
          have E := extW hI (o' := ⟨o.sz, o.hw, o.xs.set i (reA e (setAll (cellsA e) off (cellsA v))), o.kd⟩) ho hk rfl (Nat.le_refl _) (putAll' c (i * o.sz + off) q.cells.toList) T
          refine ⟨_, ?_, E, ?_⟩
          · unfold Instr.storeAt
            rw [run_bind_ok (sure_run a w), ha hhw]
            unfold storeVar
            rw [run_bind_ok (szT_run hn w)]
            rw [if_neg (by simp [l1])]
            exact hrun
          · refine invW hI (o' := ⟨o.sz, o.hw, o.xs.set i (reA e (setAll (cellsA e) off (cellsA v))), o.kd⟩) ho hk rfl (Nat.le_refl _) _ T (by simpa using g1) g2 ((putAll'_size q.cells.toList c (i * o.sz + off)).trans hcs) hkd hop ?_
            show RSl z _ _ (z.φ id) o.sz 0 (o.xs.set i (reA e (setAll (cellsA e) off (cellsA v))))
            refine RSl.of_get fun j y hy => ?_
            rw [Nat.zero_add]
            have hw' := wrote_self w (putAll' c (i * o.sz + off) q.cells.toList) T (hI.lt (List.getElem?_eq_some_iff.1 ho).1 hk)
            have get : ∀ k, (putAll' c (i * o.sz + off) q.cells.toList)[k]? = if i * o.sz + off ≤ k ∧ k < i * o.sz + off + n then q.cells.toList[k - (i * o.sz + off)]? else c[k]? := by
              intro k
              rw [putAll'_get _ _ _ (by simp; omega)]
              simp [l1]
            have old : ∀ k (v : Value), Cell w (z.φ id) k v → c[k]? = some v := by
              rintro k v ⟨h1, _⟩
              simp only [World.cell?, hb, Option.isSome_none, Bool.false_eq_true, if_false] at h1
              exact h1
            by_cases hj : j = i
            · subst hj
              simp only [List.getElem?_set_self hix, Option.some.injEq] at hy
              subst hy
              obtain ⟨u, s1, s2, s3⟩ := reA_val (off := off) r1 hv (by omega) hok
              refine ⟨u, s1.mono E, s2.trans r2, fun k p hp => ?_⟩
              rw [s3 k] at hp
              rw [putAll'_get _ _ _ (by simp; omega)] at hp
              simp only [Array.length_toList, l1] at hp
              refine ⟨cell_of hw' ?_, ?_⟩
              · rw [get]
                by_cases hin : off ≤ k ∧ k < off + n
                · rw [if_pos hin] at hp
                  rw [if_pos (by omega), ← hp]
                  congr 1
                  omega
                · rw [if_neg hin] at hp
                  rw [if_neg (by omega)]
                  exact old _ _ (r3 k p (by simpa using hp))
              · by_cases hin : off ≤ k ∧ k < off + n
                · rw [if_pos hin] at hp
                  exact hcv.okV hok p (List.mem_of_getElem? hp)
                · rw [if_neg hin] at hp
                  exact (r3 k p (by simpa using hp)).2
            · rw [List.getElem?_set_ne (Ne.symm hj)] at hy
              obtain ⟨u, s1, s2, s3⟩ := g4.get j y hy
              rw [Nat.zero_add] at s3
              refine ⟨u, s1.mono E, s2, fun k p hp => ?_⟩
              have hk' : k < o.sz := by
                have := (List.getElem?_eq_some_iff.1 hp).1
                simp at this; omega
              refine ⟨cell_of hw' ?_, (s3 k p hp).2⟩
              rw [get, if_neg ?_]
              · exact old _ _ (s3 k p hp)
              · rcases Nat.lt_or_ge j i with hlt | hge
                · have : (j + 1) * o.sz ≤ i * o.sz := Nat.mul_le_mul_right _ (by omega)
                  rw [Nat.succ_mul] at this
                  omega
                · have : (i + 1) * o.sz ≤ j * o.sz := Nat.mul_le_mul_right _ (by omega)
                  rw [Nat.succ_mul] at this
                  omega
        · cases h
      · cases h
    · cases h
  · cases h

/-! #### boxes -/
theorem RArr_one {x : AV} {v : Value} (h : R z σ w x v) (hok : (cellsA x).all okA = true) : RArr z σ w (cellsA x).length [x] v.cells := by
  intro i y hy
  match i, hy with
  | 0, hy =>
    cases hy
    have hl := (R_cells h).length
    refine ⟨v, h, by simpa using hl.symm, fun j u hu => ⟨by rw [Nat.zero_mul, Nat.zero_add]; simpa using hu, (R_cells h).okV hok u (List.mem_of_getElem? hu)⟩⟩
  | i + 1, hy => simp at hy

def evBox (σ : AH) (hold : Bool) (t : TypeId) (x : AV) : Option (AV × AH) :=
  if (cellsA x).all okA then (if hold then some (.ptr σ.length 1 0 0, σ ++ [avar t (cellsA x).length x]) else some (.elem (cellsA x), σ)) else none

theorem newVar_run (t : TypeId) (v : Value) : (newVar t v).run P w = .ok ⟨w.heap.size, 0, none⟩ (more w v.cells t) := rfl

theorem box_run (hI : Inv z σ w) {hold : Bool} {t : TypeId} {x out : AV} {v : Value} {σ' : AH} (hx : R z σ w x v) (h : evBox σ hold t x = some (out, σ')) :
    ∃ z', Ext z σ w z' σ' (more w v.cells t) ∧ Inv z' σ' (more w v.cells t) ∧ R z' σ' (more w v.cells t) out (.pointer (some ⟨w.heap.size, 0, none⟩)) := by
  unfold evBox at h
  split at h
  · rename_i hok
    have hl : (cellsA x).length = v.cells.size := by simpa using (R_cells hx).length
    split at h
    · cases h
      have E := extO z σ w hI v.cells t (avar t (cellsA x).length x) 1
      refine ⟨_, E, invO hI _ _ (avar t (cellsA x).length x) _ (by simp) (Nat.le_refl _) (by simp [hl]) ⟨rfl, rfl⟩ rfl (((RArr_one hx hok).mono E).rsl (more_new w _ _)), avar t (cellsA x).length x, by simp, Nat.le_refl _, _, rfl, fun _ => ?_⟩
      rw [show (zO z σ w 1).φ σ.length = w.heap.size from upd_self _ _ _]
      simp
    · cases h
      have E := extF z σ w hI v.cells t
      refine ⟨_, E, invF hI _ _, _, rfl, rfl, .inr rfl, RCells.of_get fun i y hy => ?_⟩
      obtain ⟨u, h1, h2⟩ := (R_cells hx).get i y hy
      exact ⟨u, h2.mono E, cell_of (more_new w v.cells t) (by rw [Nat.zero_add]; simpa using h1), (R_cells hx).okV hok u (List.mem_of_getElem? h1)⟩
  · cases h

end
end Go.Abs
end
section
/- Operations that make memory: literals of slices, make, append. -/
namespace Go.Abs
section
variable {P : Program} {z : Cz} {σ : AH} {w : World} {es : Operand → Option AV} {ρ : Operand → Value}

/-- A new slice: held, or never written again. -/
def newSl (σ : AH) (hold : Bool) (e : TypeId) (sz : Nat) (xs : List AV) : AV × AH :=
  if hold then (.own σ.length sz xs.length 0 xs.length, σ ++ [arow e sz xs.length xs]) else (.sl sz xs, σ)

theorem newSl_R (hI : Inv z σ w) {hold : Bool} {sz cap : Nat} {xs : List AV} {ds : Array Value} (T : TypeId) (hd : RArr z σ w sz xs ds) (hs : ds.size = cap * sz) (hc : xs.length ≤ cap) :
    ∃ z', Ext z σ w z' (newSl σ hold T sz xs).2 (more w ds T) ∧ Inv z' (newSl σ hold T sz xs).2 (more w ds T) ∧ R z' (newSl σ hold T sz xs).2 (more w ds T) (newSl σ hold T sz xs).1 (.slice (some ⟨w.heap.size, 0, none⟩) xs.length cap) := by
  cases hold
  · have E := extF z σ w hI ds T
    exact ⟨_, E, invF hI _ _, _, _, rfl, hc, .inr ⟨_, rfl, rfl, .inr rfl, (hd.mono E).rsl (more_new w ds T)⟩⟩
  · have E := extO z σ w hI ds T (arow T sz xs.length xs) cap
    refine ⟨_, E, invO hI _ _ _ _ (Nat.le_refl _) hc hs ⟨rfl, rfl⟩ rfl ((hd.mono E).rsl (more_new w _ _)), arow T sz xs.length xs, by simp [newSl], rfl, Nat.le_refl _, _, _, rfl, hc, fun _ => ?_, .inr ⟨_, rfl, fun _ => ?_⟩⟩
    · rw [show (zO z σ w cap).κ σ.length = cap from upd_self _ _ _, Nat.zero_add]
    · rw [show (zO z σ w cap).φ σ.length = w.heap.size from upd_self _ _ _]
      simp

/-- A nil slice as a new slice. -/
theorem nilSl_R (hI : Inv z σ w) {hold : Bool} (e : TypeId) (sz : Nat) (a : Option Addr) :
    ∃ z', Ext z σ w z' (newSl σ hold e sz []).2 w ∧ Inv z' (newSl σ hold e sz []).2 w ∧ R z' (newSl σ hold e sz []).2 w (newSl σ hold e sz []).1 (.slice a 0 0) := by
  cases hold
  · exact ⟨z, Ext.refl _ _ _, hI, _, _, rfl, Nat.le_refl _, .inl rfl⟩
  · refine ⟨_, extG z σ w e sz, invG hI e sz, arow e sz 0 [], by simp [newSl], rfl, Nat.le_refl _, _, _, rfl, Nat.le_refl _, fun _ => ?_, .inl rfl⟩
    exact (upd_self _ _ _).symm

/-! #### make -/
theorem zeros_get {zs : Array Value} {sz n k : Nat} (hz : zs.size = sz) (hk : k < n * sz) : ((Array.range (n * sz)).map (zs[· % zs.size]!))[k]? = zs[k % sz]? := by
  have hsz : 0 < sz := by
    rcases Nat.eq_zero_or_pos sz with h | h
    · subst h; simp at hk
    · exact h
  have hlt : k % sz < zs.size := by rw [hz]; exact Nat.mod_lt _ hsz
  rw [Array.getElem?_map]
  have : (Array.range (n * sz))[k]? = some k := by
    rw [Array.getElem?_eq_some_iff]
    exact ⟨by simpa using hk, by simp⟩
  rw [this]
  simp only [Option.map_some]
  rw [hz, getElem!_pos zs (k % sz) hlt, Array.getElem?_eq_getElem hlt]

theorem RArr_zeros {x : AV} {v : Value} (h : R z σ w x v) (hok : (cellsA x).all okA = true) (n : Nat) :
    RArr z σ w (cellsA x).length (List.replicate n x) ((Array.range (n * (cellsA x).length)).map (v.cells[· % v.cells.size]!)) := by
  intro i y hy
  have hl : (cellsA x).length = v.cells.size := by simpa using (R_cells h).length
  rw [List.getElem?_replicate] at hy
  split at hy
  · rename_i hi
    cases hy
    refine ⟨v, h, hl.symm, fun j u hu => ⟨?_, (R_cells h).okV hok u (List.mem_of_getElem? hu)⟩⟩
    have hj : j < v.cells.size := by
      have := (List.getElem?_eq_some_iff.1 hu).1
      simpa using this
    have hlt : i * (cellsA x).length + j < n * (cellsA x).length := by
      have : (i + 1) * (cellsA x).length ≤ n * (cellsA x).length := Nat.mul_le_mul_right _ (by omega)
      rw [Nat.succ_mul] at this
      omega
    rw [zeros_get hl.symm hlt]
    rw [Nat.mul_comm, Nat.mul_add_mod, Nat.mod_eq_of_lt (by omega)]
    simpa using hu
  · cases hy

def byT (P : Program) (t : TypeId) : Option Nat := (P.info? t).map (·.bytes)
def fits (n b : Nat) : Bool := decide ((n + 96) * (b + 1) ≤ 70368744177664)

theorem info_run {t : TypeId} {i : TypeInfo} (h : P.info? t = some i) : (typeInfo t).run P w = .ok i w := by
  simp [typeInfo, h, go_sem]

def evMake (P : Program) (σ : AH) (hold : Bool) (t : TypeId) (l c : AV) : Option (AV × AH) :=
  match l, c, P.underlying t with
  | .int _ n, .int _ m, some (.slice e) => match zeroA P e, szT P e, byT P e with
    | some x, some sz, some b => if n = m ∧ 0 ≤ n ∧ n ≤ 9223372036854775807 ∧ (cellsA x).length = sz ∧ (cellsA x).all okA = true ∧ fits n.toNat b = true then some (newSl σ hold e sz (List.replicate n.toNat x)) else none
    | _, _, _ => none
  | _, _, _ => none

theorem wrap_id {n : Int} (h : 0 ≤ n) (h' : n ≤ 9223372036854775807) : IntKind.i64.wrap n = n := by
  unfold IntKind.wrap
  simp [IntKind.bits, IntKind.signed]
  omega

theorem make_run (hI : Inv z σ w) {hold : Bool} {t : TypeId} {l c out : AV} {ul uc : Value} {σ' : AH} (hl : R z σ w l ul) (hc : R z σ w c uc) (h : evMake P σ hold t l c = some (out, σ')) :
    ∃ v w' z', (Instr.makeSlice t ul uc).run P w = .ok v w' ∧ Ext z σ w z' σ' w' ∧ Inv z' σ' w' ∧ R z' σ' w' out v := by
  unfold evMake at h
  split at h
  · rename_i k n k' m e hu
    obtain rfl := hl
    obtain rfl := hc
    split at h
    · rename_i x sz b hz hsz hb
      split at h
      · rename_i hcond
        obtain ⟨rfl, h0, hmax, hlen, hok, hfit⟩ := hcond
        obtain ⟨zv, hzr, hzR⟩ := zeroA_run (P := P) (w := w) (z := z) (σ := σ) hz
        simp only [Option.some.injEq] at h
        have hR := RArr_zeros hzR hok n.toNat
        rw [hlen] at hR
        obtain ⟨z', E, hI', hr⟩ := newSl_R hI (hold := hold) (cap := n.toNat) e hR (by simp) (by simp)
        rw [h] at E hI' hr
        simp only [List.length_replicate] at hr
        refine ⟨_, _, z', ?_, E, hI', hr⟩
        unfold byT at hb
        cases hi : P.info? e with
        | none => rw [hi] at hb; cases hb
        | some i =>
          rw [hi] at hb
          simp only [Option.map_some, Option.some.injEq] at hb
          unfold Instr.makeSlice
          rw [run_bind_ok (under_run hu w)]
          simp only []
          rw [run_bind_ok (show (asInt (.int k n)).run P w = .ok n w from rfl), run_bind_ok (show (asInt (.int k' n)).run P w = .ok n w from rfl), run_bind_ok (info_run hi)]
          simp only [wrap_id h0 hmax, hb]
          have hle : (n.toNat + 96) * b ≤ 70368744177664 := Nat.le_trans (Nat.mul_le_mul_left _ (Nat.le_succ b)) (of_decide_eq_true hfit)
          have hnb : (b : Int) * n ≤ 70368744177664 := by
            have h2 : n.toNat * b ≤ 70368744177664 := Nat.le_trans (Nat.mul_le_mul_right _ (by omega)) hle
            have h3 : ((n.toNat * b : Nat) : Int) ≤ ((70368744177664 : Nat) : Int) := Int.ofNat_le.2 h2
            rw [Int.natCast_mul, Int.toNat_of_nonneg h0, Int.mul_comm] at h3
            exact h3
          have c1 : (decide (n < 0) || decide ((b : Int) * n > 2 ^ 48)) = false := by
            simp only [Bool.or_eq_false_iff, decide_eq_false_iff_not]
            exact ⟨by omega, by omega⟩
          have c2 : ((decide (n < 0) || decide ((b : Int) * n > 2 ^ 48)) || decide (n < 0) || decide (n > n)) = false := by
            rw [c1]
            simp
            omega
          rw [if_neg (by rw [c2]; simp)]
          have hask : (askRoom (n.toNat * b)).run P w = .ok () w := by
            unfold askRoom
            split <;> rfl
          rw [run_bind_ok hask, run_bind_ok (szT_run hsz w)]
          by_cases h00 : n.toNat * sz = 0
          · have e0 : ∀ f : Nat → Value, (Array.range 0).map f = #[] := fun f => by simp
            rw [if_pos h00, h00, run_bind_ok (run_pure' P _ w), e0, e0]
            rfl
          · rw [if_neg h00, run_bind_ok hzr]
            rfl
      · cases h
    · cases h
  · cases h

end
end Go.Abs
end
section
/- append. -/
namespace Go.Abs
section
variable {P : Program} {z : Cz} {σ : AH} {w : World} {es : Operand → Option AV} {ρ : Operand → Value}

def bytesA (s : ByteArray) : List AV := s.data.toList.map fun b => .int .u8 b.toNat

/-- The elements of a slice (or the bytes of a string). -/
def srcA (σ : AH) (sz : Nat) : AV → Option (List AV)
  | .nilsl | .zsl => some []
  | .sl sz' ys => if sz' = sz then some ys else none
  | .own id sz' hw off len => match σ[id]? with
    | some o => if sz' = sz ∧ hw = o.hw ∧ off + len ≤ o.xs.length then some ((o.xs.drop off).take len) else none
    | none => none
  | .str s => if sz = 1 then some (bytesA s) else none
  | _ => none

/-- Cells that stand in a row give an array. -/
theorem RSl.arr {b o sz : Nat} {xs : List AV} (h : RSl z σ w b sz o xs) : ∃ vs : List Value, vs.length = xs.length * sz ∧ (∀ j v, vs[j]? = some v → w.cell? ⟨b, o + j, none⟩ = some v) ∧ (∀ v ∈ vs, okV v = true) ∧ RArr z σ w sz xs vs.toArray := by
  have hex : ∀ k, k < xs.length * sz → ∃ v, Cell w b (o + k) v := fun k hk => by
    have hsz : 0 < sz := by
      rcases Nat.eq_zero_or_pos sz with h0 | h0
      · subst h0; simp at hk
      · exact h0
    have hi : k / sz < xs.length := Nat.div_lt_of_lt_mul (by rw [Nat.mul_comm]; exact hk)
    obtain ⟨v, h1, h2, h3⟩ := h.get (k / sz) xs[k / sz] (List.getElem?_eq_getElem hi)
    have hj : k % sz < v.cells.toList.length := by rw [Array.length_toList, h2]; exact Nat.mod_lt _ hsz
    refine ⟨v.cells.toList[k % sz], ?_⟩
    have := h3 (k % sz) _ (List.getElem?_eq_getElem hj)
    rw [Nat.add_assoc, Nat.mul_comm, Nat.div_add_mod] at this
    exact this
  have get : ∀ j v, ((List.range (xs.length * sz)).map fun k => (w.cell? ⟨b, o + k, none⟩).getD undef)[j]? = some v → Cell w b (o + j) v := by
    intro j v hv
    simp only [List.getElem?_map, Option.map_eq_some_iff] at hv
    obtain ⟨i, hi, hv⟩ := hv
    obtain ⟨hj, e⟩ := List.getElem?_eq_some_iff.1 hi
    simp only [List.length_range] at hj
    simp only [List.getElem_range] at e
    subst e
    obtain ⟨u, hu⟩ := hex j hj
    rw [hu.1] at hv
    have hv' : u = v := hv
    subst hv'
    exact hu
  refine ⟨(List.range (xs.length * sz)).map fun k => (w.cell? ⟨b, o + k, none⟩).getD undef, by simp, fun j v hv => (get j v hv).1, fun v hv => ?_, ?_⟩
  · obtain ⟨j, hj⟩ := List.getElem?_of_mem hv
    exact (get j v hj).2
  · intro i x hx
    obtain ⟨v, h1, h2, h3⟩ := h.get i x hx
    refine ⟨v, h1, h2, fun j u hu => ⟨?_, (h3 j u hu).2⟩⟩
    have hj : j < sz := by
      have := (List.getElem?_eq_some_iff.1 hu).1
      rw [Array.length_toList, h2] at this
      exact this
    have hlt : i * sz + j < xs.length * sz := by
      have : (i + 1) * sz ≤ xs.length * sz := Nat.mul_le_mul_right _ (List.getElem?_eq_some_iff.1 hx).1
      rw [Nat.succ_mul] at this
      omega
    have hc := (h3 j u hu).1
    rw [Nat.add_assoc] at hc
    simp [hlt, hc]

theorem src_run (hI : Inv z σ w) {sz : Nat} {x : AV} {v : Value} {ys : List AV} (hx : R z σ w x v) (h : srcA σ sz x = some ys) :
    (Builtin.lenOf v).run P w = .ok ys.length w ∧ ∃ ds : Array Value, (Builtin.firstCells sz ys.length v).run P w = .ok ds w ∧ ds.size = ys.length * sz ∧ (∀ u ∈ ds.toList, okV u = true) ∧ RArr z σ w sz ys ds := by
  have nil : ∀ {v : Value}, (∃ a, v = .slice a 0 0) → (Builtin.lenOf v).run P w = .ok 0 w ∧ ∃ ds : Array Value, (Builtin.firstCells sz 0 v).run P w = .ok ds w ∧ ds.size = 0 * sz ∧ (∀ u ∈ ds.toList, okV u = true) ∧ RArr z σ w sz [] ds := by
    rintro v ⟨a, rfl⟩
    refine ⟨rfl, #[], ?_, by simp, by simp, fun i x hx => by simp at hx⟩
    cases a with
    | none => rfl
    | some a => simp only [Builtin.firstCells, Nat.zero_mul]; rfl
  unfold srcA at h
  split at h
  · cases h; exact nil ⟨none, hx⟩
  · cases h; exact nil hx
  · rename_i sz' ys'
    split at h
    · rename_i he
      cases h
      subst he
      obtain ⟨a, c, rfl, hl, hc⟩ := hx
      refine ⟨rfl, ?_⟩
      rcases hc with rfl | ⟨ad, rfl, hs, hN, hR⟩
      · refine ⟨#[], ?_, by simp, by simp, fun i x hx => by simp at hx⟩
        cases a with
        | none => rfl
        | some a => simp only [Builtin.firstCells, List.length_nil, Nat.zero_mul]; rfl
      · obtain ⟨vs, h1, h2, h3, h4⟩ := hR.arr
        refine ⟨vs.toArray, ?_, by simpa using h1, by simpa using h3, h4⟩
        simp only [Builtin.firstCells]
        have e : ad = ⟨ad.block, ad.off, none⟩ := by cases ad; simp_all
        rw [e]
        unfold loadCells
        rw [loadCellsFrom_run _ 0 vs #[] h1 (by simpa using h2)]
        simp
    · cases h
  · rename_i id sz' hw off len
    obtain ⟨o, ho, hsz, hle, a, c, rfl, hl, hc1, hc2⟩ := hx
    rw [ho] at h
    simp only at h
    split at h
    · rename_i hcond
      obtain ⟨he, hhw, hlen⟩ := hcond
      cases h
      subst he
      have hyl : ((o.xs.drop off).take len).length = len := by simp; omega
      rw [hyl]
      refine ⟨rfl, ?_⟩
      rcases hc2 with h0 | ⟨ad, rfl, hd⟩
      · obtain rfl : len = 0 := by omega
        refine ⟨#[], ?_, by simp, by simp, fun i x hx => by simp at hx⟩
        cases a with
        | none => rfl
        | some a => simp only [Builtin.firstCells, Nat.zero_mul]; rfl
      · obtain ⟨_, _, _, hR⟩ := hI.row id o ho
        have hR' : RSl z σ w (z.φ id) sz' (off * sz') ((o.xs.drop off).take len) := by
          have h1 := hR.drop_take off (off + len)
          rw [Nat.zero_add, hsz] at h1
          rw [show (o.xs.drop off).take len = (o.xs.take (off + len)).drop off by rw [List.drop_take]; congr 1; omega]
          exact h1
        obtain ⟨vs, h1, h2, h3, h4⟩ := hR'.arr
        rw [hyl] at h1
        refine ⟨vs.toArray, ?_, by simpa using h1, by simpa using h3, h4⟩
        simp only [Builtin.firstCells]
        rw [hd hhw]
        unfold loadCells
        rw [loadCellsFrom_run _ 0 vs #[] h1 (by simpa using h2)]
        simp
    · cases h
  · rename_i s
    obtain rfl := hx
    split at h
    · rename_i he
      cases h
      subst he
      have hl : (bytesA s).length = s.size := by
        simp only [bytesA, List.length_map, Array.length_toList]
        rfl
      have hex : s.extract 0 s.size = s := by simp
      rw [hl]
      refine ⟨rfl, (s.extract 0 s.size).data.map fun b => .int .u8 b.toNat, rfl, ?_, ?_, ?_⟩
      · rw [hex, Array.size_map, Nat.mul_one]
        rfl
      · intro u hu
        simp only [Array.toList_map, List.mem_map] at hu
        obtain ⟨b, _, rfl⟩ := hu
        rfl
      · intro i x hx
        simp only [bytesA, List.getElem?_map, Option.map_eq_some_iff] at hx
        obtain ⟨b, hb, rfl⟩ := hx
        refine ⟨.int .u8 b.toNat, rfl, rfl, fun j u hu => ?_⟩
        match j, hu with
        | 0, hu =>
          simp only [Value.cells, List.getElem?_cons_zero, Option.some.injEq] at hu
          subst hu
          refine ⟨?_, rfl⟩
          rw [hex]
          simp only [Nat.mul_one, Nat.add_zero, Array.getElem?_map]
          have hb' : s.data[i]? = some b := by simpa using hb
          rw [hb']
          rfl
        | j + 1, hu => simp [Value.cells] at hu
    · cases h
  · cases h

theorem growBy_le (n : Nat) : ∀ (r c : Nat), Builtin.growBy n r c ≤ max c (n + (n + 768) / 4)
  | 0, c => by simp [Builtin.growBy]; omega
  | r + 1, c => by
    simp only [Builtin.growBy]
    split
    · omega
    · rename_i h
      have := growBy_le n r (c + (c + 768) / 4)
      have : max (c + (c + 768) / 4) (n + (n + 768) / 4) ≤ max c (n + (n + 768) / 4) := by
        have : (c + 768) / 4 ≤ (n + 768) / 4 := Nat.div_le_div_right (by omega)
        omega
      omega

theorem nextslicecap_le {n c : Nat} (h : c < n) : Builtin.nextslicecap n c ≤ 2 * (n + 96) := by
  unfold Builtin.nextslicecap
  split
  · omega
  · split
    · omega
    · have := growBy_le n 4 c
      have : (n + 768) / 4 ≤ n / 4 + 192 := by omega
      omega

def isIntD : TypeDesc → Bool
  | .int _ => true
  | _ => false

def evAppend (P : Program) (σ : AH) (hold : Bool) (sT xT : TypeId) (base x : AV) : Option (AV × AH) :=
  match P.underlying sT, P.underlying xT with
  | some (.slice e), some xd => if isIntD xd then none else match szT P e, byT P e, zeroA P e with
    | some sz, some b, some zx => if (cellsA zx).length = sz ∧ (cellsA zx).all okA = true then (match srcA σ sz x with
      | some ys => match base with
        | .nilsl | .zsl => if fits ys.length b then some (newSl σ hold e sz ys) else none
        | .own id sz' hw 0 len => match σ[id]? with
          | some o => if hold = true ∧ sz' = sz ∧ hw = o.hw ∧ len ≤ o.xs.length ∧ fits (len + ys.length) b = true ∧ o.kd.isOf e = true then
              some (.own id sz (max hw (len + ys.length)) 0 (len + ys.length), σ.set id (arow e sz (max hw (len + ys.length)) (o.xs.take len ++ ys))) else none
          | none => none
        | _ => none
      | none => none) else none
    | _, _, _ => none
  | _, _ => none

theorem extD (z : Cz) (σ : AH) (w : World) (n : Nat) : Ext z σ w z σ { w with drawn := n } where
  N := fun _ h => h
  keep := fun _ _ => rfl
  row := fun _ o h => ⟨o, h, rfl, Nat.le_refl _, fun _ => ⟨rfl, rfl⟩⟩
  size := Nat.le_refl _
  frame := fun _ _ _ => rfl
  news := fun _ hid hk => .inl ⟨hid, hk, rfl⟩
  newN := fun _ h => .inl h
  os := rfl
  tape := rfl
  output := rfl
theorem invD (hI : Inv z σ w) (n : Nat) : Inv z σ { w with drawn := n } where
  row := fun id o ho => by
    obtain ⟨g1, g2, g3, g4⟩ := hI.row id o ho
    exact ⟨g1, g2, g3, RSl.mono (extD z σ w n) rfl _ _ g4⟩
  inj := hI.inj
  apart := hI.apart
  old := hI.old

theorem zeroCells_eq (zs : Array Value) (n : Nat) : Builtin.zeroCells zs n = (Array.range (n * zs.size)).map fun i => zs[i % zs.size]! := rfl

theorem choose_cap (need old : Nat) (e : TypeId) (w : World) : ∃ c n, need ≤ c ∧ (choose (.appendCap need old e)).run P w = .ok c { w with drawn := n } := by
  refine ⟨(Question.appendCap need old e).cut (w.tape w.drawn (.appendCap need old e)), w.drawn + 1, ?_, ?_⟩
  · simp only [Question.cut]
    omega
  · simp only [choose, Sem.run, Question.forced, Bool.false_eq_true, if_false]

theorem askRoom_run (n : Nat) (w : World) : (askRoom n).run P w = .ok () w := by
  unfold askRoom
  split <;> rfl

/-- The way of append that makes a new row. -/
theorem grow_run {ts : Array TypeId} {sT xT e ty : TypeId} {xd : TypeDesc} {sz b : Nat} {zv : Value} {base : Option Addr} {len cap : Nat} {x : Value} {ys : Nat}
    (ht0 : ts[0]? = some sT) (ht1 : ts[1]? = some xT) (hu : P.underlying sT = some (.slice e)) (hx : P.underlying xT = some xd) (hxd : isIntD xd = false)
    (hsz : szT P e = some sz) (hb : byT P e = some b) (hz' : ∀ n, (zeroValue e).run P { w with drawn := n } = .ok zv { w with drawn := n })
    (hlen : (Builtin.lenOf x).run P w = .ok ys w) (hgrow : cap < len + ys) (hfit : fits (len + ys) b = true)
    : ∃ c n, len + ys ≤ c ∧ ∀ old new, (Builtin.firstCells sz len (.slice base len cap)).run P { w with drawn := n } = .ok old { w with drawn := n } →
      (Builtin.firstCells sz ys x).run P { w with drawn := n } = .ok new { w with drawn := n } → (Builtin.append_ ts ty #[.slice base len cap, x]).run P w =
      .ok (.slice (some ⟨w.heap.size, 0, none⟩) (len + ys) c) (more { w with drawn := n } (old ++ new ++ Builtin.zeroCells zv.cells (c - (len + ys))) e) := by
  obtain ⟨c, n, hc, hch⟩ := choose_cap (P := P) (len + ys) cap e w
  refine ⟨c, n, hc, fun old new hold hnew => ?_⟩
  unfold byT at hb
  cases hi : P.info? e with
  | none => rw [hi] at hb; cases hb
  | some i =>
    rw [hi] at hb
    simp only [Option.map_some, Option.some.injEq] at hb
    have hle' : (len + ys + 96) * (b + 1) ≤ 70368744177664 := of_decide_eq_true hfit
    have hle : (len + ys + 96) * b ≤ 70368744177664 := Nat.le_trans (Nat.mul_le_mul_left _ (Nat.le_succ b)) hle'
    have hcap : Builtin.nextslicecap (len + ys) cap * b ≤ 140737488355328 := by
      have h1 := nextslicecap_le hgrow
      have h2 : Builtin.nextslicecap (len + ys) cap * b ≤ 2 * (len + ys + 96) * b := Nat.mul_le_mul_right _ h1
      rw [Nat.mul_assoc] at h2
      omega
    unfold Builtin.append_
    simp only [ht0, ht1, List.getElem?_toArray, List.getElem?_cons_zero, List.getElem?_cons_succ]
    rw [run_bind_ok (under_run hu w)]
    simp only []
    rw [run_bind_ok (szT_run hsz w)]
    rw [run_bind_ok (under_run hx w)]
    have rest : ((do
        let n ← Builtin.lenOf x
        let need := len + n
        if need ≤ cap then
          let new ← Builtin.firstCells sz n x
          if let some a := base then storeCells (a.add (len * sz)) new.toList
          pure (.slice base need cap)
        else
          if (need : Int) > IntKind.i64.max ∧ (false = true ∨ (← typeInfo e).bytes = 0) then runtimePanic (.error "growslice: len out of range")
          if Builtin.nextslicecap need cap * (← typeInfo e).bytes > 2 ^ 48 then (if false = true then runtimePanic (.error "growslice: len out of range") else do
            if !(← Builtin.mayShare sz len n base x) then mark .noRoom
            unsupported (.resourceLimit "append: a slice or a string whose bytes no memory bears"))
          let newCap ← choose (.appendCap need cap e)
          askRoom (newCap * (← typeInfo e).bytes)
          let old ← Builtin.firstCells sz len (.slice base len cap)
          let new ← Builtin.firstCells sz n x
          let rest := Builtin.zeroCells (← zeroValue e).cells (newCap - need)
          pure (.slice (some (← newRow e (old ++ new ++ rest))) need newCap)) : Sem Value).run P w =
        .ok (.slice (some ⟨w.heap.size, 0, none⟩) (len + ys) c) (more { w with drawn := n } (old ++ new ++ Builtin.zeroCells zv.cells (c - (len + ys))) e) := by
      rw [run_bind_ok hlen]
      simp only []
      rw [if_neg (by omega), run_bind_ok (info_run hi)]
      have hno : ¬ (((len + ys : Nat) : Int) > IntKind.i64.max ∧ (false = true ∨ i.bytes = 0)) := by
        rintro ⟨h1, h2 | h2⟩
        · cases h2
        · have h3 : len + ys + 96 ≤ 70368744177664 := by rw [Nat.mul_succ] at hle'; omega
          have h4 : IntKind.i64.max = 9223372036854775807 := by decide
          rw [h4] at h1
          omega
      rw [if_neg hno, run_bind_ok (info_run hi), hb, if_neg (by omega), run_bind_ok hch, run_bind_ok (info_run (w := { w with drawn := n }) hi), run_bind_ok (askRoom_run _ _), run_bind_ok hold, run_bind_ok hnew, run_bind_ok (hz' n)]
      rfl
    cases xd <;> first
      | (cases hxd; done)
      | exact rest

/-- The way of append that stays in the row. -/
theorem stay_run {ts : Array TypeId} {sT xT e ty : TypeId} {xd : TypeDesc} {sz : Nat} {base : Option Addr} {len cap : Nat} {x : Value} {ys : Nat} {new : Array Value} {w' : World}
    (ht0 : ts[0]? = some sT) (ht1 : ts[1]? = some xT) (hu : P.underlying sT = some (.slice e)) (hx : P.underlying xT = some xd) (hxd : isIntD xd = false)
    (hsz : szT P e = some sz) (hlen : (Builtin.lenOf x).run P w = .ok ys w) (hgrow : len + ys ≤ cap) (hnew : (Builtin.firstCells sz ys x).run P w = .ok new w)
    (hst : (match base with | some a => storeCells (a.add (len * sz)) new.toList | none => (pure () : Sem Unit)).run P w = .ok () w') :
    (Builtin.append_ ts ty #[.slice base len cap, x]).run P w = .ok (.slice base (len + ys) cap) w' := by
  unfold Builtin.append_
  simp only [ht0, ht1, List.getElem?_toArray, List.getElem?_cons_zero, List.getElem?_cons_succ]
  rw [run_bind_ok (under_run hu w)]
  simp only []
  rw [run_bind_ok (szT_run hsz w)]
  rw [run_bind_ok (under_run hx w)]
  have rest : ((do
      let n ← Builtin.lenOf x
      let need := len + n
      if need ≤ cap then
        let new ← Builtin.firstCells sz n x
        if let some a := base then storeCells (a.add (len * sz)) new.toList
        pure (.slice base need cap)
      else
        if (need : Int) > IntKind.i64.max ∧ (false = true ∨ (← typeInfo e).bytes = 0) then runtimePanic (.error "growslice: len out of range")
        if Builtin.nextslicecap need cap * (← typeInfo e).bytes > 2 ^ 48 then (if false = true then runtimePanic (.error "growslice: len out of range") else do
          if !(← Builtin.mayShare sz len n base x) then mark .noRoom
          unsupported (.resourceLimit "append: a slice or a string whose bytes no memory bears"))
        let newCap ← choose (.appendCap need cap e)
        askRoom (newCap * (← typeInfo e).bytes)
        let old ← Builtin.firstCells sz len (.slice base len cap)
        let new ← Builtin.firstCells sz n x
        let rest := Builtin.zeroCells (← zeroValue e).cells (newCap - need)
        pure (.slice (some (← newRow e (old ++ new ++ rest))) need newCap)) : Sem Value).run P w =
      .ok (.slice base (len + ys) cap) w' := by
    rw [run_bind_ok hlen]
    simp only []
    rw [if_pos hgrow, run_bind_ok hnew]
    cases base with
    | none =>
      have e : w' = w := by
        have h1 : Result.ok () w = Result.ok () w' := hst
        cases h1
        rfl
      rw [e]
      rfl
    | some a =>
      exact run_bind_ok hst
  cases xd <;> first
    | (cases hxd; done)
    | exact rest

theorem append_run (hI : Inv z σ w) {hold : Bool} {ts : Array TypeId} {sT xT ty : TypeId} {base x out : AV} {ub ux : Value} {σ' : AH} (ht0 : ts[0]? = some sT) (ht1 : ts[1]? = some xT)
    (hbase : R z σ w base ub) (hx : R z σ w x ux) (h : evAppend P σ hold sT xT base x = some (out, σ')) :
    ∃ v w' z', (Builtin.append_ ts ty #[ub, ux]).run P w = .ok v w' ∧ Ext z σ w z' σ' w' ∧ Inv z' σ' w' ∧ R z' σ' w' out v := by
  unfold evAppend at h
  split at h
  case h_2 => cases h
  rename_i e xd hu hux
  split at h
  · cases h
  rename_i hxd
  have hxd : isIntD xd = false := by simpa using hxd
  split at h
  case h_2 => cases h
  rename_i sz b zx hsz hb hz
  split at h
  case isFalse => cases h
  rename_i hzc
  obtain ⟨hzl, hzok⟩ := hzc
  split at h
  case h_2 => cases h
  rename_i ys hsrc
  obtain ⟨zv, hzr, hzR⟩ := zeroA_run (P := P) (w := w) (z := z) (σ := σ) hz
  have hzl' : zv.cells.size = sz := by have := (R_cells hzR).length; simp at this; omega
  have hz' : ∀ n, (zeroValue e).run P { w with drawn := n } = .ok zv { w with drawn := n } := by
    intro n
    unfold zeroA at hz
    cases hzz : (P.info? e).bind (·.zero) with
    | none => rw [hzz] at hz; cases hz
    | some v =>
      have h1 := zero_run (w := w) hzz
      rw [hzr] at h1
      cases h1
      exact zero_run hzz
  obtain ⟨hlen, new, hnew, hns, hnok, hnR⟩ := src_run (P := P) hI hx hsrc
  have hnewD : ∀ n, ∃ ds : Array Value, (Builtin.firstCells sz ys.length ux).run P { w with drawn := n } = .ok ds { w with drawn := n } ∧ ds.size = ys.length * sz ∧ RArr z σ { w with drawn := n } sz ys ds := by
    intro n
    obtain ⟨_, ds, h1, h2, _, h4⟩ := src_run (P := P) (invD hI n) (hx.mono (extD z σ w n)) hsrc
    exact ⟨ds, h1, h2, h4⟩
  -- the base is nil
  have nil : ∀ a, ub = .slice a 0 0 → fits ys.length b = true → some (newSl σ hold e sz ys) = some (out, σ') →
      ∃ v w' z', (Builtin.append_ ts ty #[ub, ux]).run P w = .ok v w' ∧ Ext z σ w z' σ' w' ∧ Inv z' σ' w' ∧ R z' σ' w' out v := by
    rintro a rfl hfit he
    simp only [Option.some.injEq] at he
    rcases Nat.eq_zero_or_pos ys.length with h0 | h0
    · have : ys = [] := List.eq_nil_of_length_eq_zero h0
      subst this
      obtain ⟨z', E, hI', hr⟩ := nilSl_R hI (hold := hold) e sz a
      rw [he] at E hI' hr
      refine ⟨_, w, z', stay_run ht0 ht1 hu hux hxd hsz hlen (Nat.le_refl _) hnew ?_, E, hI', hr⟩
      have hn0 : new = #[] := by
        apply Array.eq_empty_of_size_eq_zero
        simpa using hns
      subst hn0
      cases a with
      | none => rfl
      | some a => rfl
    · obtain ⟨c, n, hc, hrun⟩ := grow_run (P := P) (w := w) (ty := ty) (base := a) (len := 0) (cap := 0) (x := ux) (ys := ys.length) (zv := zv) ht0 ht1 hu hux hxd hsz hb hz' hlen (by omega) (by simpa using hfit)
      obtain ⟨ds, hd1, hd2, hd3⟩ := hnewD n
      have hrun' := hrun #[] ds (by
        cases a with
        | none => rfl
        | some a => simp only [Builtin.firstCells, Nat.zero_mul]; rfl) hd1
      simp only [Nat.zero_add] at hrun' hc
      have hR : RArr z σ { w with drawn := n } sz ys (#[] ++ ds ++ Builtin.zeroCells zv.cells (c - ys.length)) := by
        rw [Array.empty_append]
        exact hd3.left
      obtain ⟨z', E, hI', hr⟩ := newSl_R (invD hI n) (hold := hold) (cap := c) e hR (by
        rw [Array.empty_append, Array.size_append, hd2, zeroCells_eq, Array.size_map, Array.size_range, hzl', ← Nat.add_mul]
        congr 1
        omega) hc
      rw [he] at E hI' hr
      exact ⟨_, _, z', hrun', (extD z σ w n).trans E, hI', hr⟩
  split at h
  · split at h
    · rename_i hfit
      exact nil none hbase hfit h
    · cases h
  · split at h
    · rename_i hfit
      obtain ⟨a, ha⟩ := hbase
      exact nil a ha hfit h
    · cases h
  · rename_i id sz' hw len
    obtain ⟨o, ho, hsz', hle, a, c, rfl, hlc, hc1, hc2⟩ := hbase
    rw [ho] at h
    simp only at h
    split at h
    case isFalse => cases h
    rename_i hcond
    obtain ⟨_, he, hhw, hlx, hfit, hfree⟩ := hcond
    subst he
    have hkf : o.kd = .of e := Kd.of_isOf hfree
    simp only [Option.some.injEq, Prod.mk.injEq] at h
    obtain ⟨h1, h2⟩ := h
    obtain ⟨g1, g2, g3, g4⟩ := hI.row id o ho
    have hid := (List.getElem?_eq_some_iff.1 ho).1
    have hκ := hc1 hhw
    rw [Nat.zero_add] at hκ
    have hol : (o.xs.take len).length = len := by simp; omega
    have hoR : RSl z σ w (z.φ id) sz' 0 (o.xs.take len) := by
      have := g4.drop_take 0 len
      rw [Nat.zero_mul, Nat.zero_add, List.drop_zero, hsz'] at this
      exact this
    have hyl : (o.xs.take len ++ ys).length = len + ys.length := by rw [List.length_append, hol]
    by_cases hroom : len + ys.length ≤ c
    · -- it stays
      by_cases hk : z.κ id = 0
      · -- nothing is appended to nothing
        have hc0 : c = 0 := by omega
        obtain rfl : len = 0 := by omega
        have : ys = [] := List.eq_nil_of_length_eq_zero (by omega)
        subst this
        have hw0 : o.hw = 0 := by omega
        have hx0 : o.xs = [] := List.eq_nil_of_length_eq_zero (by omega)
        have hn0 : new = #[] := by
          apply Array.eq_empty_of_size_eq_zero
          simpa using hns
        have hoo : o = arow e sz' (max hw (0 + ([] : List AV).length)) (o.xs.take 0 ++ []) := by
          cases o
          simp at hx0 hsz' hw0 hhw hkf ⊢
          exact ⟨hsz', by omega, hx0, hkf⟩
        have hσ : σ' = σ := by
          rw [← h2, ← hoo]
          exact List.ext_getElem? fun j => by
            by_cases hj : id = j
            · subst hj; rw [List.getElem?_set_self hid, ho]
            · rw [List.getElem?_set_ne hj]
        rw [hσ, ← h1]
        refine ⟨_, w, z, stay_run ht0 ht1 hu hux hxd hsz hlen hroom hnew ?_, Ext.refl _ _ _, hI, o, ho, hsz', by simp; omega, a, c, rfl, by simp, fun _ => by omega, .inl hc0⟩
        rw [hn0]
        cases a with
        | none => rfl
        | some a => rfl
      · obtain ⟨cc, T, frz, hb', hcs, hkd⟩ := Kd.at_open (by rw [hkf]; rfl) (g3 hk)
        rw [hkf] at hkd
        obtain ⟨rfl, rfl⟩ := hkd
        have hcpos : c ≠ 0 := by omega
        rcases hc2 with h0 | ⟨ad, rfl, hd⟩
        · exact absurd h0 hcpos
        have hd := hd hhw
        rw [Nat.zero_mul] at hd
        subst hd
        have hfit' : len * sz' + new.size ≤ cc.size := by
          rw [hns, hcs, ← Nat.add_mul, hsz']
          exact Nat.mul_le_mul_right _ (by omega)
        have hst := storeCells_run (P := P) (b := z.φ id) (o := len * sz') new.toList 0 w cc hb' (by simp; omega) hnok
        rw [Nat.add_zero] at hst
        have hpos : 0 < z.κ id := by omega
        have E := extW hI (o' := arow e sz' (max hw (len + ys.length)) (o.xs.take len ++ ys)) ho hk hsz'.symm (by simp; omega) (putAll' cc (len * sz') new.toList) e
        have get : ∀ k, (putAll' cc (len * sz') new.toList)[k]? = if len * sz' ≤ k ∧ k < len * sz' + new.size then new[k - len * sz']? else cc[k]? := by
          intro k
          rw [putAll'_get _ _ _ (by simp; omega)]
          simp
        have hw' := wrote_self w (putAll' cc (len * sz') new.toList) e (hI.lt hid hk)
        rw [← h1, ← h2]
        refine ⟨_, _, z, stay_run ht0 ht1 hu hux hxd hsz hlen hroom hnew ?_, E, ?_, arow e sz' (max hw (len + ys.length)) (o.xs.take len ++ ys), by simp [hid], rfl, Nat.le_refl _, _, c, rfl, hroom, fun _ => by omega, .inr ⟨_, rfl, fun _ => ?_⟩⟩
        · show (storeCells ((⟨z.φ id, 0, none⟩ : Addr).add (len * sz')) new.toList).run P w = _
          rw [Addr_add _ rfl, Nat.zero_add]
          exact hst
        · refine invW hI (o' := arow e sz' (max hw (len + ys.length)) (o.xs.take len ++ ys)) ho hk hsz'.symm (by simp; omega) _ e (by rw [hyl]; simp; omega) (by simp; omega) ((putAll'_size new.toList cc (len * sz')).trans hcs) ⟨rfl, rfl⟩ rfl ?_
          show RSl z _ _ (z.φ id) sz' 0 (o.xs.take len ++ ys)
          refine RSl.of_get fun j y hy => ?_
          rw [Nat.zero_add]
          by_cases hj : j < len
          · rw [List.getElem?_append_left (by rw [hol]; exact hj)] at hy
            obtain ⟨v, s1, s2, s3⟩ := hoR.get j y hy
            rw [Nat.zero_add] at s3
            refine ⟨v, s1.mono E, s2, fun k p hp => ⟨cell_of hw' ?_, (s3 k p hp).2⟩⟩
            have hk' : k < sz' := by
              have := (List.getElem?_eq_some_iff.1 hp).1
              rw [Array.length_toList, s2] at this
              exact this
            have : (j + 1) * sz' ≤ len * sz' := Nat.mul_le_mul_right _ (by omega)
            rw [Nat.succ_mul] at this
            rw [get, if_neg (by omega)]
            have := (s3 k p hp).1
            simp only [World.cell?, hb', Option.isSome_none, Bool.false_eq_true, if_false] at this
            exact this
          · rw [List.getElem?_append_right (by rw [hol]; omega), hol] at hy
            obtain ⟨v, s1, s2, s3⟩ := hnR _ y hy
            refine ⟨v, s1.mono E, s2, fun k p hp => ⟨cell_of hw' ?_, (s3 k p hp).2⟩⟩
            have s4 := (s3 k p hp).1
            have hlt := (Array.getElem?_eq_some_iff.1 s4).1
            have e1 : (j - len) * sz' = j * sz' - len * sz' := Nat.sub_mul _ _ _
            have e2 : len * sz' ≤ j * sz' := Nat.mul_le_mul_right _ (by omega)
            rw [get, if_pos (by omega)]
            rw [← s4]
            congr 1
            omega
        · simp
    · -- it moves
      obtain ⟨c', n, hc', hrun⟩ := grow_run (P := P) (w := w) (ty := ty) (base := a) (len := len) (cap := c) (x := ux) (ys := ys.length) (zv := zv) ht0 ht1 hu hux hxd hsz hb hz' hlen (by omega) hfit
      obtain ⟨ds, hd1, hd2, hd3⟩ := hnewD n
      have hbaseD : R z σ { w with drawn := n } (.own id sz' hw 0 len) (.slice a len c) := ⟨o, ho, hsz', hle, a, c, rfl, hlc, hc1, hc2⟩
      obtain ⟨_, old, hold1, hold2, _, hold4⟩ := src_run (P := P) (sz := sz') (ys := (o.xs.drop 0).take len) (invD hI n) hbaseD (by
        show (match σ[id]? with
          | some o => if sz' = sz' ∧ hw = o.hw ∧ 0 + len ≤ o.xs.length then some ((o.xs.drop 0).take len) else none
          | none => none) = _
        rw [ho]
        exact if_pos ⟨rfl, hhw, by omega⟩)
      rw [List.drop_zero] at hold1 hold2 hold4
      rw [hol] at hold1 hold2
      have hrun' := hrun old ds hold1 hd1
      have E := extM (invD hI n) (o' := arow e sz' (max hw (len + ys.length)) (o.xs.take len ++ ys)) ho hsz'.symm (by simp; omega) (old ++ ds ++ Builtin.zeroCells zv.cells (c' - (len + ys.length))) e c'
      have hR := ((hold4.append (by rw [hol]; exact hold2) hd3).left (es := Builtin.zeroCells zv.cells (c' - (len + ys.length)))).mono E
      rw [← h1, ← h2]
      refine ⟨_, _, _, hrun', (extD z σ w n).trans E, ?_, arow e sz' (max hw (len + ys.length)) (o.xs.take len ++ ys), by simp [hid], rfl, Nat.le_refl _, _, c', rfl, hc', fun _ => ?_, .inr ⟨_, rfl, fun _ => ?_⟩⟩
      · refine invM (invD hI n) (o' := arow e sz' (max hw (len + ys.length)) (o.xs.take len ++ ys)) ho hsz'.symm (by simp; omega) _ e c' (by rw [hyl]; simp; omega) (by simp; omega) ?_ ⟨rfl, rfl⟩ rfl (hR.rsl (more_new _ _ _))
        rw [Array.size_append, Array.size_append, hold2, hd2, zeroCells_eq, Array.size_map, Array.size_range, hzl', ← Nat.add_mul, ← Nat.add_mul, hsz']
        congr 1
        omega
      · rw [show (zM z { w with drawn := n } id c').κ id = c' from upd_self _ _ _, Nat.zero_add]
      · rw [show (zM z { w with drawn := n } id c').φ id = w.heap.size from upd_self _ _ _]
        simp
  · cases h

end
end Go.Abs
end
section
/- Ranging over a text; texts and bytes. -/
namespace Go.Abs
section
variable {P : Program} {z : Cz} {σ : AH} {w : World}

def evRange (P : Program) (σ : AH) (t : TypeId) (x : AV) : Option (AV × AH) :=
  match x, P.underlying t with
  | .str s, some .string => some (.ptr σ.length 1 0 0, σ ++ [⟨0, 1, [], .iter s 0⟩])
  | _, _ => none
/-- A round of a range over a text: the next rune, if there is one. -/
def nextK (σ : AH) (id sz : Nat) : Kd → Option (AV × AH)
  | .iter s pos => if pos < s.size then some (.tuple [.bool true, .int .i64 pos, .int .i32 (Utf8.decode s pos).1], σ.set id ⟨sz, 1, [], .iter s (pos + (Utf8.decode s pos).2)⟩)
    else some (.tuple [.bool false], σ)
  | _ => none
def evNext (σ : AH) (x : AV) : Option (AV × AH) :=
  match x with
  | .ptr id 1 0 0 => match σ[id]? with
    | some o => match o.xs with
      | [] => if o.hw = 1 then nextK σ id o.sz o.kd else none
      | _ => none
    | none => none
  | _ => none

theorem range_run (hI : Inv z σ w) {t : TypeId} {x out : AV} {v : Value} {σ' : AH} (hx : R z σ w x v) (h : evRange P σ t x = some (out, σ')) :
    ∃ u w' z', (Instr.range t v).run P w = .ok u w' ∧ Ext z σ w z' σ' w' ∧ Inv z' σ' w' ∧ R z' σ' w' out u := by
  unfold evRange at h
  split at h
  · rename_i s hu
    cases h
    obtain rfl := hx
    have E := extOb z σ w hI (.stringIter s 0) ⟨0, 1, [], .iter s 0⟩ 1
    refine ⟨.pointer (some ⟨w.heap.size, 0, none⟩), moreO w (.stringIter s 0), _, ?_, E, invOb hI _ _ _ (by simp) (Nat.le_refl _) rfl trivial, ⟨0, 1, [], .iter s 0⟩, by simp, Nat.le_refl _, _, rfl, fun _ => ?_⟩
    · unfold Instr.range
      rw [run_bind_ok (under_run hu w)]
      rfl
    · rw [show (zO z σ w 1).φ σ.length = w.heap.size from upd_self _ _ _]
      rfl
  · cases h

theorem getObj_run {r : Nat} {s : ByteArray} {pos : Nat} (h : w.heap[r]? = some (.stringIter s pos)) : (getObj r).run P w = .ok (.stringIter s pos) w := by
  unfold getObj
  simp only [Sem.run, h]
theorem setObj_run {r : Nat} {s : ByteArray} {pos : Nat} (ob : Obj) (h : w.heap[r]? = some (.stringIter s pos)) : (setObj r ob).run P w = .ok () (wroteO w r ob) := by
  unfold setObj
  simp only [Sem.run, h]
  rfl

theorem next_run (hI : Inv z σ w) {ty : TypeId} {x out : AV} {v : Value} {σ' : AH} (hx : R z σ w x v) (h : evNext σ x = some (out, σ')) :
    ∃ u w' z', (Instr.next v true ty).run P w = .ok u w' ∧ Ext z σ w z' σ' w' ∧ Inv z' σ' w' ∧ R z' σ' w' out u := by
  unfold evNext at h
  split at h
  · rename_i id
    split at h
    · rename_i o ho
      split at h
      · rename_i hxs
        split at h
        · rename_i hhw
          obtain ⟨o', ho', _, a, rfl, ha⟩ := hx
          rw [ho] at ho'
          cases ho'
          obtain rfl := ha hhw.symm
          obtain ⟨g1, g2, g3, g4⟩ := hI.row id o ho
          have hk : z.κ id ≠ 0 := by omega
          have g3 := g3 hk
          unfold nextK at h
          split at h
          · rename_i s pos hkd
            rw [hkd] at g3
            have hob : w.heap[z.φ id]? = some (.stringIter s pos) := g3
            unfold Instr.next
            simp only [Nat.zero_mul, Nat.zero_add]
            rw [run_bind_ok (getObj_run hob)]
            simp only []
            split at h
            · rename_i hlt
              cases h
              rw [if_pos hlt]
              have hs : o.sz = (⟨o.sz, 1, [], .iter s (pos + (Utf8.decode s pos).2)⟩ : ARow).sz := rfl
              have E := extWb hI (o' := ⟨o.sz, 1, [], .iter s (pos + (Utf8.decode s pos).2)⟩) ho hk rfl (by rw [hhw]; exact Nat.le_refl _) (.stringIter s (pos + (Utf8.decode s pos).2))
              refine ⟨.tuple #[.bool true, goInt pos, .int .i32 (Utf8.decode s pos).1], _, z, ?_, E, invWb hI (o' := ⟨o.sz, 1, [], .iter s (pos + (Utf8.decode s pos).2)⟩) ho hk rfl (by rw [hhw]; exact Nat.le_refl _) _ (by simp) (by show 1 ≤ z.κ id; omega) rfl trivial, _, rfl, ?_⟩
              · rw [run_bind_ok (setObj_run _ hob)]
                rfl
              · exact ⟨_, _, rfl, rfl, _, _, rfl, rfl, _, _, rfl, rfl, rfl⟩
            · rename_i hlt
              cases h
              rw [if_neg hlt]
              exact ⟨_, w, z, rfl, Ext.refl _ _ _, hI, _, rfl, _, _, rfl, rfl, rfl⟩
          · cases h
        · cases h
      · cases h
    · cases h
  · cases h

/-! #### texts and bytes -/
def u8s : List AV → Option (List Int)
  | [] => some []
  | .int .u8 n :: xs => (u8s xs).map (n :: ·)
  | _ => none
def pushAll (ns : List Int) : ByteArray := ns.foldl (fun r n => r.push (UInt8.ofNat n.toNat)) ByteArray.empty
def strOf (xs : List AV) : Option AV := (u8s xs).map fun ns => .str (pushAll ns)
theorem u8s_eq : ∀ {xs : List AV} {ns : List Int}, u8s xs = some ns → xs = ns.map (.int .u8)
  | [], ns, h => by cases h; rfl
  | x :: xs, ns, h => by
    unfold u8s at h
    split at h
    · rename_i he
      cases he
    · rename_i n ys he
      cases he
      cases hu : u8s xs with
      | none => rw [hu] at h; cases h
      | some ms =>
        rw [hu] at h
        cases h
        rw [u8s_eq hu]
        rfl
    · cases h
theorem push_list (l : List UInt8) : ∀ acc : ByteArray, (l.map fun b => (b.toNat : Int)).foldl (fun r n => r.push (UInt8.ofNat n.toNat)) acc = ⟨acc.data ++ l.toArray⟩ := by
  induction l with
  | nil => intro acc; simp
  | cons b l ih =>
    intro acc
    simp only [List.map_cons, List.foldl_cons]
    rw [ih]
    apply ByteArray.ext
    simp [ByteArray.push]
theorem u8s_bytesA (s : ByteArray) : u8s (bytesA s) = some (s.data.toList.map fun b => (b.toNat : Int)) := by
  unfold bytesA
  generalize s.data.toList = l
  induction l with
  | nil => rfl
  | cons b l ih => simp only [List.map_cons, u8s, ih, Option.map_some]
theorem strOf_bytesA (s : ByteArray) : strOf (bytesA s) = some (.str s) := by
  unfold strOf pushAll
  rw [u8s_bytesA, Option.map_some, push_list]
  congr 2
  apply ByteArray.ext
  simp

/-- Bytes to a text, or back. -/
def evCvt (P : Program) (σ : AH) (s d : TypeId) (x : AV) : Option AV :=
  match P.underlying s, P.underlying d with
  | some .string, some (.slice e) => match P.underlying e, x with
    | some (.int .u8), .str b => some (.sl 1 (bytesA b))
    | _, _ => none
  | some (.slice e), some .string => match P.underlying e with
    | some (.int .u8) => match x with
      | .str _ => none
      | x => (srcA σ 1 x).bind strOf
    | _ => none
  | _, _ => none

theorem cvt_run (hI : Inv z σ w) {s d : TypeId} {x out : AV} {v : Value} (hx : R z σ w x v) (h : evCvt P σ s d x = some out) :
    ∃ u w' z', (convert s d v).run P w = .ok u w' ∧ Ext z σ w z' σ w' ∧ Inv z' σ w' ∧ R z' σ w' out u := by
  unfold evCvt at h
  split at h
  · rename_i e hs hd
    split at h
    · rename_i b he
      cases h
      obtain rfl := hx
      have hconv : (convert s d (.string b)).run P w = (Conv.stringToBytes e b).run P w := by
        unfold convert
        rw [run_bind_ok (under_run hs w), run_bind_ok (under_run hd w)]
        simp only []
        rw [run_bind_ok (under_run he w)]
      rw [hconv]
      obtain ⟨c, n, hc, hch⟩ := choose_cap (P := P) b.size 0 e w
      let cells : Array Value := (b.data.map fun x => Value.int .u8 x.toNat) ++ Array.replicate (c - b.size) (.int .u8 0)
      have hlen : (bytesA b).length = b.size := by
        simp only [bytesA, List.length_map, Array.length_toList]
        rfl
      have hsh : (more { w with drawn := n } cells e).shape? w.heap.size = some (e, cells.size) := by
        simp [World.shape?, more, moreO]
      have hw3 : (more { w with drawn := n } cells e).freeze ⟨w.heap.size, cells.size, none⟩ 1 = moreO { w with drawn := n } (.cells cells e (cells.size, cells.size + 1)) := by
        unfold World.freeze more moreO
        simp only [Nat.one_ne_zero, if_false]
        congr 1
        apply Array.ext
        · simp
        · intro k h1 h2
          rw [Array.getElem_modify]
          simp only [Array.getElem_push]
          by_cases hk : k < w.heap.size
          · simp only [hk, dif_pos]
            rw [if_neg (by omega)]
          · have : w.heap.size = k := by simp at h1; omega
            simp [this]
      have hrun : (Conv.stringToBytes e b).run P w = .ok (.slice (some ⟨w.heap.size, 0, none⟩) b.size c) (moreO { w with drawn := n } (.cells cells e (cells.size, cells.size + 1))) := by
        unfold Conv.stringToBytes
        rw [run_bind_ok hch]
        simp only []
        rw [run_bind_ok (show (newRow e cells).run P { w with drawn := n } = .ok ⟨w.heap.size, 0, none⟩ (more { w with drawn := n } cells e) from rfl)]
        have hm : (markStringish ⟨w.heap.size, 0, none⟩).run P (more { w with drawn := n } cells e) = .ok () (moreO { w with drawn := n } (.cells cells e (cells.size, cells.size + 1))) := by
          unfold markStringish
          rw [run_bind_ok (show (shape w.heap.size).run P (more { w with drawn := n } cells e) = .ok (some (e, cells.size)) (more { w with drawn := n } cells e) from by simp [shape, Sem.run, hsh])]
          simp only []
          unfold freeze
          simp only [Sem.run]
          rw [hw3]
        rw [run_bind_ok hm]
        rfl
      have hI' := invD hI n
      have E := extFb z σ { w with drawn := n } hI' (.cells cells e (cells.size, cells.size + 1))
      refine ⟨_, _, _, hrun, (extD z σ w n).trans E, invFb hI' _, _, c, by rw [hlen], by rw [hlen]; exact hc, .inr ⟨_, rfl, rfl, .inr rfl, ?_⟩⟩
      refine RArr.rsl (ds := cells) (T := e) (fr := (cells.size, cells.size + 1)) ?_ (moreO_new { w with drawn := n } _)
      intro i x hx
      simp only [bytesA, List.getElem?_map, Option.map_eq_some_iff] at hx
      obtain ⟨u, hu, rfl⟩ := hx
      refine ⟨.int .u8 u.toNat, rfl, rfl, fun j q hq => ?_⟩
      match j, hq with
      | 0, hq =>
        simp only [Value.cells, List.getElem?_cons_zero, Option.some.injEq] at hq
        subst hq
        refine ⟨?_, rfl⟩
        have hu' : b.data[i]? = some u := by simpa using hu
        have hil := (Array.getElem?_eq_some_iff.1 hu').1
        show ((b.data.map fun x => Value.int .u8 x.toNat) ++ Array.replicate (c - b.size) (.int .u8 0))[i * 1 + 0]? = _
        rw [Nat.mul_one, Nat.add_zero, Array.getElem?_append_left (by simpa using hil)]
        simp [hu']
    · cases h
  · rename_i e hs hd
    split at h
    · rename_i he
      have hconv : ∀ a l c, (convert s d (.slice a l c)).run P w = (Conv.bytesToString (.slice a l c)).run P w := fun a l c => run_convert_bytes_string w s d e a l c hs he hd
      have key : ∀ {a l c ys ns}, (srcA σ 1 x) = some ys → u8s ys = some ns → v = .slice a l c → ∃ u w' z', (convert s d v).run P w = .ok u w' ∧ Ext z σ w z' σ w' ∧ Inv z' σ w' ∧ R z' σ w' (.str (pushAll ns)) u := by
        intro a l c ys ns hsrc hns hv
        subst hv
        obtain ⟨h1, ds, h2, h3, h4, h5⟩ := src_run (P := P) hI hx hsrc
        have hys := u8s_eq hns
        have hl : ys.length = l := by
          simp only [Builtin.lenOf] at h1
          cases h1
          rfl
        rw [hconv]
        refine ⟨_, w, z, ?_, Ext.refl _ _ _, hI, rfl⟩
        cases a with
        | none =>
          have h2' : ds = #[] := by
            simp only [Builtin.firstCells] at h2
            cases h2
            rfl
          subst h2'
          have : ys = [] := List.eq_nil_of_length_eq_zero (by simpa using h3.symm)
          subst this
          cases hns
          rfl
        | some a =>
          refine run_bytesToString w a l c ns ?_
          have h2' : (loadCells a (ys.length * 1)).run P w = .ok ds w := h2
          rw [Nat.mul_one, hl] at h2'
          rw [h2']
          congr 1
          have hnl : ns.length = ys.length := by rw [hys]; simp
          apply Array.ext
          · simp; omega
          · intro i q1 q2
            have hi : i < ns.length := by simpa using q2
            obtain ⟨v', r1, r2, r3⟩ := h5 i (.int .u8 ns[i]) (by rw [hys]; simp [hi])
            obtain rfl := r1
            have := (r3 0 _ rfl).1
            rw [Nat.mul_one, Nat.add_zero, Array.getElem?_eq_getElem q1] at this
            simp only [Option.some.injEq] at this
            rw [this]
            simp
      cases hsrc : srcA σ 1 x with
      | none =>
        split at h
        · cases h
        · rw [hsrc] at h
          cases h
      | some ys =>
        have hv : ∃ a l c, v = .slice a l c ∨ ∃ b, x = .str b := by
          cases x <;> first
            | (cases hsrc; done)
            | (simp only [srcA] at hsrc; cases hsrc; done)
            | skip
          · exact ⟨none, 0, 0, .inr ⟨_, rfl⟩⟩
          · exact ⟨none, 0, 0, .inl hx⟩
          · obtain ⟨a, rfl⟩ := hx
            exact ⟨a, 0, 0, .inl rfl⟩
          · obtain ⟨a, c, rfl, _⟩ := hx
            exact ⟨_, _, _, .inl rfl⟩
          · obtain ⟨_, _, _, _, a, c, rfl, _⟩ := hx
            exact ⟨_, _, _, .inl rfl⟩
        obtain ⟨a, l, c, hv | ⟨b, rfl⟩⟩ := hv
        · have h' : strOf ys = some out := by
            split at h
            · cases h
            · rw [hsrc] at h
              exact h
          unfold strOf at h'
          cases hns : u8s ys with
          | none => rw [hns] at h'; cases h'
          | some ns =>
            rw [hns] at h'
            cases h'
            exact key hsrc hns hv
        · cases h
    · cases h
  · cases h
end
end Go.Abs
end
