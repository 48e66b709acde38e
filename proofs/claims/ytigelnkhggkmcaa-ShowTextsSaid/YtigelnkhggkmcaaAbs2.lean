/- Lemmas that the claim leans on. -/
import Derived.Lib.Builder
import Derived.Lib.UnsafeStr
import Derived.KernelRfl
import Derived.Test.YtigelnkhggkmcaaAbs1
set_option linter.all false
section
/- What strings.Builder does: its own address, its bytes as a text. -/
namespace Go.Abs
section
variable {P : Program} {z : Cz} {σ : AH} {w : World}

theorem cellsOf_of {t : TypeId} {n : Nat} (h : szT P t = some n) : P.cellsOf t = n := by
  unfold szT at h
  unfold Program.cellsOf
  rw [h]
  rfl
theorem lies_self {e : TypeId} {s count n : Nat} (hc : P.cellsOf e = s) (hs : s ≠ 0) (hn : n ≤ count) : liesAt P P.depth e count 0 e n = true := by
  have hd : P.depth = (2 * (P.types.size + Made.depth) + 1) + 1 := rfl
  rw [hd]
  simp only [liesAt, Bool.or_eq_true]
  left
  rw [hd]
  simp [rowAt, hc, hs, hn, sameLayout]

/-- A pointer to unsafe.Pointer, or back. -/
def evUp (P : Program) (σ : AH) (s d : TypeId) (x : AV) : Option AV :=
  match x with
  | .ptr id hw 0 0 => match σ[id]? with
    | some o => if hw = o.hw ∧ 0 < o.hw ∧ 0 < o.sz then (match P.underlying s, P.underlying d with
      | some (.pointer t), some .unsafePointer => match szT P t with
        | some (_ + 1) => if o.kd.open = true then some x else none
        | _ => none
      | some .unsafePointer, some (.pointer u) => if szT P u = some o.sz ∧ o.kd.isOf u = true then some x else none
      | _, _ => none) else none
    | none => none
  | _ => none
theorem up_run (hI : Inv z σ w) {s d : TypeId} {x out : AV} {v : Value} (hx : R z σ w x v) (h : evUp P σ s d x = some out) :
    ∃ u, (convert s d v).run P w = .ok u w ∧ R z σ w out u := by
  unfold evUp at h
  split at h
  · rename_i id hw
    split at h
    · rename_i o ho
      split at h
      · rename_i hcond
        obtain ⟨hhw, h0, hsz⟩ := hcond
        have hx' := hx
        obtain ⟨o', ho', _, a, rfl, ha⟩ := hx
        rw [ho] at ho'
        cases ho'
        obtain rfl := ha hhw
        obtain ⟨g1, g2, g3, g4⟩ := hI.row id o ho
        have hk : z.κ id ≠ 0 := by omega
        have g3 := g3 hk
        have hle : o.sz ≤ z.κ id * o.sz := Nat.le_mul_of_pos_left _ (by omega)
        split at h
        · rename_i t hs hd
          split at h
          · rename_i n hn
            split at h
            · rename_i hop
              cases h
              obtain ⟨c, T, fr, hb, hcs, _⟩ := Kd.at_open hop g3
              have hsh : w.shape? (z.φ id) = some (T, c.size) := by simp [World.shape?, hb]
              unfold szT at hn
              cases hj : P.info? t with
              | none => rw [hj] at hn; cases hn
              | some j =>
                rw [hj] at hn
                simp only [Option.map_some, Option.some.injEq] at hn
                exact ⟨_, Lib.run_to_unsafe w ⟨z.φ id, 0 * o.sz + 0, none⟩ hs hd hj (by omega) hsh (by show 0 * o.sz + 0 < c.size; omega), hx'⟩
            · cases h
          · cases h
        · rename_i u hs hd
          split at h
          · rename_i hc2
            obtain ⟨hsu, hof⟩ := hc2
            cases h
            have hkd := Kd.of_isOf hof
            obtain ⟨c, T, fr, hb, hcs, hok⟩ := Kd.at_open (by rw [hkd]; rfl) g3
            rw [hkd] at hok
            obtain ⟨rfl, rfl⟩ := hok
            have hsh : w.shape? (z.φ id) = some (u, c.size) := by simp [World.shape?, hb]
            have hcell := cellsOf_of hsu
            have hj : ∃ j, P.info? u = some j := by
              unfold szT at hsu
              cases hj : P.info? u with
              | none => rw [hj] at hsu; cases hsu
              | some j => exact ⟨j, rfl⟩
            obtain ⟨j, hj⟩ := hj
            refine ⟨_, Lib.run_from_unsafe w ⟨z.φ id, 0 * o.sz + 0, none⟩ hs hd hj hsh ?_, hx'⟩
            show liesAt P P.depth u (c.size / P.cellsOf u) (0 * o.sz + 0) u 1 = true
            rw [Nat.zero_mul, Nat.zero_add]
            refine lies_self hcell (by omega) ?_
            rw [hcell, hcs, Nat.mul_div_cancel _ hsz]
            omega
          · cases h
        · cases h
      · cases h
    · cases h
  · cases h

/-- A pointer held against itself. -/
def evSame (P : Program) (σ : AH) (op : BinOp) (t : TypeId) (x y : AV) : Option AV :=
  match op, x, y with
  | .neq, .ptr id hw i off, .ptr id' hw' i' off' => match σ[id]?, P.underlying t with
    | some o, some (.pointer te) => if hw = o.hw ∧ id' = id ∧ hw' = hw ∧ i' = i ∧ off' = off ∧ (P.info? te).isSome = true then some (.bool false) else none
    | _, _ => none
  | _, _, _ => none
theorem same_run {op : BinOp} {t : TypeId} {x y out : AV} {u v : Value} (hx : R z σ w x u) (hy : R z σ w y v) (h : evSame P σ op t x y = some out) :
    ∃ r, (binOp op t u v).run P w = .ok r w ∧ R z σ w out r ∧ ∃ p q, u = .pointer p ∧ v = .pointer q := by
  unfold evSame at h
  split at h
  · split at h
    · rename_i o te ho ht
      split at h
      · rename_i hc
        obtain ⟨rfl, rfl, rfl, rfl, rfl, hi⟩ := hc
        cases h
        obtain ⟨o1, h1, _, a, rfl, ha⟩ := hx
        obtain ⟨o2, h2, _, b, rfl, hb⟩ := hy
        rw [ho] at h1 h2
        cases h1
        cases h2
        obtain rfl := ha rfl
        obtain rfl := hb rfl
        obtain ⟨j, hj⟩ := Option.isSome_iff_exists.1 hi
        exact ⟨_, Lib.run_neq_ptr_same w _ ht hj, rfl, _, _, rfl, rfl⟩
      · cases h
    · cases h
  · cases h

def byOf : List AV → Option (List UInt8)
  | [] => some []
  | .int .u8 n :: xs => if ((UInt8.ofNat n.toNat).toNat : Int) = n then (byOf xs).map (UInt8.ofNat n.toNat :: ·) else none
  | _ => none
theorem byOf_eq : ∀ {xs : List AV} {l : List UInt8}, byOf xs = some l → xs = l.map fun b => .int .u8 b.toNat
  | [], l, h => by cases h; rfl
  | x :: xs, l, h => by
    unfold byOf at h
    split at h
    · rename_i he
      cases he
    · rename_i n ys he
      cases he
      split at h
      · rename_i hn
        cases hu : byOf xs with
        | none => rw [hu] at h; cases h
        | some ms =>
          rw [hu] at h
          cases h
          rw [byOf_eq hu]
          simp only [List.map_cons, hn]
      · cases h
    · cases h
theorem byOf_map (l : List UInt8) : byOf (l.map fun b => .int .u8 b.toNat) = some l := by
  induction l with
  | nil => rfl
  | cons b l ih =>
    simp only [List.map_cons, byOf, ih, Option.map_some]
    rw [if_pos (by simp)]
    simp
/-- unsafe.String over a row of bytes: it may not be written any more. -/
def evUnsStr (P : Program) (σ : AH) (t : TypeId) (x y : AV) : Option (AV × AH) :=
  match x, y with
  | .nilptr, .int .i64 0 => some (.str .empty, σ)
  | .ptr id hw 0 0, .int .i64 n => match σ[id]?, P.underlying t with
    | some o, some (.pointer e) => if hw = o.hw ∧ o.sz = 1 ∧ 0 < n ∧ n ≤ 9223372036854775807 ∧ n.toNat = o.xs.length ∧ o.kd.isOf e = true ∧ szT P e = some 1 then
        (byOf o.xs).map fun l => (.str ⟨l.toArray⟩, σ.set id ⟨o.sz, o.hw, o.xs, .sealed⟩) else none
    | _, _ => none
  | _, _ => none
theorem unsStr_run (hI : Inv z σ w) {t it ty : TypeId} {x y out : AV} {u v : Value} {σ' : AH} (hx : R z σ w x u) (hy : R z σ w y v) (h : evUnsStr P σ t x y = some (out, σ')) :
    ∃ r w' z', (Builtin.unsafeString_ #[t, it] ty #[u, v]).run P w = .ok r w' ∧ Ext z σ w z' σ' w' ∧ Inv z' σ' w' ∧ R z' σ' w' out r := by
  unfold evUnsStr at h
  split at h
  · cases h
    obtain rfl := hx
    obtain rfl := hy
    exact ⟨_, w, z, Lib.run_unsafeString_none w t it ty none, Ext.refl _ _ _, hI, rfl⟩
  · rename_i id hw n
    split at h
    · rename_i o e ho ht
      split at h
      · rename_i hc
        obtain ⟨hhw, hsz, hn0, hmax, hlen, hof, hse⟩ := hc
        cases hb : byOf o.xs with
        | none => rw [hb] at h; cases h
        | some l =>
          rw [hb] at h
          cases h
          obtain ⟨o1, h1, _, a, rfl, ha⟩ := hx
          rw [ho] at h1
          cases h1
          have ha := ha hhw
          rw [Nat.zero_mul, Nat.zero_add] at ha
          subst ha
          obtain rfl := hy
          obtain ⟨g1, g2, g3, g4⟩ := hI.row id o ho
          have hxs := byOf_eq hb
          have hll : l.length = o.xs.length := by rw [hxs]; simp
          have hk : z.κ id ≠ 0 := by omega
          have hkd := Kd.of_isOf hof
          have g3 := g3 hk
          obtain ⟨c, T, fr, hob, hcs, hok⟩ := Kd.at_open (by rw [hkd]; rfl) g3
          rw [hkd] at hok
          obtain ⟨rfl, rfl⟩ := hok
          have hsh : w.shape? (z.φ id) = some (e, c.size) := by simp [World.shape?, hob]
          have hne : l ≠ [] := by
            intro hl0
            rw [hl0] at hll
            simp at hll
            omega
          have hcell : ∀ j b, l[j]? = some b → w.cell? ((⟨z.φ id, 0, none⟩ : Addr).add j) = some (.int .u8 b.toNat) := by
            intro j b hj
            obtain ⟨v, r1, r2, r3⟩ := g4.get j (.int .u8 b.toNat) (by rw [hxs, List.getElem?_map, hj]; rfl)
            obtain rfl := r1
            have := (r3 0 _ rfl).1
            rw [hsz, Nat.mul_one, Nat.zero_add, Nat.add_zero] at this
            rw [Addr_add _ rfl j]
            simpa using this
          have hrun := Lib.run_unsafeString_row (P := P) w t it ty e ht (cellsOf_of hse) (z.φ id) c.size hsh l hne (by rw [hcs, hsz]; omega) (by omega) hcell
          have hnl : (l.length : Int) = n := by omega
          rw [hnl] at hrun
          have hw' : w.freeze ⟨z.φ id, 0, none⟩ l.length = wroteO w (z.φ id) (.cells c e (0, 0 + l.length)) := by
            unfold World.freeze wroteO
            rw [if_neg (by omega)]
            congr 1
            obtain ⟨hlt, he⟩ := Array.getElem?_eq_some_iff.1 hob
            apply Array.ext
            · simp
            · intro i q1 q2
              rw [Array.getElem_modify, Array.getElem_setIfInBounds (by simpa using q1)]
              by_cases hi : z.φ id = i
              · subst hi
                simp [he]
              · simp [hi]
          have E := extWb hI (o' := ⟨o.sz, o.hw, o.xs, .sealed⟩) ho hk rfl (Nat.le_refl _) (.cells c e (0, 0 + l.length))
          have hR : RSl z (σ.set id ⟨o.sz, o.hw, o.xs, .sealed⟩) (wroteO w (z.φ id) (.cells c e (0, 0 + l.length))) (z.φ id) o.sz 0 o.xs := by
            refine RSl.of_get fun i x hx => ?_
            obtain ⟨v, r1, r2, r3⟩ := g4.get i x hx
            refine ⟨v, r1.mono E, r2, fun j q hq => ?_⟩
            have := r3 j q hq
            refine ⟨?_, this.2⟩
            have hc1 := this.1
            simp only [World.cell?] at hc1 ⊢
            rw [wroteO_self w _ (hI.lt (List.getElem?_eq_some_iff.1 ho).1 hk)]
            rw [hob] at hc1
            exact hc1
          refine ⟨_, _, z, hrun, ?_, ?_, rfl⟩
          · rw [hw']; exact E
          · rw [hw']
            exact invWb hI (o' := ⟨o.sz, o.hw, o.xs, .sealed⟩) ho hk rfl (Nat.le_refl _) _ g1 g2 ⟨c, e, _, rfl, hcs, trivial⟩ hR
      · cases h
    · cases h
  · cases h
end
end Go.Abs
end
section
/- Literals of slices; new variables; all operations that touch memory. -/
namespace Go.Abs
section
variable {P : Program} {z : Cz} {σ : AH} {w : World} {es : Operand → Option AV} {ρ : Operand → Value}

theorem foldl_put {off : Nat} : ∀ (us : List Value) (j : Nat) (ds : Array Value), (us.zipIdx j).foldl (fun cs (c, k) => cs.setIfInBounds (off + k) c) ds = putAll' ds (off + j) us
  | [], _, _ => rfl
  | u :: us, j, ds => by
    simp only [List.zipIdx_cons, List.foldl_cons, putAll']
    rw [foldl_put us (j + 1)]
    rfl

theorem RArr.put {sz i : Nat} {xs : List AV} {ds : Array Value} {x : AV} {v : Value} (h : RArr z σ w sz xs ds) (hd : ds.size = xs.length * sz) (hi : i < xs.length) (hx : R z σ w x v) (hs : v.cells.size = sz)
    (hok : (cellsA x).all okA = true) : RArr z σ w sz (xs.set i x) (putAll' ds (i * sz) v.cells.toList) := by
  have hfit : i * sz + sz ≤ ds.size := by
    rw [hd, ← Nat.succ_mul]
    exact Nat.mul_le_mul_right _ hi
  have get : ∀ k, (putAll' ds (i * sz) v.cells.toList)[k]? = if i * sz ≤ k ∧ k < i * sz + sz then v.cells.toList[k - i * sz]? else ds[k]? := by
    intro k
    rw [putAll'_get _ _ _ (by rw [Array.length_toList, hs]; exact hfit), Array.length_toList, hs]
  intro j y hy
  by_cases hj : j = i
  · subst hj
    rw [List.getElem?_set_self hi] at hy
    cases hy
    refine ⟨v, hx, hs, fun k u hu => ⟨?_, (R_cells hx).okV hok u (List.mem_of_getElem? hu)⟩⟩
    have hk : k < sz := by
      have := (List.getElem?_eq_some_iff.1 hu).1
      rw [Array.length_toList, hs] at this
      exact this
    rw [get, if_pos (by omega), show j * sz + k - j * sz = k by omega]
    exact hu
  · rw [List.getElem?_set_ne (Ne.symm hj)] at hy
    obtain ⟨u, h1, h2, h3⟩ := h j y hy
    refine ⟨u, h1, h2, fun k p hp => ⟨?_, (h3 k p hp).2⟩⟩
    have hk : k < sz := by
      have := (List.getElem?_eq_some_iff.1 hp).1
      rw [Array.length_toList, h2] at this
      exact this
    rw [get, if_neg ?_]
    · exact (h3 k p hp).1
    · rcases Nat.lt_or_ge j i with hlt | hge
      · have : (j + 1) * sz ≤ i * sz := Nat.mul_le_mul_right _ (by omega)
        rw [Nat.succ_mul] at this
        omega
      · have : (i + 1) * sz ≤ j * sz := Nat.mul_le_mul_right _ (by omega)
        rw [Nat.succ_mul] at this
        omega

def evElems (es : Operand → Option AV) (sz : Nat) (xs : List AV) : List (Nat × Operand) → Option (List AV)
  | [] => some xs
  | (i, x) :: rest => match es x with
    | some v => if (cellsA v).length = sz ∧ i < xs.length ∧ (cellsA v).all okA = true then evElems es sz (xs.set i v) rest else none
    | none => none

theorem elems_run {sz : Nat} : ∀ {parts : List (Nat × Operand)} {xs out : List AV} {ds : Array Value},
    (∀ p ∈ parts, ∀ a, es p.2 = some a → R z σ w a (ρ p.2)) → RArr z σ w sz xs ds → ds.size = xs.length * sz → evElems es sz xs parts = some out →
    ∃ ds', Instr.fill (fun i => some (i * sz, sz)) ds (parts.map fun (i, x) => (i, ρ x)) = some ds' ∧ RArr z σ w sz out ds' ∧ ds'.size = out.length * sz
  | [], xs, out, ds, _, h, hd, e => by
    cases e
    exact ⟨ds, rfl, h, hd⟩
  | (i, x) :: rest, xs, out, ds, hp, h, hd, e => by
    simp only [evElems] at e
    split at e
    · rename_i v hx
      split at e
      · rename_i hc
        obtain ⟨hc1, hc2, hc3⟩ := hc
        have hR := hp (i, x) (List.mem_cons_self ..) v hx
        have hs : (ρ x).cells.size = sz := by have := (R_cells hR).length; simp at this; omega
        have hfit : i * sz + sz ≤ ds.size := by
          rw [hd, ← Nat.succ_mul]
          exact Nat.mul_le_mul_right _ hc2
        obtain ⟨ds', h1, h2, h3⟩ := elems_run (fun p hpm => hp p (List.mem_cons_of_mem _ hpm)) (h.put hd hc2 hR hs hc3) (by rw [putAll'_size, List.length_set]; exact hd) e
        refine ⟨ds', ?_, h2, h3⟩
        simp only [List.map_cons, Instr.fill]
        rw [if_neg (by rw [hs]; simp; omega), ← h1]
        congr 1
        rw [← Array.foldl_toList, Array.toList_zipIdx, foldl_put]
        rfl
      · cases e
    · cases e

def evBuildSlice (P : Program) (σ : AH) (hold : Bool) (es : Operand → Option AV) (t : TypeId) (n : Nat) (parts : List (Nat × Operand)) : Option (AV × AH) :=
  match P.underlying t with
  | some (.slice e) => match szT P e, zeroA P e with
    | some sz, some zx => if (cellsA zx).length = sz ∧ (cellsA zx).all okA = true ∧ n * sz ≤ 16777216 then (match evElems es sz (List.replicate n zx) parts with
      | some xs => some (newSl σ hold e sz xs)
      | none => none) else none
    | _, _ => none
  | _ => none

theorem evElems_length {sz : Nat} : ∀ {parts : List (Nat × Operand)} {xs out : List AV}, evElems es sz xs parts = some out → out.length = xs.length
  | [], _, _, h => by cases h; rfl
  | (i, x) :: rest, xs, out, h => by
    simp only [evElems] at h
    split at h
    · split at h
      · have := evElems_length h
        simpa using this
      · cases h
    · cases h

theorem buildSlice_run (hI : Inv z σ w) {hold : Bool} {t : TypeId} {n : Nat} {parts : Array (Nat × Operand)} {out : AV} {σ' : AH} (hp : ∀ p ∈ parts.toList, ∀ a, es p.2 = some a → R z σ w a (ρ p.2))
    (h : evBuildSlice P σ hold es t n parts.toList = some (out, σ')) :
    ∃ v w' z', (Instr.buildSlice t n (parts.map fun (i, x) => (i, ρ x))).run P w = .ok v w' ∧ Ext z σ w z' σ' w' ∧ Inv z' σ' w' ∧ R z' σ' w' out v := by
  unfold evBuildSlice at h
  split at h
  case h_2 => cases h
  rename_i e hu
  split at h
  case h_2 => cases h
  rename_i sz zx hsz hz
  split at h
  case isFalse => cases h
  rename_i hc
  obtain ⟨hl, hok, hn⟩ := hc
  split at h
  case h_2 => cases h
  rename_i xs hxs
  simp only [Option.some.injEq] at h
  obtain ⟨zv, hzr, hzR⟩ := zeroA_run (P := P) (w := w) (z := z) (σ := σ) hz
  have hR := RArr_zeros hzR hok n
  rw [hl] at hR
  obtain ⟨ds, h1, h2, h3⟩ := elems_run hp hR (by simp) hxs
  have hxl : xs.length = n := by rw [evElems_length hxs]; simp
  obtain ⟨z', E, hI', hr⟩ := newSl_R hI (hold := hold) (cap := n) e h2 (by rw [h3, hxl]) (by omega)
  rw [h] at E hI' hr
  rw [hxl] at hr
  refine ⟨_, _, z', ?_, E, hI', hr⟩
  unfold Instr.buildSlice
  rw [run_bind_ok (under_run hu w)]
  simp only []
  rw [run_bind_ok (szT_run hsz w), if_neg (by show ¬ n * sz > 16777216; omega)]
  by_cases h00 : n * sz = 0
  · have e0 : ∀ f : Nat → Value, (Array.range 0).map f = #[] := fun f => by simp
    rw [if_pos h00, run_bind_ok (run_pure' P _ w)]
    rw [h00, e0] at h1
    simp only [Array.toList_map, h00, e0, h1]
    rfl
  · rw [if_neg h00, run_bind_ok hzr, run_bind_ok (run_pure' P _ w)]
    simp only [Array.toList_map, h1]
    rfl

/-! #### all of it -/
/-- Conversions that look into memory, or make some. -/
def evCv1 (P : Program) (σ : AH) (s d : TypeId) (y : AV) : Option AV :=
  match evCvt P σ s d y with
  | some v => some v
  | none => evUp P σ s d y
def evCv (P : Program) (σ : AH) (s d : TypeId) (y : AV) : Option (AV × AH) := (evCv1 P σ s d y).map fun v => (v, σ)
/-- What is looked up in regions of the text's order only. -/
def evAux (P : Program) (σ : AH) (op : Op) (es : Operand → Option AV) : Option AV :=
  match op with
  | .binOp op t x y _ => match es x, es y with
    | some a, some b => evSame P σ op t a b
    | _, _ => none
  | _ => none
def evEff (P : Program) (σ : AH) (hold : Bool) (op : Op) (es : Operand → Option AV) : Option (AV × AH) :=
  match op with
  | .load t a => match es a with
    | some x => (evLoad P σ t x).map fun y => (y, σ)
    | none => none
  | .store t a v => match es a, es v with
    | some x, some y => (evStore P σ t x y).map fun σ' => (undefA, σ')
    | _, _ => none
  | .box t x => match es x with
    | some y => evBox σ hold t y
    | none => none
  | .alloc t => match zeroA P t with
    | some y => evBox σ hold t y
    | none => none
  | .buildSlice t n parts => evBuildSlice P σ hold es t n parts.toList
  | .makeSlice t l c => match es l, es c with
    | some x, some y => evMake P σ hold t x y
    | _, _ => none
  | .call c => match c.callee, evL es c.args.toList, c.argTypes.toList with
    | .builtin .append, some [x, y], tx :: ty :: _ => evAppend P σ hold tx ty x y
    | .builtin .unsafeString, some [x, y], [tx, _] => evUnsStr P σ tx x y
    | _, _, _ => none
  | .range t x => match es x with
    | some y => evRange P σ t y
    | none => none
  | .next x b => match es x, b with
    | some y, true => evNext σ y
    | _, _ => none
  | .convert s d x => match es x with
    | some y => evCv P σ s d y
    | none => none
  | _ => none

/-- What an operation of the model does: it gives a value, calls, or gives none. -/
def Ran (P : Program) (K : Value → World → Prop) : Result Next → Prop
  | .ok (.value v) w => K v w
  | .ok .skip w => K undef w
  | .ok (.enter f args) w => Calls P f args w fun e w' => match e with
    | .returned v => K v w'
    | _ => False
  | _ => False

/-- An operation turns one abstract state into another, and gives `out`. -/
def AOp (P : Program) (o : Oper) (es : Operand → Option AV) (σ : AH) (out : AV) (σ' : AH) : Prop :=
  ∀ (z : Cz) (w : World) (ρ : Operand → Value), Inv z σ w → (∀ x ∈ o.op.operands, ∀ a, es x = some a → R z σ w a (ρ x)) →
    Ran P (fun v w' => ∃ z', Ext z σ w z' σ' w' ∧ Inv z' σ' w' ∧ R z' σ' w' out v) ((execOp ρ o).run P w)

theorem AOp.of_P {o : Oper} {out : AV} (h : evP P o.op es = some out) (σ : AH) : AOp P o es σ out σ := by
  intro z w ρ hI hρ
  obtain ⟨v, h1, h2⟩ := evP_run (P := P) (w := w) (z := z) (σ := σ) hρ h
  rw [h1]
  exact ⟨z, Ext.refl _ _ _, hI, h2⟩

theorem AOp.of_eff {hold : Bool} {o : Oper} {out : AV} {σ' : AH} (h : evEff P σ hold o.op es = some (out, σ')) : AOp P o es σ out σ' := by
  intro z w ρ hI hρ
  obtain ⟨dst, op, type, pos, after, guard⟩ := o
  simp only at hρ h
  have lift : ∀ {s : Sem Value}, (∃ v w' z', s.run P w = .ok v w' ∧ Ext z σ w z' σ' w' ∧ Inv z' σ' w' ∧ R z' σ' w' out v) →
      Ran P (fun v w' => ∃ z', Ext z σ w z' σ' w' ∧ Inv z' σ' w' ∧ R z' σ' w' out v) (((do pure (.value (← s))) : Sem Next).run P w) := by
    rintro s ⟨v, w', z', hv, hr⟩
    rw [run_bind_ok hv]
    exact ⟨z', hr⟩
  unfold evEff at h
  cases op
  case load t a =>
    simp only at h
    split at h
    · rename_i x hx
      cases hl : evLoad P σ t x with
      | none => rw [hl] at h; cases h
      | some y =>
        rw [hl] at h
        cases h
        obtain ⟨u, h1, h2⟩ := loadAt_run (P := P) hI (hρ a (by simp [Op.operands]) _ hx) hl
        exact lift ⟨u, w, z, h1, Ext.refl _ _ _, hI, h2⟩
    · cases h
  case store t a v =>
    simp only at h
    split at h
    · rename_i x y hx hy
      cases hl : evStore P σ t x y with
      | none => rw [hl] at h; cases h
      | some σ₁ =>
        rw [hl] at h
        cases h
        obtain ⟨w', h1, h2, h3⟩ := storeAt_run (P := P) hI (hρ a (by simp [Op.operands]) _ hx) (hρ v (by simp [Op.operands]) _ hy) hl
        simp only [execOp]
        rw [run_bind_ok h1]
        exact ⟨z, h2, h3, R_undef⟩
    · cases h
  case box t x =>
    simp only at h
    split at h
    · rename_i y hy
      obtain ⟨z', h1, h2, h3⟩ := box_run (t := t) hI (hρ x (by simp [Op.operands]) _ hy) h
      refine lift ⟨_, _, z', ?_, h1, h2, h3⟩
      unfold Instr.box
      rw [run_bind_ok (newVar_run t (ρ x))]
      rfl
    · cases h
  case alloc t =>
    simp only at h
    split at h
    · rename_i y hy
      obtain ⟨zv, hzr, hzR⟩ := zeroA_run (P := P) (w := w) (z := z) (σ := σ) hy
      obtain ⟨z', h1, h2, h3⟩ := box_run (t := t) hI hzR h
      refine lift ⟨_, _, z', ?_, h1, h2, h3⟩
      unfold Instr.alloc
      rw [run_bind_ok hzr]
      simp only []
      rw [run_bind_ok (newVar_run t zv)]
      rfl
    · cases h
  case buildSlice t n parts =>
    simp only at h
    refine lift (buildSlice_run hI (fun p hp => hρ p.2 ?_) h)
    simp only [Op.operands]
    simp
    exact ⟨p.1, by simpa using hp⟩
  case makeSlice t l c =>
    simp only at h
    split at h
    · rename_i x y hx hy
      exact lift (make_run hI (hρ l (by simp [Op.operands]) _ hx) (hρ c (by simp [Op.operands]) _ hy) h)
    · cases h
  case call c =>
    obtain ⟨callee, args, argTypes⟩ := c
    simp only at h
    split at h
    · rename_i x y tx ty ts has hts
      have hl : RL z σ w [x, y] (args.toList.map ρ) := evL_R (fun x hx => hρ x (by simp [Op.operands, Call.operands]; simpa using hx)) has
      obtain ⟨u, us, e, hx, u2, us2, e2, hy, hn⟩ := hl
      rw [show us2 = [] from hn] at e2
      rw [e2] at e
      have hargs : (args.map ρ).toList = args.toList.map ρ := by simp
      have ea : args.map ρ = #[u, u2] := by apply Array.ext'; rw [hargs, e]
      obtain ⟨v, w', z', h1, h2⟩ := append_run (P := P) (ts := argTypes) (ty := type) hI (by rw [← Array.getElem?_toList, hts]; rfl) (by rw [← Array.getElem?_toList, hts]; rfl) hx hy h
      simp only [execOp, resolve, ea]
      rw [run_bind_ok (run_pure' P _ w)]
      simp only [invoke, builtin]
      rw [run_bind_ok h1]
      exact ⟨z', h2⟩
    · rename_i x y tx ty has hts
      have hl : RL z σ w [x, y] (args.toList.map ρ) := evL_R (fun x hx => hρ x (by simp [Op.operands, Call.operands]; simpa using hx)) has
      obtain ⟨u, us, e, hx, u2, us2, e2, hy, hn⟩ := hl
      rw [show us2 = [] from hn] at e2
      rw [e2] at e
      have hargs : (args.map ρ).toList = args.toList.map ρ := by simp
      have ea : args.map ρ = #[u, u2] := by apply Array.ext'; rw [hargs, e]
      have et : argTypes = #[tx, ty] := by apply Array.ext'; rw [hts]
      obtain ⟨v, w', z', h1, h2⟩ := unsStr_run (P := P) (it := ty) (ty := type) hI hx hy h
      simp only [execOp, resolve, ea, et]
      rw [run_bind_ok (run_pure' P _ w)]
      simp only [invoke, builtin]
      rw [run_bind_ok h1]
      exact ⟨z', h2⟩
    · cases h
  case range t x =>
    simp only at h
    split at h
    · rename_i y hy
      exact lift (range_run hI (hρ x (by simp [Op.operands]) _ hy) h)
    · cases h
  case next x b =>
    simp only at h
    split at h
    · rename_i y hy
      exact lift (next_run hI (hρ x (by simp [Op.operands]) _ hy) h)
    · cases h
  case convert s d x =>
    simp only at h
    split at h
    · rename_i y hy
      have hx := hρ x (by simp [Op.operands]) _ hy
      unfold evCv at h
      cases hv : evCv1 P σ s d y with
      | none => rw [hv] at h; cases h
      | some v =>
        rw [hv] at h
        cases h
        unfold evCv1 at hv
        split at hv
        · rename_i v' hv'
          cases hv
          exact lift (cvt_run hI hx hv')
        · obtain ⟨u, h1, h2⟩ := up_run hI hx hv
          exact lift ⟨u, w, z, h1, Ext.refl _ _ _, hI, h2⟩
    · cases h
  all_goals cases h

theorem AOp.of_aux {o : Oper} {out : AV} (h : evAux P σ o.op es = some out) : AOp P o es σ out σ := by
  intro z w ρ hI hρ
  obtain ⟨dst, op, type, pos, after, guard⟩ := o
  simp only at hρ h
  unfold evAux at h
  cases op
  case binOp op t x y yt =>
    simp only at h
    split at h
    · rename_i a b ha hb
      obtain ⟨r, h1, h2, p, q, hp, hq⟩ := same_run (P := P) (hρ x (by simp [Op.operands]) _ ha) (hρ y (by simp [Op.operands]) _ hb) h
      have h3 : ((do eqGuard op t x y (ρ x) (ρ y); binOp op t (ρ x) (ρ y)) : Sem Value).run P w = .ok r w := by
        rw [run_bind_ok (eqGuard_plain (by rw [hp]; simp) (by rw [hp]; simp))]
        exact h1
      show Ran P _ (((do pure (.value (← ((do eqGuard op t x y (ρ x) (ρ y); binOp op t (ρ x) (ρ y)) : Sem Value)))) : Sem Next).run P w)
      rw [run_bind_ok h3]
      exact ⟨z, Ext.refl _ _ _, hI, h2⟩
    · cases h
  all_goals cases h

end
end Go.Abs
end
section
/- Code: what it turns a frame and the held rows into. -/
namespace Go.Abs

inductive AExit where
  | normal
  | exit (id : Nat)
  | goto (l : Nat)
  | ret
  | panic (v : AV)

inductive AOut where
  | ret (v : AV)
  | panic (v : AV)

def ExitR (z : Cz) (σ : AH) (w : World) : AExit → Exit → Prop
  | .normal, e => e = .normal
  | .exit id, e => e = .exit id
  | .goto l, e => e = .goto l
  | .ret, e => e = .ret
  | .panic x, e => ∃ v, e = .panic [{ v, recovered := false }] ∧ R z σ w x v

def OutR (z : Cz) (σ : AH) (w : World) : AOut → Ending → Prop
  | .ret x, e => ∃ v, e = .returned v ∧ R z σ w x v
  | .panic x, e => ∃ v, e = .panicked [{ v, recovered := false }] ∧ R z σ w x v

abbrev APost := AExit → List AV → AH → Prop

def Post (z₀ : Cz) (σ₀ : AH) (w₀ : World) (ds : List Deferred) (Q : APost) : Exit → Act → World → Prop := fun e a w =>
  ∃ z fr σ ae, Ext z₀ σ₀ w₀ z σ w ∧ Inv z σ w ∧ RL z σ w fr a.tmps.toList ∧ a.defers = ds ∧ ExitR z σ w ae e ∧ Q ae fr σ

/-- Code turns a frame and held rows into what `Q` says; the first `n` rows are not let go. -/
def AW (P : Program) (n : Nat) (c : Code) (fr : List AV) (σ : AH) (Q : APost) : Prop :=
  ∀ (z₀ : Cz) (σ₀ : AH) (w₀ : World) (z : Cz) (w : World) (a : Act), σ₀.length = n → Ext z₀ σ₀ w₀ z σ w → Inv z σ w → RL z σ w fr a.tmps.toList → c.wp P (Post z₀ σ₀ w₀ a.defers Q) a w

def callOk (P : Program) (f : FuncId) : Bool :=
  match P.funcs[f]? with
  | some fn => fn.body.isSome && !(fn.name == "runtime.NumGoroutine")
  | none => false

/-- A function without a body: what the model says of it. -/
def ARun (P : Program) (f : FuncId) (args : List AV) (σ : AH) (out : AOut) (σ' : AH) : Prop :=
  ∀ (z : Cz) (w : World) (vs : Array Value), Inv z σ w → RL z σ w args vs.toList →
    ∃ v w' z', (callFunc f vs).run P w = .ok (.value v) w' ∧ Ext z σ w z' σ' w' ∧ Inv z' σ' w' ∧ OutR z' σ' w' out (.returned v)
/-- A function: its arguments, what it gives. -/
def AFun (P : Program) (f : FuncId) (args : List AV) (σ : AH) (out : AOut) (σ' : AH) : Prop :=
  (callOk P f = true ∧ ∀ (z : Cz) (w : World) (vs : Array Value), Inv z σ w → RL z σ w args vs.toList →
    Calls P f vs w fun e w' => ∃ z', Ext z σ w z' σ' w' ∧ Inv z' σ' w' ∧ OutR z' σ' w' out e) ∨ ARun P f args σ out σ'

/-- What is known may be said in another way: `fr'` and `σ'` hold wherever `fr` and `σ` do; the first `n` rows stay. -/
def Turn (n : Nat) (fr : List AV) (σ : AH) (fr' : List AV) (σ' : AH) : Prop :=
  ∀ (z₀ : Cz) (σ₀ : AH) (w₀ : World) (z : Cz) (w : World) (vs : List Value), σ₀.length = n → Ext z₀ σ₀ w₀ z σ w → Inv z σ w → RL z σ w fr vs → ∃ z', Ext z₀ σ₀ w₀ z' σ' w ∧ Inv z' σ' w ∧ RL z' σ' w fr' vs
theorem Turn.refl (n : Nat) (fr : List AV) (σ : AH) : Turn n fr σ fr σ := fun _ _ _ z _ _ _ hE hI hR => ⟨z, hE, hI, hR⟩
theorem Turn.trans {n : Nat} {fr fr₁ fr₂ : List AV} {σ σ₁ σ₂ : AH} (h : Turn n fr σ fr₁ σ₁) (k : Turn n fr₁ σ₁ fr₂ σ₂) : Turn n fr σ fr₂ σ₂ := fun z₀ σ₀ w₀ z w vs hn hE hI hR =>
  let ⟨z', h1, h2, h3⟩ := h z₀ σ₀ w₀ z w vs hn hE hI hR
  k z₀ σ₀ w₀ z' w vs hn h1 h2 h3

/-- A call's way on. -/
def ACall (P : Program) (n : Nat) (dr : Bool) (f : FuncId) (args fr : List AV) (σ : AH) (K : List AV → AV → AH → Prop) (X : List AV → AV → AH → Prop) : Prop :=
  match dr with
  | true => ∃ out, AFun P f args σ (.ret out) σ ∧ K fr out σ
  | false => ∃ args' fr' σ₁ o σ', args'.length = args.length ∧ Turn n (args ++ fr) σ (args' ++ fr') σ₁ ∧ AFun P f args' σ₁ o σ' ∧ match o with
    | .ret out => K fr' out σ'
    | .panic x => X fr' x σ'

section
variable {P : Program} {n : Nat} {f : FuncId} {args fr : List AV} {σ σ' : AH} {K X : List AV → AV → AH → Prop}
theorem ACall.ret {out : AV} (h : AFun P f args σ (.ret out) σ') (k : K fr out σ') : ACall P n false f args fr σ K X := ⟨args, fr, σ, .ret out, σ', rfl, Turn.refl _ _ _, h, k⟩
theorem ACall.pan {x : AV} (h : AFun P f args σ (.panic x) σ') (k : X fr x σ') : ACall P n false f args fr σ K X := ⟨args, fr, σ, .panic x, σ', rfl, Turn.refl _ _ _, h, k⟩
theorem ACall.same {dr : Bool} {out : AV} (h : AFun P f args σ (.ret out) σ) (k : K fr out σ) : ACall P n dr f args fr σ K X := by
  cases dr
  · exact .ret h k
  · exact ⟨out, h, k⟩
theorem ACall.turn {args' fr' : List AV} {σ₁ : AH} (hl : args'.length = args.length) (ht : Turn n (args ++ fr) σ (args' ++ fr') σ₁) (h : ACall P n false f args' fr' σ₁ K X) : ACall P n false f args fr σ K X := by
  obtain ⟨args₂, fr₂, σ₂, o, σ', h1, h2, h3, h4⟩ := h
  exact ⟨args₂, fr₂, σ₂, o, σ', h1.trans hl, ht.trans h2, h3, h4⟩
end

def put (fr : List AV) (d : Option Tmp) (v : AV) : List AV :=
  match d with
  | some d => fr.set d v
  | none => fr

/-- Is an operation carried out? -/
def gd (ops : List Oper) (fr : List AV) (o : Oper) : Bool :=
  match o.guard with
  | none => true
  | some (j, want) => match (ops[j]?).bind (·.dst) with
    | some d => match fr[d]? with
      | some (.bool b) => b == want
      | _ => false
    | none => false

def held (L : List Nat) : Option Tmp → Bool
  | some d => L.contains d
  | none => false

/-- The method of a type's own (no promoted one). -/
def methA (P : Program) (t : TypeId) (name : String) : Option FuncId :=
  match P.info? t with
  | some i => match i.methods.find? (·.name == name) with
    | some m => if m.path.isEmpty then (match m.func, P.underlying t with
      | some (f, pr), some (.pointer _) => if pr then some f else none
      | some (f, pr), some _ => if pr then none else some f
      | _, _ => none) else none
    | none => none
  | none => none

/-- What comes of an operation's effect. -/
def effK (dr : Bool) (r : Option (AV × AH)) (a : Option AV) (σ : AH) (K : AV → AH → Prop) : Prop :=
  match r with
  | some r => K r.1 r.2
  | none => match a with
    | none => False
    | some out => match dr with
      | true => False
      | false => K out σ
def AEff (P : Program) (L : List Nat) (dr : Bool) (o : Oper) (fr : List AV) (σ : AH) (K : AV → AH → Prop) (X : AV → AH → Prop) (AC : FuncId → List AV → Prop) : Prop :=
  match o.op with
  | .call c => match c.callee with
    | .builtin _ => match evEff P σ (held L o.dst) o.op (ev fr) with
      | some (out, σ') => K out σ'
      | none => False
    | .value f => match ev fr f, evL (ev fr) c.args.toList with
      | some (.func (.func g) first cap), some as => AC g (first ++ as ++ cap)
      | _, _ => False
    | .invoke r m => match ev fr r, evL (ev fr) c.args.toList with
      | some (.iface t x), some as => match methA P t m with
        | some g => AC g (x :: as)
        | none => False
      | _, _ => False
  | .panic x => match dr, ev fr x with
    | false, some (.iface t v) => X (.iface t v) σ
    | _, _ => False
  | op => effK dr (evEff P σ (held L o.dst) op (ev fr)) (evAux P σ op (ev fr)) σ K

def AOps (P : Program) (L : List Nat) (n : Nat) (dr : Bool) (ops : List Oper) (Q : APost) : List Oper → List AV → AH → Prop
  | [], fr, σ => Q .normal fr σ
  | o :: os, fr, σ => if gd ops fr o = true then (match evP P o.op (ev fr) with
      | some out => AOps P L n dr ops Q os (put fr o.dst out) σ
      | none => AEff P L dr o fr σ (fun out σ' => AOps P L n dr ops Q os (put fr o.dst out) σ') (fun x σ' => Q (.panic x) fr σ')
        (fun g args => ACall P n dr g args fr σ (fun fr' out σ' => AOps P L n dr ops Q os (put fr' o.dst out) σ') (fun fr' x σ' => Q (.panic x) fr' σ')))
    else AOps P L n dr ops Q os (put fr o.dst undefA) σ

def AExit.then (next : List AV → AH → Prop) (Q : APost) : APost := fun e fr σ =>
  match e with
  | .normal => next fr σ
  | e => Q e fr σ
def AExit.inBlock (id : Nat) (Q : APost) : APost := fun e fr σ =>
  match e with
  | .exit id' => if id' = id then Q .normal fr σ else Q (.exit id') fr σ
  | e => Q e fr σ

/-! #### soundness of one operation -/
section
variable {P : Program}

theorem R_panic_run {x : Value} {t : TypeId} {v : Value} (h : x = .iface t v) (w : World) : (Instr.panic x).run P w = .halt (.panic x) w := by
  subst h
  rfl

theorem callFunc_run {f : FuncId} (h : callOk P f = true) (args : Array Value) (w : World) : (callFunc f args).run P w = .ok (.enter f args) w := by
  unfold callOk at h
  unfold callFunc
  rw [run_bind_ok (show (program).run P w = .ok P w from rfl)]
  split at h
  · rename_i fn hf
    simp only [Bool.and_eq_true, Bool.not_eq_true'] at h
    obtain ⟨h1, h2⟩ := h
    simp only [hf]
    rw [h2]
    have h3 : fn.body.isNone = false := by cases hb : fn.body <;> simp_all
    simp only [Bool.false_eq_true, if_false, h3]
    rfl
  · cases h

theorem method_run {t : TypeId} {name : String} {g : FuncId} (h : methA P t name = some g) (v : Value) (n : Nat) (w : World) : (Go.method (n + 1) t v name).run P w = .ok (g, v) w := by
  unfold methA at h
  split at h
  · rename_i i hi
    split at h
    · rename_i m hm
      split at h
      · rename_i hp
        have hp' : m.path.toList = [] := by simpa using hp
        unfold Go.method
        rw [run_bind_ok (info_run hi)]
        simp only [hm, hp']
        simp only [Go.follow]
        rw [run_bind_ok (run_pure' P _ w)]
        simp only []
        cases hf : m.func with
        | none => rw [hf] at h; cases h
        | some fp =>
          obtain ⟨f, pr⟩ := fp
          rw [hf] at h
          cases hu : P.underlying t with
          | none => rw [hu] at h; cases h
          | some d =>
            rw [hu] at h
            have key : (pr = true → ∃ e, d = .pointer e) ∧ (pr = false → ∀ e, d ≠ .pointer e) ∧ f = g := by
              cases d <;> cases pr <;> first
                | (cases h; done)
                | (cases h; exact ⟨by simp, by simp, rfl⟩)
            obtain ⟨k1, k2, rfl⟩ := key
            have hr : (Go.receiverAt t (.val v) pr (if m.path.isEmpty = true then some ((name.splitOn ".").getLastD name) else none)).run P w = .ok v w := by
              unfold Go.receiverAt
              rw [run_bind_ok (under_run hu w)]
              cases pr with
              | true =>
                obtain ⟨e, rfl⟩ := k1 rfl
                rfl
              | false =>
                cases d <;> first
                  | rfl
                  | exact absurd rfl (k2 rfl _)
            simp only []
            rw [run_bind_ok hr]
            rfl
      · cases h
    · cases h
  · cases h

end
end Go.Abs
end
section
/- Regions whose order is the text's. -/
namespace Go.Abs
section
variable {P : Program} {z : Cz} {σ : AH} {w : World}

def boolA : AV → Option Bool
  | .bool b => some b
  | _ => none
def boolV : Value → Option Bool
  | .bool b => some b
  | _ => none
theorem bool_R {x : AV} {v : Value} (h : R z σ w x v) : boolV v = boolA x := by
  cases x
  case agg cs => obtain ⟨_, rfl, _⟩ := h; rfl
  case tuple cs => obtain ⟨_, rfl, _⟩ := h; rfl
  case bool b => obtain rfl := h; rfl
  case int k n => obtain rfl := h; rfl
  case str s => obtain rfl := h; rfl
  case nilsl => obtain rfl := h; rfl
  case nilptr => obtain rfl := h; rfl
  case nilIface => obtain rfl := h; rfl
  case nilFunc => obtain rfl := h; rfl
  case zsl => obtain ⟨a, rfl⟩ := h; rfl
  case sl sz xs => obtain ⟨a, c, rfl, _⟩ := h; rfl
  case own => obtain ⟨_, _, _, _, a, c, rfl, _⟩ := h; rfl
  case ptr => obtain ⟨_, _, _, a, rfl, _⟩ := h; rfl
  case elem => obtain ⟨_, rfl, _⟩ := h; rfl
  case iface => obtain ⟨_, rfl, _⟩ := h; rfl
  case func => obtain ⟨_, _, rfl, _⟩ := h; rfl

theorem gd_wanted {ops : Array Oper} {fr : List AV} {a : Act} (h : RL z σ w fr a.tmps.toList) (o : Oper) : Region.wanted o (yielded ops a.tmps) = gd ops.toList fr o := by
  unfold Region.wanted gd
  cases o.guard with
  | none => rfl
  | some g =>
    obtain ⟨j, want⟩ := g
    simp only [yielded]
    have e : ops.toList[j]? = ops[j]? := by simp
    rw [e]
    cases hd : (ops[j]?).bind (·.dst) with
    | none => rfl
    | some d =>
      simp only [Option.bind_some]
      have e2 : a.tmps[d]? = a.tmps.toList[d]? := by simp
      rw [e2]
      cases hf : fr[d]? with
      | none =>
        have : a.tmps.toList[d]? = none := by
          rw [List.getElem?_eq_none_iff, ← h.length]
          exact List.getElem?_eq_none_iff.1 hf
        rw [this]
        rfl
      | some x =>
        obtain ⟨v, hv, hr⟩ := h.get d x hf
        rw [hv]
        have hb := bool_R hr
        cases x <;> cases v <;> simp [boolA, boolV] at hb ⊢
        · subst hb
          rename_i b
          cases b <;> cases want <;> rfl

theorem put_R {fr : List AV} {a : Act} {x : AV} {v : Value} (h : RL z σ w fr a.tmps.toList) (d : Option Tmp) (hx : R z σ w x v) : RL z σ w (put fr d x) (a.put d v).tmps.toList := by
  cases d with
  | none => exact h
  | some d =>
    simp only [put, Act.put]
    rw [Array.toList_setIfInBounds]
    exact h.set d hx

theorem put_defers (a : Act) (d : Option Tmp) (v : Value) : (a.put d v).defers = a.defers := by cases d <;> rfl

theorem oper_sound {o : Oper} {es : Operand → Option AV} {out : AV} {σ' : AH} (h : AOp P o es σ out σ') (hI : Inv z σ w) {a : Act} (hρ : ∀ x ∈ o.op.operands, ∀ b, es x = some b → R z σ w b (a.eval x))
    {next : Act → World → Prop} {Q : Exit → Act → World → Prop} (hn : ∀ z' v w', Ext z σ w z' σ' w' → Inv z' σ' w' → R z' σ' w' out v → next (a.put o.dst v) w') : o.wp P a w next Q := by
  have hr := h z w a.eval hI hρ
  unfold Oper.wp
  generalize (execOp a.eval o).run P w = r at hr
  unfold Ran at hr
  split at hr
  · obtain ⟨z', h1, h2, h3⟩ := hr
    exact hn z' _ _ h1 h2 h3
  · obtain ⟨z', h1, h2, h3⟩ := hr
    exact hn z' _ _ h1 h2 h3
  · refine Calls.mono hr fun e w' he => ?_
    cases e with
    | returned v =>
      obtain ⟨z', h1, h2, h3⟩ := he
      exact hn z' _ _ h1 h2 h3
    | panicked c => exact he.elim
    | outgrown => exact he.elim
  · exact hr.elim

theorem enter_sound {o : Oper} {g : FuncId} {args : List AV} {out : AOut} {σ' : AH} (h : AFun P g args σ out σ') (hI : Inv z σ w) {a : Act} {vs : Array Value} (hvs : RL z σ w args vs.toList)
    (hrun : (execOp a.eval o).run P w = (callFunc g vs).run P w) {next : Act → World → Prop} {Q : Exit → Act → World → Prop}
    (hn : ∀ z' w', Ext z σ w z' σ' w' → Inv z' σ' w' → match out with
      | .ret x => ∀ v, R z' σ' w' x v → next (a.put o.dst v) w'
      | .panic x => ∀ v, R z' σ' w' x v → Q (.panic [{ v, recovered := false }]) a w') : o.wp P a w next Q := by
  unfold Oper.wp
  rw [hrun]
  rcases h with ⟨hok, h⟩ | h
  · rw [callFunc_run hok]
    refine Calls.mono (h z w vs hI hvs) fun e w' ⟨z', h1, h2, h3⟩ => ?_
    have hn' := hn z' w' h1 h2
    cases out with
    | ret x =>
      obtain ⟨v, rfl, hr⟩ := h3
      exact hn' v hr
    | panic x =>
      obtain ⟨v, rfl, hr⟩ := h3
      exact hn' v hr
  · obtain ⟨v, w', z', h1, h2, h3, h4⟩ := h z w vs hI hvs
    rw [h1]
    have hn' := hn z' w' h2 h3
    cases out with
    | ret x =>
      obtain ⟨u, e, hr⟩ := h4
      cases e
      exact hn' v hr
    | panic x =>
      obtain ⟨u, e, _⟩ := h4
      cases e

/-- The run of a call's operation, up to the entry. -/
theorem callValue_run {c : Call} {f : Operand} {g : FuncId} {first cap as : List AV} {es : Operand → Option AV} {o : Oper} {ρ : Operand → Value} (ho : o.op = .call c) (hc : c.callee = .value f)
    (hρ : ∀ x ∈ o.op.operands, ∀ b, es x = some b → R z σ w b (ρ x)) (hf : es f = some (.func (.func g) first cap)) (has : evL es c.args.toList = some as) :
    ∃ vs : Array Value, (execOp ρ o).run P w = (callFunc g vs).run P w ∧ RL z σ w (first ++ as ++ cap) vs.toList := by
  obtain ⟨dst, op, type, pos, after, guard⟩ := o
  obtain ⟨callee, args, argTypes⟩ := c
  simp only at ho hc hρ
  subst ho
  subst hc
  obtain ⟨fs, cs, e, h1, h2⟩ := hρ f (by simp [Op.operands, Call.operands]) _ hf
  have hl : RL z σ w as (args.toList.map ρ) := evL_R (fun x hx => hρ x (by simp [Op.operands, Call.operands]; exact .inr (by simpa using hx))) has
  refine ⟨fs ++ args.map ρ ++ cs, ?_, ?_⟩
  · simp only [execOp, resolve, e, Deferred.ofValue]
    rw [run_bind_ok (run_pure' P _ w)]
    simp only [invoke]
  · simp only [Array.toList_append, Array.toList_map]
    exact (h1.append hl).append h2

theorem callMethod_run {c : Call} {r : Operand} {m : String} {g : FuncId} {t : TypeId} {x : AV} {as : List AV} {es : Operand → Option AV} {o : Oper} {ρ : Operand → Value} (ho : o.op = .call c) (hc : c.callee = .invoke r m)
    (hρ : ∀ x ∈ o.op.operands, ∀ b, es x = some b → R z σ w b (ρ x)) (hf : es r = some (.iface t x)) (has : evL es c.args.toList = some as) (hm : methA P t m = some g) :
    ∃ vs : Array Value, (execOp ρ o).run P w = (callFunc g vs).run P w ∧ RL z σ w (x :: as) vs.toList := by
  obtain ⟨dst, op, type, pos, after, guard⟩ := o
  obtain ⟨callee, args, argTypes⟩ := c
  simp only at ho hc hρ
  subst ho
  subst hc
  obtain ⟨u, e, h1⟩ := hρ r (by simp [Op.operands, Call.operands]) _ hf
  have hl : RL z σ w as (args.toList.map ρ) := evL_R (fun x hx => hρ x (by simp [Op.operands, Call.operands]; exact .inr (by simpa using hx))) has
  refine ⟨#[u] ++ args.map ρ, ?_, ?_⟩
  · simp only [execOp, resolve, e]
    rw [run_bind_ok (run_pure' P _ w)]
    simp only [invoke]
    have e0 : (#[Value.iface t u] ++ args.map ρ)[0]? = some (.iface t u) := by simp [Array.getElem?_append]
    have e1 : (#[Value.iface t u] ++ args.map ρ).extract 1 (#[Value.iface t u] ++ args.map ρ).size = args.map ρ := by
      apply Array.ext'
      simp only [Array.toList_extract, List.extract, Array.toList_append, Array.toList_map, Array.size_append]
      simp only [List.cons_append, List.nil_append, List.drop_succ_cons, List.drop_zero]
      apply List.take_of_length_le
      simp
    rw [e0]
    simp only []
    rw [e1]
    unfold callMethod
    simp only []
    rw [run_bind_ok (show (program).run P w = .ok P w from rfl), run_bind_ok (show (Go.method (P.types.size + Made.depth) t u m).run P w = .ok (g, u) w from method_run hm u (P.types.size + 99) w)]
  · simp only [Array.toList_append, Array.toList_map]
    exact ⟨u, args.toList.map ρ, rfl, h1, hl⟩

end
end Go.Abs
end
section
/- Regions in the text's order; code. -/
namespace Go.Abs
section
variable {P : Program} {L : List Nat}

theorem ev_ops {z : Cz} {σ : AH} {w : World} {fr : List AV} {a : Act} (h : RL z σ w fr a.tmps.toList) (o : Oper) : ∀ x ∈ o.op.operands, ∀ b, ev fr x = some b → R z σ w b (a.eval x) :=
  fun x _ b hb => ev_R h x b hb

/-- What an operation's effect gives, whatever it is. -/
theorem aeff_cases {dr : Bool} {o : Oper} {fr : List AV} {σ : AH} {K X : AV → AH → Prop} {AC : FuncId → List AV → Prop} (h : AEff P L dr o fr σ K X AC) :
    (∃ out σ', AOp P o (ev fr) σ out σ' ∧ K out σ') ∨
    (∃ c g args, o.op = .call c ∧ AC g args ∧ ((∃ f first cap as, c.callee = .value f ∧ ev fr f = some (.func (.func g) first cap) ∧ evL (ev fr) c.args.toList = some as ∧ args = first ++ as ++ cap) ∨
      (∃ r m t x as, c.callee = .invoke r m ∧ ev fr r = some (.iface t x) ∧ evL (ev fr) c.args.toList = some as ∧ methA P t m = some g ∧ args = x :: as))) ∨
    (∃ x t v, o.op = .panic x ∧ dr = false ∧ ev fr x = some (.iface t v) ∧ X (.iface t v) σ) := by
  obtain ⟨dst, op, type, pos, after, guard⟩ := o
  have eff : ∀ {hold : Bool}, (match evEff P σ hold op (ev fr) with
      | some (out, σ') => K out σ'
      | none => False) → ∃ out σ', AOp P ⟨dst, op, type, pos, after, guard⟩ (ev fr) σ out σ' ∧ K out σ' := by
    intro hold h
    split at h
    · rename_i out σ' he
      exact ⟨out, σ', AOp.of_eff he, h⟩
    · exact h.elim
  have eff2 : ∀ {hold : Bool}, effK dr (evEff P σ hold op (ev fr)) (evAux P σ op (ev fr)) σ K → ∃ out σ', AOp P ⟨dst, op, type, pos, after, guard⟩ (ev fr) σ out σ' ∧ K out σ' := by
    intro hold h
    unfold effK at h
    split at h
    · rename_i r he
      exact ⟨r.1, r.2, AOp.of_eff he, h⟩
    · split at h
      · exact h.elim
      · rename_i y hy
        split at h
        · exact h.elim
        · exact ⟨y, σ, AOp.of_aux hy, h⟩
  unfold AEff at h
  cases op
  case call c =>
    obtain ⟨callee, args, argTypes⟩ := c
    cases callee
    case builtin b => exact .inl (eff (hold := held L dst) h)
    case value f =>
      simp only at h
      split at h
      · rename_i g first cap as hf has
        exact .inr (.inl ⟨_, g, _, rfl, h, .inl ⟨f, first, cap, as, rfl, hf, has, rfl⟩⟩)
      · exact h.elim
    case invoke r m =>
      simp only at h
      split at h
      · rename_i t x as hf has
        split at h
        · rename_i g hg
          exact .inr (.inl ⟨_, g, _, rfl, h, .inr ⟨r, m, t, x, as, rfl, hf, has, hg, rfl⟩⟩)
        · exact h.elim
      · exact h.elim
  case panic x =>
    clear eff eff2
    simp only at h
    split at h
    · rename_i t v hx
      exact .inr (.inr ⟨x, t, v, rfl, rfl, hx, h⟩)
    · exact h.elim
  all_goals exact .inl (eff2 (hold := held L dst) h)

theorem acall_enter {fr : List AV} {o : Oper} {c : Call} {g : FuncId} {args : List AV} {z : Cz} {σ : AH} {w : World} {a : Act} (hR : RL z σ w fr a.tmps.toList) (ho : o.op = .call c)
    (h : (∃ f first cap as, c.callee = .value f ∧ ev fr f = some (.func (.func g) first cap) ∧ evL (ev fr) c.args.toList = some as ∧ args = first ++ as ++ cap) ∨
      (∃ r m t x as, c.callee = .invoke r m ∧ ev fr r = some (.iface t x) ∧ evL (ev fr) c.args.toList = some as ∧ methA P t m = some g ∧ args = x :: as)) :
    ∃ vs : Array Value, (execOp a.eval o).run P w = (callFunc g vs).run P w ∧ RL z σ w args vs.toList := by
  rcases h with ⟨f, first, cap, as, h1, h2, h3, rfl⟩ | ⟨r, m, t, x, as, h1, h2, h3, h4, rfl⟩
  · exact callValue_run ho h1 (ev_ops hR o) h2 h3
  · exact callMethod_run ho h1 (ev_ops hR o) h2 h3 h4

variable {n : Nat}
theorem AW.mono {c : Code} {fr : List AV} {σ : AH} {Q Q' : APost} (h : AW P n c fr σ Q) (hq : ∀ e fr σ, Q e fr σ → Q' e fr σ) : AW P n c fr σ Q' :=
  fun z₀ σ₀ w₀ z w a hn hE hI hR => wp_mono (h z₀ σ₀ w₀ z w a hn hE hI hR) fun _ _ _ ⟨z', fr', σ', ae, h1, h2, h3, h4, h5, h6⟩ => ⟨z', fr', σ', ae, h1, h2, h3, h4, h5, hq _ _ _ h6⟩

theorem AW.skip {fr : List AV} {σ : AH} {Q : APost} (h : Q .normal fr σ) : AW P n .skip fr σ Q :=
  fun _ _ _ z _ _ _ hE hI hR => wp_skip ⟨z, fr, σ, .normal, hE, hI, hR, rfl, rfl, h⟩
theorem AW.label {l : Nat} {fr : List AV} {σ : AH} {Q : APost} (h : Q .normal fr σ) : AW P n (.label l) fr σ Q :=
  fun _ _ _ z _ _ _ hE hI hR => wp_label ⟨z, fr, σ, .normal, hE, hI, hR, rfl, rfl, h⟩
theorem AW.exit {id : Nat} {fr : List AV} {σ : AH} {Q : APost} (h : Q (.exit id) fr σ) : AW P n (.exit id) fr σ Q :=
  fun _ _ _ z _ _ _ hE hI hR => wp_exit ⟨z, fr, σ, .exit id, hE, hI, hR, rfl, rfl, h⟩
theorem AW.goto {l : Nat} {fr : List AV} {σ : AH} {Q : APost} (h : Q (.goto l) fr σ) : AW P n (.goto l) fr σ Q :=
  fun _ _ _ z _ _ _ hE hI hR => wp_goto ⟨z, fr, σ, .goto l, hE, hI, hR, rfl, rfl, h⟩
theorem AW.ret {fr : List AV} {σ : AH} {Q : APost} (h : Q .ret fr σ) : AW P n .ret fr σ Q :=
  fun _ _ _ z _ _ _ hE hI hR => wp_ret ⟨z, fr, σ, .ret, hE, hI, hR, rfl, rfl, h⟩

theorem AW.seq {c d : Code} {fr : List AV} {σ : AH} {Q : APost} (h : AW P n c fr σ (AExit.then (fun fr σ => AW P n d fr σ Q) Q)) : AW P n (.seq c d) fr σ Q := by
  intro z₀ σ₀ w₀ z w a hn hE hI hR
  refine wp_seq (wp_mono (h z₀ σ₀ w₀ z w a hn hE hI hR) ?_)
  rintro e a' w' ⟨z', fr', σ', ae, h1, h2, h3, h4, h5, h6⟩
  cases ae with
  | normal =>
    obtain rfl : e = .normal := h5
    have := h6 z₀ σ₀ w₀ z' w' a' hn h1 h2 h3
    rw [h4] at this
    exact this
  | exit id => obtain rfl : e = .exit id := h5; exact ⟨z', fr', σ', .exit id, h1, h2, h3, h4, rfl, h6⟩
  | goto id => obtain rfl : e = .goto id := h5; exact ⟨z', fr', σ', .goto id, h1, h2, h3, h4, rfl, h6⟩
  | ret => obtain rfl : e = .ret := h5; exact ⟨z', fr', σ', .ret, h1, h2, h3, h4, rfl, h6⟩
  | panic x => obtain ⟨v, rfl, hv⟩ := h5; exact ⟨z', fr', σ', .panic x, h1, h2, h3, h4, ⟨v, rfl, hv⟩, h6⟩

theorem AW.cond {c : Operand} {x y : Code} {fr : List AV} {σ : AH} {Q : APost} {t : Bool} (hc : ev fr c = some (.bool t)) (h : if t = true then AW P n x fr σ Q else AW P n y fr σ Q) : AW P n (.cond c x y) fr σ Q := by
  intro z₀ σ₀ w₀ z w a hn hE hI hR
  refine wp_cond (t := t) (ev_R hR c _ hc) ?_
  cases t
  · exact h z₀ σ₀ w₀ z w a hn hE hI hR
  · exact h z₀ σ₀ w₀ z w a hn hE hI hR

theorem AW.block {id : Nat} {c : Code} {fr : List AV} {σ : AH} {Q : APost} (h : AW P n c fr σ (AExit.inBlock id Q)) : AW P n (.block id c) fr σ Q := by
  intro z₀ σ₀ w₀ z w a hn hE hI hR
  refine wp_block (wp_mono (h z₀ σ₀ w₀ z w a hn hE hI hR) ?_)
  rintro e a' w' ⟨z', fr', σ', ae, h1, h2, h3, h4, h5, h6⟩
  cases ae with
  | normal => obtain rfl : e = .normal := h5; exact ⟨z', fr', σ', .normal, h1, h2, h3, h4, rfl, h6⟩
  | exit id' =>
    obtain rfl : e = .exit id' := h5
    show if id' = id then _ else _
    have h6' : if id' = id then Q .normal fr' σ' else Q (.exit id') fr' σ' := h6
    split
    · rename_i he
      rw [if_pos he] at h6'
      exact ⟨z', fr', σ', .normal, h1, h2, h3, h4, rfl, h6'⟩
    · rename_i he
      rw [if_neg he] at h6'
      exact ⟨z', fr', σ', .exit id', h1, h2, h3, h4, rfl, h6'⟩
  | goto id => obtain rfl : e = .goto id := h5; exact ⟨z', fr', σ', .goto id, h1, h2, h3, h4, rfl, h6⟩
  | ret => obtain rfl : e = .ret := h5; exact ⟨z', fr', σ', .ret, h1, h2, h3, h4, rfl, h6⟩
  | panic x => obtain ⟨v, rfl, hv⟩ := h5; exact ⟨z', fr', σ', .panic x, h1, h2, h3, h4, ⟨v, rfl, hv⟩, h6⟩

/-- A loop, by a count that falls. -/
theorem wp_loopN {c : Code} {Q : Exit → Act → World → Prop} (I : Nat → Act → World → Prop)
    (round : ∀ n a w, I n a w → c.wp P (Exit.then (fun a' w' => ∃ m, m < n ∧ I m a' w') Q) a w) : ∀ (n : Nat) (a : Act) (w : World), I n a w → (Code.loop c).wp P Q a w := by
  intro n a w h b k cs
  have key : ∀ n a w, I n a w → ∃ e a' w', Q e a' w' ∧ Arrives P (lone (b.at a (.code c :: .inLoop c :: k)) cs w) b k cs e a' w' := by
    intro n
    induction n using Nat.strongRecOn with
    | _ n ih =>
      intro a w hI
      obtain ⟨e, a₁, w₁, hq, harr⟩ := round n a w hI b (.inLoop c :: k) cs
      cases e with
      | normal =>
        obtain ⟨m, hlt, hI₁⟩ := hq
        obtain ⟨e₂, a₂, w₂, hq₂, harr₂⟩ := ih m hlt a₁ w₁ hI₁
        exact ⟨e₂, a₂, w₂, hq₂, .of_steps (Steps.trans harr (.one step_inLoop)) harr₂⟩
      | exit id => exact ⟨_, a₁, w₁, hq, .pass (x := .inLoop c) rfl (fun _ _ => .inl (by simp)) harr⟩
      | goto l => exact ⟨_, a₁, w₁, hq, .pass (x := .inLoop c) rfl (fun _ _ => .inl (by simp)) harr⟩
      | ret => exact ⟨_, a₁, w₁, hq, .pass (x := .inLoop c) rfl (fun _ _ => .inl (by simp)) harr⟩
      | panic ch => exact ⟨_, a₁, w₁, hq, .pass (x := .inLoop c) rfl (fun _ _ => .inl (by simp)) harr⟩
      | outgrown => exact ⟨_, a₁, w₁, hq, .pass (x := .inLoop c) rfl (fun _ _ => .inl (by simp)) harr⟩
  obtain ⟨e, a', w', hq, harr⟩ := key n a w h
  exact ⟨e, a', w', hq, .of_steps (.one step_loop) harr⟩

/-- A loop: `S m` holds at its head, m falls. -/
theorem AW.loop {c : Code} {Q : APost} (S : Nat → List AV → AH → Prop) (round : ∀ m fr σ, S m fr σ → AW P n c fr σ (AExit.then (fun fr' σ' => ∃ k, k < m ∧ S k fr' σ') Q))
    (m : Nat) (fr : List AV) (σ : AH) (h : S m fr σ) : AW P n (.loop c) fr σ Q := by
  intro z₀ σ₀ w₀ z w a hn hE hI hR
  refine wp_loopN (fun m a' w' => ∃ z' fr' σ', Ext z₀ σ₀ w₀ z' σ' w' ∧ Inv z' σ' w' ∧ RL z' σ' w' fr' a'.tmps.toList ∧ a'.defers = a.defers ∧ S m fr' σ') ?_ m a w ⟨z, fr, σ, hE, hI, hR, rfl, h⟩
  rintro m a' w' ⟨z', fr', σ', h1, h2, h3, h4, h5⟩
  refine wp_mono (round m fr' σ' h5 z₀ σ₀ w₀ z' w' a' hn h1 h2 h3) ?_
  rintro e a'' w'' ⟨z'', fr'', σ'', ae, g1, g2, g3, g4, g5, g6⟩
  cases ae with
  | normal =>
    obtain rfl : e = .normal := g5
    obtain ⟨k, hk, hS⟩ := g6
    exact ⟨k, hk, z'', fr'', σ'', g1, g2, g3, g4.trans h4, hS⟩
  | exit id => obtain rfl : e = .exit id := g5; exact ⟨z'', fr'', σ'', .exit id, g1, g2, g3, g4.trans h4, rfl, g6⟩
  | goto id => obtain rfl : e = .goto id := g5; exact ⟨z'', fr'', σ'', .goto id, g1, g2, g3, g4.trans h4, rfl, g6⟩
  | ret => obtain rfl : e = .ret := g5; exact ⟨z'', fr'', σ'', .ret, g1, g2, g3, g4.trans h4, rfl, g6⟩
  | panic x => obtain ⟨v, rfl, hv⟩ := g5; exact ⟨z'', fr'', σ'', .panic x, g1, g2, g3, g4.trans h4, ⟨v, rfl, hv⟩, g6⟩

end
end Go.Abs
end
section
/- Rows that are let go: what was held becomes memory that is never written again. -/
namespace Go.Abs

def litA : AV → Bool
  | .bool _ | .int _ _ | .str _ | .nilsl | .zsl | .nilptr | .nilIface | .nilFunc => true
  | _ => false

mutual
/-- `y` is `x` when the rows from `n` on are let go. -/
inductive Fz (n : Nat) (σ : AH) : AV → AV → Prop
  | lit (x : AV) (h : litA x = true) : Fz n σ x x
  | nil (sz : Nat) : Fz n σ .nilsl (.sl sz [])
  | zsl (sz : Nat) : Fz n σ .zsl (.sl sz [])
  | sl (sz : Nat) (xs ys : List AV) (h : FzL n σ xs ys) : Fz n σ (.sl sz xs) (.sl sz ys)
  | elem (xs ys : List AV) (h : FzL n σ xs ys) : Fz n σ (.elem xs) (.elem ys)
  | agg (xs ys : List AV) (h : FzL n σ xs ys) : Fz n σ (.agg xs) (.agg ys)
  | tuple (xs ys : List AV) (h : FzL n σ xs ys) : Fz n σ (.tuple xs) (.tuple ys)
  | iface (t : TypeId) (x y : AV) (h : Fz n σ x y) : Fz n σ (.iface t x) (.iface t y)
  | func (fn : Fn) (xs ys us vs : List AV) (h : FzL n σ xs ys) (k : FzL n σ us vs) : Fz n σ (.func fn xs us) (.func fn ys vs)
  | own (id sz hw off len : Nat) (h : id < n) : Fz n σ (.own id sz hw off len) (.own id sz hw off len)
  | ptr (id hw i off : Nat) (h : id < n) : Fz n σ (.ptr id hw i off) (.ptr id hw i off)
  | row (id sz hw off len : Nat) (o : ARow) (ys : List AV) (h : n ≤ id) (ho : σ[id]? = some o) (hh : hw = o.hw) (hl : off + len ≤ o.xs.length) (hy : FzL n σ ((o.xs.drop off).take len) ys) :
      Fz n σ (.own id sz hw off len) (.sl sz ys)
  | box (id hw i off : Nat) (o : ARow) (e : AV) (ys : List AV) (h : n ≤ id) (ho : σ[id]? = some o) (hh : hw = o.hw) (he : o.xs[i]? = some e) (hy : FzL n σ ((cellsA e).drop off) ys) :
      Fz n σ (.ptr id hw i off) (.elem ys)
inductive FzL (n : Nat) (σ : AH) : List AV → List AV → Prop
  | nil : FzL n σ [] []
  | cons (x y : AV) (xs ys : List AV) (h : Fz n σ x y) (k : FzL n σ xs ys) : FzL n σ (x :: xs) (y :: ys)
end

mutual
/-- The places that a value names are below `n`. -/
def Bel (n : Nat) : AV → Prop
  | .sl _ xs => BelL n xs
  | .elem xs => BelL n xs
  | .agg xs => BelL n xs
  | .tuple xs => BelL n xs
  | .iface _ x => Bel n x
  | .func _ xs us => BelL n xs ∧ BelL n us
  | .own id _ _ _ _ => id < n
  | .ptr id _ _ _ => id < n
  | _ => True
def BelL (n : Nat) : List AV → Prop
  | [] => True
  | x :: xs => Bel n x ∧ BelL n xs
end

mutual
theorem Bel.fz {n : Nat} {σ : AH} : ∀ (x : AV), Bel n x → Fz n σ x x
  | .bool _, _ => .lit _ rfl
  | .int _ _, _ => .lit _ rfl
  | .str _, _ => .lit _ rfl
  | .nilsl, _ => .lit _ rfl
  | .zsl, _ => .lit _ rfl
  | .nilptr, _ => .lit _ rfl
  | .nilIface, _ => .lit _ rfl
  | .nilFunc, _ => .lit _ rfl
  | .sl _ xs, h => .sl _ _ _ (BelL.fz xs h)
  | .elem xs, h => .elem _ _ (BelL.fz xs h)
  | .agg xs, h => .agg _ _ (BelL.fz xs h)
  | .tuple xs, h => .tuple _ _ (BelL.fz xs h)
  | .iface _ x, h => .iface _ _ _ (Bel.fz x h)
  | .func _ xs us, h => .func _ _ _ _ _ (BelL.fz xs h.1) (BelL.fz us h.2)
  | .own _ _ _ _ _, h => .own _ _ _ _ _ h
  | .ptr _ _ _ _, h => .ptr _ _ _ _ h
theorem BelL.fz {n : Nat} {σ : AH} : ∀ (xs : List AV), BelL n xs → FzL n σ xs xs
  | [], _ => .nil
  | x :: xs, h => .cons _ _ _ _ (Bel.fz x h.1) (BelL.fz xs h.2)
end

section
variable {z : Cz} {σ : AH} {w : World}
mutual
theorem R.bel : ∀ (x : AV) (v : Value), R z σ w x v → Bel σ.length x
  | .bool _, _, _ => trivial
  | .int _ _, _, _ => trivial
  | .str _, _, _ => trivial
  | .nilsl, _, _ => trivial
  | .zsl, _, _ => trivial
  | .nilptr, _, _ => trivial
  | .nilIface, _, _ => trivial
  | .nilFunc, _, _ => trivial
  | .sl _ xs, _, ⟨_, _, _, _, h⟩ => by
    rcases h with rfl | ⟨_, _, _, _, h⟩
    · exact trivial
    · exact RSl.bel xs _ h
  | .elem xs, _, ⟨_, _, _, _, h⟩ => RCells.bel xs _ h
  | .agg xs, _, ⟨_, _, h⟩ => RL.bel xs _ h
  | .tuple xs, _, ⟨_, _, h⟩ => RL.bel xs _ h
  | .iface _ x, _, ⟨u, _, h⟩ => R.bel x u h
  | .func _ xs us, _, ⟨_, _, _, h, k⟩ => ⟨RL.bel xs _ h, RL.bel us _ k⟩
  | .own _ _ _ _ _, _, ⟨_, h, _⟩ => (List.getElem?_eq_some_iff.1 h).1
  | .ptr _ _ _ _, _, ⟨_, h, _⟩ => (List.getElem?_eq_some_iff.1 h).1
theorem RL.bel : ∀ (xs : List AV) (vs : List Value), RL z σ w xs vs → BelL σ.length xs
  | [], _, _ => trivial
  | x :: xs, _, ⟨u, us, _, h, k⟩ => ⟨R.bel x u h, RL.bel xs us k⟩
theorem RSl.bel {b sz : Nat} : ∀ (xs : List AV) (o : Nat), RSl z σ w b sz o xs → BelL σ.length xs
  | [], _, _ => trivial
  | x :: xs, _, ⟨⟨v, h, _⟩, k⟩ => ⟨R.bel x v h, RSl.bel xs _ k⟩
theorem RCells.bel {b : Nat} : ∀ (xs : List AV) (o : Nat), RCells z σ w b o xs → BelL σ.length xs
  | [], _, _ => trivial
  | x :: xs, _, ⟨⟨v, h, _⟩, k⟩ => ⟨R.bel x v h, RCells.bel xs _ k⟩
end

/-- The rows from n on are memory that is never written again. -/
def zZ (z : Cz) (σ : AH) (n : Nat) : Cz := ⟨fun b => z.N b ∨ ∃ id, n ≤ id ∧ id < σ.length ∧ z.κ id ≠ 0 ∧ z.φ id = b, z.φ, z.κ⟩

mutual
theorem Fz.sound {n : Nat} {σ' : AH} (hI : Inv z σ w) (hσ : ∀ id, id < n → σ'[id]? = σ[id]?) : ∀ {x y : AV}, Fz n σ x y → ∀ v, R z σ w x v → R (zZ z σ n) σ' w y v
  | _, _, .lit x h, v, hr => by
    cases x <;> first
      | (cases h; done)
      | exact hr
  | _, _, .nil sz, v, hr => ⟨none, 0, hr, Nat.le_refl _, .inl rfl⟩
  | _, _, .zsl sz, v, ⟨a, hr⟩ => ⟨a, 0, hr, Nat.le_refl _, .inl rfl⟩
  | _, _, .sl sz xs ys h, v, ⟨a, c, hv, hl, hc⟩ => by
    have hlen := h.length
    refine ⟨a, c, by rw [← hlen]; exact hv, by rw [← hlen]; exact hl, ?_⟩
    rcases hc with rfl | ⟨ad, h1, h2, h3, h4⟩
    · left
      exact List.eq_nil_of_length_eq_zero (by rw [← hlen]; rfl)
    · exact .inr ⟨ad, h1, h2, .inl h3, FzL.sl hI hσ h _ h4⟩
  | _, _, .elem xs ys h, v, ⟨ad, hv, h1, h2, h3⟩ => ⟨ad, hv, h1, .inl h2, FzL.cells hI hσ h _ h3⟩
  | _, _, .agg xs ys h, v, ⟨vs, hv, hl⟩ => ⟨vs, hv, FzL.sound hI hσ h _ hl⟩
  | _, _, .tuple xs ys h, v, ⟨vs, hv, hl⟩ => ⟨vs, hv, FzL.sound hI hσ h _ hl⟩
  | _, _, .iface t x y h, v, ⟨u, hv, hr⟩ => ⟨u, hv, Fz.sound hI hσ h u hr⟩
  | _, _, .func fn xs ys us vs h k, v, ⟨fs, cs, hv, h1, h2⟩ => ⟨fs, cs, hv, FzL.sound hI hσ h _ h1, FzL.sound hI hσ k _ h2⟩
  | _, _, .own id sz hw off len h, v, ⟨o, ho, hr⟩ => ⟨o, (hσ id h).trans ho, hr⟩
  | _, _, .ptr id hw i off h, v, ⟨o, ho, hr⟩ => ⟨o, (hσ id h).trans ho, hr⟩
  | _, _, .row id sz hw off len o ys h ho hh hl hy, v, ⟨o', ho', hsz, hle, a, c, hv, hlc, h1, h2⟩ => by
    rw [ho] at ho'
    cases ho'
    have hlen := hy.length
    have hyl : ((o.xs.drop off).take len).length = len := by simp; omega
    refine ⟨a, c, by rw [← hlen, hyl]; exact hv, by rw [← hlen, hyl]; exact hlc, ?_⟩
    by_cases h0 : len = 0
    · left
      exact List.eq_nil_of_length_eq_zero (by rw [← hlen, hyl, h0])
    · right
      rcases h2 with h2 | ⟨ad, ha, had⟩
      · omega
      · have had := had hh
        have hκ := h1 hh
        subst had
        refine ⟨_, ha, rfl, .inr ⟨id, h, (List.getElem?_eq_some_iff.1 ho).1, by omega, rfl⟩, ?_⟩
        obtain ⟨_, _, _, hR⟩ := hI.row id o ho
        have hR' : RSl z σ w (z.φ id) sz (off * sz) ((o.xs.drop off).take len) := by
          have h1 := hR.drop_take off (off + len)
          rw [Nat.zero_add, hsz] at h1
          rw [show (o.xs.drop off).take len = (o.xs.take (off + len)).drop off by rw [List.drop_take]; congr 1; omega]
          exact h1
        exact FzL.sl hI hσ hy _ hR'
  | _, _, .box id hw i off o e ys h ho hh he hy, v, ⟨o', ho', hle, a, hv, ha⟩ => by
    rw [ho] at ho'
    cases ho'
    have ha := ha hh
    subst ha
    obtain ⟨g1, g2, _, _⟩ := hI.row id o ho
    have hix := (List.getElem?_eq_some_iff.1 he).1
    exact ⟨_, hv, rfl, .inr ⟨id, h, (List.getElem?_eq_some_iff.1 ho).1, by omega, rfl⟩, FzL.cells hI hσ hy _ ((hI.cellsOf ho he).drop off)⟩
theorem FzL.sound {n : Nat} {σ' : AH} (hI : Inv z σ w) (hσ : ∀ id, id < n → σ'[id]? = σ[id]?) : ∀ {xs ys : List AV}, FzL n σ xs ys → ∀ vs, RL z σ w xs vs → RL (zZ z σ n) σ' w ys vs
  | _, _, .nil, _, h => h
  | _, _, .cons x y xs ys h k, _, ⟨u, us, hv, h1, h2⟩ => ⟨u, us, hv, Fz.sound hI hσ h u h1, FzL.sound hI hσ k us h2⟩
theorem FzL.sl {n : Nat} {σ' : AH} (hI : Inv z σ w) (hσ : ∀ id, id < n → σ'[id]? = σ[id]?) {b sz : Nat} : ∀ {xs ys : List AV}, FzL n σ xs ys → ∀ o, RSl z σ w b sz o xs → RSl (zZ z σ n) σ' w b sz o ys
  | _, _, .nil, _, _ => trivial
  | _, _, .cons x y xs ys h k, _, ⟨⟨v, h1, h2⟩, h3⟩ => ⟨⟨v, Fz.sound hI hσ h v h1, h2⟩, FzL.sl hI hσ k _ h3⟩
theorem FzL.cells {n : Nat} {σ' : AH} (hI : Inv z σ w) (hσ : ∀ id, id < n → σ'[id]? = σ[id]?) {b : Nat} : ∀ {xs ys : List AV}, FzL n σ xs ys → ∀ o, RCells z σ w b o xs → RCells (zZ z σ n) σ' w b o ys
  | _, _, .nil, _, _ => trivial
  | _, _, .cons x y xs ys h k, _, ⟨⟨v, h1, h2⟩, h3⟩ => ⟨⟨v, Fz.sound hI hσ h v h1, h2⟩, FzL.cells hI hσ k _ h3⟩
theorem FzL.length {n : Nat} {σ : AH} : ∀ {xs ys : List AV}, FzL n σ xs ys → xs.length = ys.length
  | _, _, .nil => rfl
  | _, _, .cons _ _ _ _ _ k => by rw [List.length_cons, List.length_cons, FzL.length k]
end

/-- The rows' values name no row from n on. -/
def OwnBel (n : Nat) (σ : AH) : Prop := ∀ (id : Nat) (o : ARow), σ[id]? = some o → BelL n o.xs

theorem Inv.ownBel (hI : Inv z σ w) : OwnBel σ.length σ := fun id o ho => (hI.row id o ho).2.2.2.bel

theorem let_go {z₀ : Cz} {σ₀ σ₁ g : AH} {w₀ : World} (hlen : σ₀.length ≤ σ₁.length) (hb : OwnBel σ₁.length σ₁) (E : Ext z₀ σ₀ w₀ z (σ₁ ++ g) w) (hI : Inv z (σ₁ ++ g) w) :
    Ext z₀ σ₀ w₀ (zZ z (σ₁ ++ g) σ₁.length) σ₁ w ∧ Inv (zZ z (σ₁ ++ g) σ₁.length) σ₁ w := by
  have hσ : ∀ id, id < σ₁.length → σ₁[id]? = (σ₁ ++ g)[id]? := fun id h => (List.getElem?_append_left h).symm
  refine ⟨⟨fun b hb => .inl (E.N b hb), E.keep, ?_, E.size, E.frame, ?_, ?_, E.os, E.tape, E.output⟩, ⟨?_, ?_, ?_, ?_⟩⟩
  · intro id o ho
    obtain ⟨o', ho', h⟩ := E.row id o ho
    have hid := (List.getElem?_eq_some_iff.1 ho).1
    exact ⟨o', by rw [hσ id (by omega)]; exact ho', h⟩
  · intro id hid hk
    exact E.news id (by simp; omega) hk
  · intro b hb
    rcases hb with hb | ⟨id, h1, h2, h3, h4⟩
    · exact E.newN b hb
    · rcases E.news id h2 h3 with ⟨h5, _⟩ | h5
      · omega
      · exact .inr (.inl (h4 ▸ h5))
  · intro id o ho
    have ho' : (σ₁ ++ g)[id]? = some o := by rw [← hσ id (List.getElem?_eq_some_iff.1 ho).1]; exact ho
    obtain ⟨g1, g2, g3, g4⟩ := hI.row id o ho'
    exact ⟨g1, g2, g3, FzL.sl hI hσ (BelL.fz _ (hb id o ho)) _ g4⟩
  · intro i j hi hj hki hkj he
    exact hI.inj i j (by simp; omega) (by simp; omega) hki hkj he
  · intro i hi hk hN
    rcases hN with hN | ⟨id, h1, h2, h3, h4⟩
    · exact hI.apart i (by simp; omega) hk hN
    · have := hI.inj id i h2 (by simp; omega) h3 hk h4
      omega
  · intro b hb
    rcases hb with hb | ⟨id, _, h2, h3, h4⟩
    · exact hI.old b hb
    · exact h4 ▸ hI.lt h2 h3

end

/-- In the middle of code: the rows from `σ₁` on are let go. -/
theorem AW.letGo {P : Program} {n : Nat} {c : Code} {fr fr' : List AV} {σ₁ g : AH} {Q : APost} (hn : n ≤ σ₁.length) (hb : OwnBel σ₁.length σ₁) (hf : FzL σ₁.length (σ₁ ++ g) fr fr') (h : AW P n c fr' σ₁ Q) :
    AW P n c fr (σ₁ ++ g) Q := by
  intro z₀ σ₀ w₀ z w a hl hE hI hR
  obtain ⟨h1, h2⟩ := let_go (by omega) hb hE hI
  exact h z₀ σ₀ w₀ _ w a hl h1 h2 (FzL.sound hI (fun id hid => (List.getElem?_append_left hid).symm) hf _ hR)

/-- In the middle of code: a nil slice becomes a row without elements. -/
theorem AW.newRow {P : Program} {n : Nat} {c : Code} {fr : List AV} {σ : AH} {Q : APost} (t : Nat) (e : TypeId) (sz : Nat) (ht : fr[t]? = some .nilsl) (h : AW P n c (fr.set t (.own σ.length sz 0 0 0)) (σ ++ [arow e sz 0 []]) Q) :
    AW P n c fr σ Q := by
  intro z₀ σ₀ w₀ z w a hl hE hI hR
  have E := extG z σ w e sz
  refine h z₀ σ₀ w₀ _ w a hl (hE.trans E) (invG hI e sz) ?_
  obtain ⟨v, hv, hr⟩ := hR.get t _ ht
  have hr' : v = .slice none 0 0 := hr
  subst hr'
  have et : a.tmps.toList = a.tmps.toList.set t (.slice none 0 0) := by
    apply List.ext_getElem?
    intro i
    rw [List.getElem?_set]
    split
    · rename_i hi
      subst hi
      split
      · exact hv
      · rename_i hlt
        simp at hlt
        rw [List.getElem?_eq_none (by simpa using hlt)] at hv
        cases hv
    · rfl
  rw [et]
  exact (RL.mono E _ _ hR).set t ⟨arow e sz 0 [], by simp, rfl, Nat.le_refl _, none, 0, rfl, Nat.le_refl _, fun _ => (upd_self _ _ _).symm, .inl rfl⟩

/-! #### a function out of its body -/
def resX (P : Program) (fr : List AV) (σ : AH) : ResultVar → Option AV
  | .tmp t => ev fr (.tmp t)
  | .cell a t => evLoad P σ t (fr.getD a undefA)
def resL (P : Program) (fr : List AV) (σ : AH) : List ResultVar → Option (List AV)
  | [] => some []
  | r :: rs => match resX P fr σ r, resL P fr σ rs with
    | some x, some xs => some (x :: xs)
    | _, _ => none
def resV (tmps : Array Value) : ResultVar → Sem Value
  | .tmp t => pure (tmps.getD t undef)
  | .cell a t => do loadVar t (← asAddr (tmps.getD a undef))
def resA (P : Program) (fn : Func) (fr : List AV) (σ : AH) : Option AV :=
  match resL P fr σ fn.results.toList with
  | some [x] => some x
  | some xs => some (.tuple xs)
  | none => none

def bodyQ (P : Program) (fn : Func) (Q : AOut → AH → Prop) : APost := fun e fr σ =>
  match e with
  | .normal | .ret => match resA P fn fr σ with
    | some x => Q (.ret x) σ
    | none => False
  | .panic x => Q (.panic x) σ
  | _ => False

theorem resX_run {P : Program} {z : Cz} {σ : AH} {w : World} {fr : List AV} {tmps : Array Value} (hI : Inv z σ w) (hR : RL z σ w fr tmps.toList) {r : ResultVar} {x : AV} (hx : resX P fr σ r = some x) :
    ∃ v, (resV tmps r).run P w = .ok v w ∧ R z σ w x v := by
  cases r with
  | tmp t =>
    exact ⟨_, rfl, ev_R (a := ⟨tmps, []⟩) hR (.tmp t) x hx⟩
  | cell a t =>
    have hra := ev_R (a := ⟨tmps, []⟩) hR (.tmp a) _ rfl
    obtain ⟨u, h3, h4⟩ := loadAt_run (P := P) hI hra hx
    refine ⟨u, ?_, h4⟩
    have hp : ∃ ad, tmps.getD a undef = .pointer (some ad) := by
      have hra' : R z σ w (fr.getD a undefA) (tmps.getD a undef) := hra
      have hx' : evLoad P σ t (fr.getD a undefA) = some x := hx
      generalize fr.getD a undefA = y at hra' hx'
      unfold evLoad at hx'
      split at hx'
      · obtain ⟨ad, e, _⟩ := hra'
        exact ⟨ad, e⟩
      · obtain ⟨_, _, _, ad, e, _⟩ := hra'
        exact ⟨ad, e⟩
      · cases hx'
    obtain ⟨ad, e⟩ := hp
    have h3' : (Instr.loadAt t (tmps.getD a undef)).run P w = .ok u w := h3
    simp only [resV]
    rw [e] at h3' ⊢
    exact h3'

theorem resL_run {P : Program} {z : Cz} {σ : AH} {w : World} {fr : List AV} {tmps : Array Value} (hI : Inv z σ w) (hR : RL z σ w fr tmps.toList) : ∀ {rs : List ResultVar} {xs : List AV}, resL P fr σ rs = some xs →
    ∃ vs : List Value, (rs.mapM (resV tmps)).run P w = .ok vs w ∧ RL z σ w xs vs
  | [], _, h => by cases h; exact ⟨[], rfl, rfl⟩
  | r :: rs, _, h => by
    simp only [resL] at h
    split at h
    · rename_i x xs hx hxs
      cases h
      obtain ⟨vs, h1, h2⟩ := resL_run hI hR hxs
      obtain ⟨v, h3, h4⟩ := resX_run (P := P) hI hR hx
      exact ⟨v :: vs, by rw [List.mapM_cons, run_bind_ok h3, run_bind_ok h1]; rfl, v, vs, rfl, h4, h2⟩
    · cases h

theorem results_eq (fn : Func) (tmps : Array Value) : results fn tmps = (do
    let vs ← fn.results.mapM (resV tmps)
    pure (if h : vs.size = 1 then vs[0] else .tuple vs)) := by
  unfold results
  have e : (fun x => match x with
      | .tmp t => pure (tmps.getD t undef)
      | .cell a t => do loadVar t (← asAddr (tmps.getD a undef))) = resV tmps := by
    funext x
    cases x <;> rfl
  rw [← e]
  rfl

theorem resA_run {P : Program} {z : Cz} {σ : AH} {w : World} {fn : Func} {fr : List AV} {tmps : Array Value} {x : AV} (hI : Inv z σ w) (hR : RL z σ w fr tmps.toList) (h : resA P fn fr σ = some x) :
    ∃ v, (results fn tmps).run P w = .ok v w ∧ R z σ w x v := by
  unfold resA at h
  have key : ∀ xs, resL P fr σ fn.results.toList = some xs → ∃ vs : List Value, (fn.results.mapM (resV tmps)).run P w = .ok vs.toArray w ∧ RL z σ w xs vs := by
    intro xs hxs
    obtain ⟨vs, h1, h2⟩ := resL_run hI hR hxs
    refine ⟨vs, ?_, h2⟩
    rw [Array.mapM_eq_mapM_toList]
    show ((fn.results.toList.mapM (resV tmps)) >>= fun x => pure x.toArray).run P w = _
    rw [run_bind_ok h1]
    rfl
  rw [results_eq]
  split at h
  · rename_i y hy
    cases h
    obtain ⟨vs, h1, u, us, e, h2, h3⟩ := key _ hy
    rw [show us = [] from h3] at e
    subst e
    refine ⟨u, ?_, h2⟩
    rw [run_bind_ok h1]
    rfl
  · rename_i xs hne hxs
    cases h
    obtain ⟨vs, h1, h2⟩ := key _ hxs
    refine ⟨.tuple vs.toArray, ?_, _, rfl, by simpa using h2⟩
    rw [run_bind_ok h1]
    have : ¬ vs.toArray.size = 1 := by
      intro hs
      have hl := h2.length
      simp at hs
      rw [hs] at hl
      match xs, hl with
      | [y], _ => exact hne y rfl
    rw [dif_neg this]
    rfl
  · cases h

/-- What a function gives, when the rows of its own are let go. -/
inductive Done (σ : AH) (out : AOut) (σ' : AH) : AOut → AH → Prop
  | plain : Done σ out σ' out σ'
  | ret (x y : AV) (g : AH) (e : out = .ret y) (hl : σ.length ≤ σ'.length) (hb : OwnBel σ'.length σ → OwnBel σ'.length σ') (h : Fz σ'.length (σ' ++ g) x y) : Done σ out σ' (.ret x) (σ' ++ g)
  | panic (x y : AV) (g : AH) (e : out = .panic y) (hl : σ.length ≤ σ'.length) (hb : OwnBel σ'.length σ → OwnBel σ'.length σ') (h : Fz σ'.length (σ' ++ g) x y) : Done σ out σ' (.panic x) (σ' ++ g)

theorem Done.same {σ σ' : AH} {x y : AV} (h : x = y) : Done σ (.ret y) σ' (.ret x) σ' := h ▸ .plain
theorem Done.weak {σ : AH} {x y : AV} (h : OwnBel σ.length σ → Fz σ.length σ x y) (hB : OwnBel σ.length σ) : Done σ (.ret y) σ (.ret x) σ := by
  have := Done.ret (σ := σ) (out := .ret y) (σ' := σ) x y [] rfl (Nat.le_refl _) id (by rw [List.append_nil]; exact h hB)
  rwa [List.append_nil] at this

mutual
theorem Bel.up {n m : Nat} (hnm : n ≤ m) : ∀ (x : AV), Bel n x → Bel m x
  | .bool _, h => h
  | .int _ _, h => h
  | .str _, h => h
  | .nilsl, h => h
  | .zsl, h => h
  | .nilptr, h => h
  | .nilIface, h => h
  | .nilFunc, h => h
  | .sl _ xs, h => BelL.up hnm xs h
  | .elem xs, h => BelL.up hnm xs h
  | .agg xs, h => BelL.up hnm xs h
  | .tuple xs, h => BelL.up hnm xs h
  | .iface _ x, h => Bel.up hnm x h
  | .func _ xs us, h => ⟨BelL.up hnm xs h.1, BelL.up hnm us h.2⟩
  | .own _ _ _ _ _, h => Nat.lt_of_lt_of_le h hnm
  | .ptr _ _ _ _, h => Nat.lt_of_lt_of_le h hnm
theorem BelL.up {n m : Nat} (hnm : n ≤ m) : ∀ (xs : List AV), BelL n xs → BelL m xs
  | [], h => h
  | x :: xs, h => ⟨Bel.up hnm x h.1, BelL.up hnm xs h.2⟩
end

theorem AFun.of_body {P : Program} {f : FuncId} {fn : Func} {c : Code} {args : List AV} {σ σ' : AH} {out : AOut} (hf : P.funcs[f]? = some fn) (hb : fn.body = some c) (hok : callOk P f = true)
    (h : AW P σ.length c (args ++ List.replicate (fn.ntmps - args.length) undefA) σ (bodyQ P fn (Done σ out σ'))) : AFun P f args σ out σ' := by
  refine .inl ⟨hok, fun z w vs hI hvs => calls_of_wp hf hb ?_⟩
  have hl := hvs.length
  refine wp_mono (h z σ w z w { tmps := vs ++ Array.replicate (fn.ntmps - vs.size) undef, defers := [] } rfl (Ext.refl _ _ _) hI ?_) ?_
  · rw [Array.toList_append, Array.toList_replicate]
    have hl' : args.length = vs.size := hl
    rw [hl']
    exact hvs.append (RL.replicate R_undef _)
  · have hB : ∀ m, σ.length ≤ m → OwnBel m σ := by
      intro m hm id o ho
      exact BelL.up hm _ (hI.ownBel id o ho)
    have fin : ∀ {o σ₁ z₁ w₁} {e : Ending}, Done σ out σ' o σ₁ → Ext z σ w z₁ σ₁ w₁ → Inv z₁ σ₁ w₁ → OutR z₁ σ₁ w₁ o e → ∃ z', Ext z σ w z' σ' w₁ ∧ Inv z' σ' w₁ ∧ OutR z' σ' w₁ out e := by
      intro o σ₁ z₁ w₁ e hd hE hI hO
      cases hd with
      | plain => exact ⟨z₁, hE, hI, hO⟩
      | ret x y g he hl hb hz =>
        obtain ⟨h1, h2⟩ := let_go hl (hb (hB _ hl)) hE hI
        refine ⟨_, h1, h2, ?_⟩
        subst he
        obtain ⟨v, hv, hr⟩ := hO
        exact ⟨v, hv, Fz.sound hI (fun id hid => (List.getElem?_append_left hid).symm) hz v hr⟩
      | panic x y g he hl hb hz =>
        obtain ⟨h1, h2⟩ := let_go hl (hb (hB _ hl)) hE hI
        refine ⟨_, h1, h2, ?_⟩
        subst he
        obtain ⟨v, hv, hr⟩ := hO
        exact ⟨v, hv, Fz.sound hI (fun id hid => (List.getElem?_append_left hid).symm) hz v hr⟩
    rintro e a w' ⟨z', fr, σ₁, ae, h1, h2, h3, h4, h5, h6⟩
    have h4' : a.defers = [] := h4
    have rets : (match resA P fn fr σ₁ with
        | some x => Done σ out σ' (.ret x) σ₁
        | none => False) → ∃ v, (results fn a.tmps).run P w' = .ok v w' ∧ ∃ z', Ext z σ w z' σ' w' ∧ Inv z' σ' w' ∧ OutR z' σ' w' out (.returned v) := by
      intro hq
      split at hq
      · rename_i x hx
        obtain ⟨v, hv, hr⟩ := resA_run h2 h3 hx
        exact ⟨v, hv, fin hq h1 h2 ⟨v, rfl, hr⟩⟩
      · exact hq.elim
    cases ae with
    | normal => obtain rfl : e = .normal := h5; exact ⟨h4', rets h6⟩
    | ret => obtain rfl : e = .ret := h5; exact ⟨h4', rets h6⟩
    | panic x => obtain ⟨v, rfl, hv⟩ := h5; exact ⟨h4', fin h6 h1 h2 ⟨v, rfl, hv⟩⟩
    | exit id => exact h6.elim
    | goto id => exact h6.elim

end Go.Abs
end
section
/- Regions whose order is open. -/
namespace Go.Abs

inductive Cls where
  | pure | same | eff
  deriving DecidableEq

/-- What kind of operation it is: it only reckons; it leaves the held rows as they are; it may turn them. -/
def clsOf (L : List Nat) (o : Oper) : Cls :=
  match o.op with
  | .move _ | .assign _ | .pick _ _ _ | .binOp _ _ _ _ _ | .unOp _ _ _ | .makeInterface _ _ | .makeFunc _ _ _ | .extract _ _ | .typeAssert _ _ _ _ | .nilCheck _ | .slice _ _ _ _ _
  | .fieldAddr _ _ _ | .field _ _ _ | .indexAddr _ _ _ | .index _ _ _ | .build _ _ => .pure
  | .load _ _ | .convert _ _ _ => .same
  | .box _ _ | .alloc _ | .buildSlice _ _ _ | .makeSlice _ _ _ => if held L o.dst then .eff else .same
  | .call c => match c.callee with
    | .builtin .len | .builtin .max | .builtin .min | .builtin .unsafeSliceData => .pure
    | .builtin .append => if held L o.dst then .eff else .same
    | .builtin _ => .eff
    | _ => .same
  | _ => .eff

section
variable {P : Program} {L : List Nat}

theorem AOp.congr {o : Oper} {es es' : Operand → Option AV} {σ σ' : AH} {out : AV} (h : ∀ x ∈ o.op.operands, es x = es' x) (k : AOp P o es σ out σ') : AOp P o es' σ out σ' :=
  fun z w ρ hI hρ => k z w ρ hI fun x hx a ha => hρ x hx a (by rw [← h x hx]; exact ha)

theorem AOp.of_fun {o : Oper} {fr : List AV} {σ σ' : AH} {out : AV} {c : Call} {g : FuncId} {args : List AV} (ho : o.op = .call c) (h : AFun P g args σ (.ret out) σ')
    (k : (∃ f first cap as, c.callee = .value f ∧ ev fr f = some (.func (.func g) first cap) ∧ evL (ev fr) c.args.toList = some as ∧ args = first ++ as ++ cap) ∨
      (∃ r m t x as, c.callee = .invoke r m ∧ ev fr r = some (.iface t x) ∧ evL (ev fr) c.args.toList = some as ∧ methA P t m = some g ∧ args = x :: as)) : AOp P o (ev fr) σ out σ' := by
  intro z w ρ hI hρ
  have he : ∃ vs : Array Value, (execOp ρ o).run P w = (callFunc g vs).run P w ∧ RL z σ w args vs.toList := by
    rcases k with ⟨f, first, cap, as, h1, h2, h3, rfl⟩ | ⟨r, m, t, x, as, h1, h2, h3, h4, rfl⟩
    · exact callValue_run ho h1 hρ h2 h3
    · exact callMethod_run ho h1 hρ h2 h3 h4
  obtain ⟨vs, hrun, hvs⟩ := he
  rw [hrun]
  rcases h with ⟨hok, h⟩ | h
  · rw [callFunc_run hok]
    refine Calls.mono (h z w vs hI hvs) ?_
    rintro e w' ⟨z', h1, h2, v, rfl, hr⟩
    exact ⟨z', h1, h2, hr⟩
  · obtain ⟨v, w', z', h1, h2, h3, u, e, hr⟩ := h z w vs hI hvs
    cases e
    rw [h1]
    exact ⟨z', h2, h3, hr⟩

/-- What an operation gives, and what becomes of the held rows. -/
def Val (P : Program) (L : List Nat) (ops : List Oper) (o : Oper) (fr : List AV) (σ : AH) (out : AV) (σ' : AH) : Prop :=
  (gd ops fr o = false ∧ out = undefA ∧ σ' = σ) ∨
  (gd ops fr o = true ∧ ((clsOf L o = .pure ∧ (∀ τ, AOp P o (ev fr) τ out τ) ∧ σ' = σ) ∨ (clsOf L o = .same ∧ AOp P o (ev fr) σ out σ ∧ σ' = σ) ∨ (clsOf L o = .eff ∧ AOp P o (ev fr) σ out σ')))

theorem evEff_pure {o : Oper} (hc : clsOf L o = .pure) (σ : AH) (hold : Bool) (es : Operand → Option AV) : evEff P σ hold o.op es = none := by
  obtain ⟨dst, op, type, pos, after, guard⟩ := o
  cases op <;> first
    | rfl
    | (simp only [clsOf] at hc; cases hc; done)
    | (simp only [clsOf] at hc; split at hc <;> cases hc; done)
    | skip
  case call c =>
    obtain ⟨callee, args, argTypes⟩ := c
    cases callee <;> first
      | rfl
      | skip
    case builtin b =>
      cases b <;> first
        | rfl
        | (simp only [clsOf] at hc; cases hc; done)
        | (simp only [clsOf] at hc; split at hc <;> cases hc; done)

theorem evEff_same {o : Oper} (hc : clsOf L o = .same) {σ σ' : AH} {es : Operand → Option AV} {out : AV} (h : evEff P σ (held L o.dst) o.op es = some (out, σ')) : σ' = σ := by
  obtain ⟨dst, op, type, pos, after, guard⟩ := o
  simp only at h
  have hh : ∀ {b : Bool}, (if b = true then Cls.eff else Cls.same) = .same → b = false := by
    intro b hb
    cases b
    · rfl
    · cases hb
  cases op <;> first
    | (simp only [clsOf] at hc; cases hc; done)
    | skip
  case load t a =>
    simp only [evEff] at h
    split at h
    · cases hl : evLoad P σ t _ with
      | none => rw [hl] at h; cases h
      | some y => rw [hl] at h; cases h; rfl
    · cases h
  case convert s d x =>
    simp only [evEff] at h
    split at h
    · unfold evCv at h
      cases hu : evCv1 P σ s d _ with
      | none => rw [hu] at h; cases h
      | some v => rw [hu] at h; cases h; rfl
    · cases h
  case box t x =>
    have hb := hh hc
    simp only [evEff, hb] at h
    split at h
    · unfold evBox at h
      split at h
      · cases h; rfl
      · cases h
    · cases h
  case alloc t =>
    have hb := hh hc
    simp only [evEff, hb] at h
    split at h
    · unfold evBox at h
      split at h
      · cases h; rfl
      · cases h
    · cases h
  case buildSlice t n parts =>
    have hb := hh hc
    simp only [evEff, hb] at h
    unfold evBuildSlice at h
    split at h
    · split at h
      · split at h
        · split at h
          · cases h; rfl
          · cases h
        · cases h
      · cases h
    · cases h
  case makeSlice t l c =>
    have hb := hh hc
    simp only [evEff, hb] at h
    split at h
    · unfold evMake at h
      split at h
      · split at h
        · split at h
          · cases h; rfl
          · cases h
        · cases h
      · cases h
    · cases h
  case call c =>
    obtain ⟨callee, args, argTypes⟩ := c
    cases callee with
    | value f => simp only [evEff] at h; cases h
    | invoke r m => simp only [evEff] at h; cases h
    | builtin b =>
      cases b <;> first
        | (simp only [clsOf] at hc; cases hc; done)
        | skip
      have hb := hh hc
      simp only [evEff, hb] at h
      split at h
      · unfold evAppend at h
        split at h
        · split at h
          · cases h
          · split at h
            · split at h
              · split at h
                · split at h
                  · split at h
                    · cases h; rfl
                    · cases h
                  · split at h
                    · cases h; rfl
                    · cases h
                  · split at h
                    · split at h
                      · rename_i hc; cases hc.1
                      · cases h
                    · cases h
                  · cases h
                · cases h
              · cases h
            · cases h
        · cases h
      · exfalso
        rename_i e1 _ _
        first
          | (cases e1; done)
          | (simp at e1; done)
      · cases h

theorem val_of_ops {n : Nat} {ops : List Oper} {o : Oper} {os : List Oper} {Q : APost} {fr : List AV} {σ : AH} (h : AOps P L n true ops Q (o :: os) fr σ) : ∃ out σ', Val P L ops o fr σ out σ' ∧ AOps P L n true ops Q os (put fr o.dst out) σ' := by
  simp only [AOps] at h
  split at h
  · rename_i hg
    split at h
    · rename_i out hout
      refine ⟨out, σ, .inr ⟨hg, ?_⟩, h⟩
      cases hc : clsOf L o with
      | pure => exact .inl ⟨rfl, fun τ => AOp.of_P hout τ, rfl⟩
      | same => exact .inr (.inl ⟨rfl, AOp.of_P hout σ, rfl⟩)
      | eff => exact .inr (.inr ⟨rfl, AOp.of_P hout σ⟩)
    · have effs : ∀ {K : AV → AH → Prop}, (match evEff P σ (held L o.dst) o.op (ev fr) with
          | some (out, σ') => K out σ'
          | none => False) → ∃ out σ', Val P L ops o fr σ out σ' ∧ K out σ' := by
        intro K h
        split at h
        · rename_i out σ' he
          refine ⟨out, σ', .inr ⟨hg, ?_⟩, h⟩
          cases hc : clsOf L o with
          | pure => rw [evEff_pure hc] at he; cases he
          | same =>
            obtain rfl := evEff_same hc he
            exact .inr (.inl ⟨rfl, AOp.of_eff he, rfl⟩)
          | eff => exact .inr (.inr ⟨rfl, AOp.of_eff he⟩)
        · exact h.elim
      rename_i hne
      clear hne
      have effs2 : ∀ {K : AV → AH → Prop}, effK true (evEff P σ (held L o.dst) o.op (ev fr)) (evAux P σ o.op (ev fr)) σ K → ∃ out σ', Val P L ops o fr σ out σ' ∧ K out σ' := by
        intro K h
        refine effs ?_
        unfold effK at h
        split at h
        · rename_i r he
          rw [he]
          exact h
        · split at h
          · exact h.elim
          · exact h.elim
      obtain ⟨dst, op, type, pos, after, guard⟩ := o
      unfold AEff at h
      cases op
      case call c =>
        obtain ⟨callee, args, argTypes⟩ := c
        cases callee
        case builtin b => exact effs h
        case value f =>
          simp only at h
          split at h
          · rename_i g first cap as hf has
            obtain ⟨out, h1, h2⟩ := h
            exact ⟨out, σ, .inr ⟨hg, .inr (.inl ⟨rfl, AOp.of_fun rfl h1 (.inl ⟨f, first, cap, as, rfl, hf, has, rfl⟩), rfl⟩)⟩, h2⟩
          · exact h.elim
        case invoke r m =>
          simp only at h
          split at h
          · rename_i t x as hf has
            split at h
            · rename_i g hgm
              obtain ⟨out, h1, h2⟩ := h
              exact ⟨out, σ, .inr ⟨hg, .inr (.inl ⟨rfl, AOp.of_fun rfl h1 (.inr ⟨r, m, t, x, as, rfl, hf, has, hgm, rfl⟩), rfl⟩)⟩, h2⟩
            · exact h.elim
          · exact h.elim
      case panic x =>
        simp only at h
      all_goals exact effs2 h
  · rename_i hg
    exact ⟨undefA, σ, .inl ⟨by simpa using hg, rfl, rfl⟩, h⟩

/-! #### two operations that may change places -/
theorem getD_set_ne' {fr : List AV} {d t : Nat} {v : AV} (h : d ≠ t) : (fr.set d v).getD t undefA = fr.getD t undefA := by
  simp [List.getD, List.getElem?_set_ne h]

theorem ev_put {fr : List AV} {d : Option Tmp} {v : AV} {x : Operand} (h : ∀ t, d = some t → x ≠ .tmp t) : ev (put fr d v) x = ev fr x := by
  cases d with
  | none => rfl
  | some d =>
    cases x with
    | tmp t =>
      have hne : d ≠ t := fun e => h d rfl (e ▸ rfl)
      simp only [ev, put, getD_set_ne' hne]
    | _ => rfl

theorem gd_put {ops : Array Oper} {fr : List AV} {d : Option Tmp} {v : AV} {o : Oper} (h : ∀ t, d = some t → t ∉ o.looksAt ops) : gd ops.toList (put fr d v) o = gd ops.toList fr o := by
  cases d with
  | none => rfl
  | some d =>
    unfold gd
    cases hg : o.guard with
    | none => rfl
    | some g =>
      obtain ⟨j, want⟩ := g
      simp only
      have e : ops.toList[j]? = ops[j]? := by simp
      rw [e]
      cases ht : (ops[j]?).bind (·.dst) with
      | none => rfl
      | some t =>
        have hne : d ≠ t := fun e => h d rfl (by subst e; simp [Oper.looksAt, hg, ht])
        simp only [put, List.getElem?_set_ne hne]

theorem Val.congr {ops : Array Oper} {fr : List AV} {d : Option Tmp} {v : AV} {o : Oper} {σ σ' : AH} {out : AV} (h : ∀ t, d = some t → t ∉ o.looksAt ops) :
    Val P L ops.toList o (put fr d v) σ out σ' ↔ Val P L ops.toList o fr σ out σ' := by
  have he : ∀ x ∈ o.op.operands, ev (put fr d v) x = ev fr x := fun x hx => ev_put fun t ht e => h t ht (by
    subst e
    exact List.mem_append_left _ (List.mem_filterMap.2 ⟨.tmp t, by simpa using hx, rfl⟩))
  unfold Val
  rw [gd_put h]
  constructor
  · rintro (h1 | ⟨h1, h2 | h2 | h2⟩)
    · exact .inl h1
    · exact .inr ⟨h1, .inl ⟨h2.1, fun τ => (h2.2.1 τ).congr he, h2.2.2⟩⟩
    · exact .inr ⟨h1, .inr (.inl ⟨h2.1, h2.2.1.congr he, h2.2.2⟩)⟩
    · exact .inr ⟨h1, .inr (.inr ⟨h2.1, h2.2.congr he⟩)⟩
  · have he' : ∀ x ∈ o.op.operands, ev fr x = ev (put fr d v) x := fun x hx => (he x hx).symm
    rintro (h1 | ⟨h1, h2 | h2 | h2⟩)
    · exact .inl h1
    · exact .inr ⟨h1, .inl ⟨h2.1, fun τ => (h2.2.1 τ).congr he', h2.2.2⟩⟩
    · exact .inr ⟨h1, .inr (.inl ⟨h2.1, h2.2.1.congr he', h2.2.2⟩)⟩
    · exact .inr ⟨h1, .inr (.inr ⟨h2.1, h2.2.congr he'⟩)⟩

def okTwo (L : List Nat) (ops : Array Oper) (x y : Oper) : Bool :=
  x.apart ops y && (clsOf L x == .pure || clsOf L y == .pure || (clsOf L x == .same && clsOf L y == .same))

theorem put_comm (fr : List AV) {x y : Option Tmp} (v u : AV) (h : ∀ d, x = some d → y ≠ some d) : put (put fr x v) y u = put (put fr y u) x v := by
  cases x with
  | none => rfl
  | some d =>
    cases y with
    | none => rfl
    | some e =>
      have hne : d ≠ e := fun he => h d rfl (he ▸ rfl)
      simp only [put]
      rw [List.set_comm _ _ hne]

theorem Val.swap {ops : Array Oper} {x y : Oper} {fr : List AV} {σ σ₁ σ₂ : AH} {a b : AV} (hi : okTwo L ops x y = true) (h1 : Val P L ops.toList x fr σ a σ₁) (h2 : Val P L ops.toList y (put fr x.dst a) σ₁ b σ₂) :
    ∃ τ, Val P L ops.toList y fr σ b τ ∧ Val P L ops.toList x (put fr y.dst b) τ a σ₂ ∧ put (put fr y.dst b) x.dst a = put (put fr x.dst a) y.dst b := by
  simp only [okTwo, Bool.and_eq_true, Bool.or_eq_true, beq_iff_eq] at hi
  obtain ⟨hap, hc⟩ := hi
  obtain ⟨p1, p2, p3⟩ := Oper.apart_spec hap
  rw [Val.congr p1] at h2
  have hpc : put (put fr y.dst b) x.dst a = put (put fr x.dst a) y.dst b := (put_comm fr a b p2).symm
  have key : ∃ τ, Val P L ops.toList y fr σ b τ ∧ Val P L ops.toList x fr τ a σ₂ := by
    rcases h1 with ⟨g1, rfl, rfl⟩ | ⟨g1, ⟨c1, k1, rfl⟩ | ⟨c1, k1, rfl⟩ | ⟨c1, k1⟩⟩
    · exact ⟨σ₂, h2, .inl ⟨g1, rfl, rfl⟩⟩
    · exact ⟨σ₂, h2, .inr ⟨g1, .inl ⟨c1, k1, rfl⟩⟩⟩
    · have : σ₂ = σ₁ := by
        rcases h2 with ⟨_, _, e⟩ | ⟨_, ⟨_, _, e⟩ | ⟨_, _, e⟩ | ⟨c2, _⟩⟩
        · exact e
        · exact e
        · exact e
        · rw [c1, c2] at hc; simp at hc
      subst this
      exact ⟨σ₂, h2, .inr ⟨g1, .inr (.inl ⟨c1, k1, rfl⟩)⟩⟩
    · rcases h2 with ⟨g2, rfl, rfl⟩ | ⟨g2, ⟨c2, k2, rfl⟩ | ⟨c2, _⟩ | ⟨c2, _⟩⟩
      · exact ⟨σ, .inl ⟨g2, rfl, rfl⟩, .inr ⟨g1, .inr (.inr ⟨c1, k1⟩)⟩⟩
      · exact ⟨σ, .inr ⟨g2, .inl ⟨c2, k2, rfl⟩⟩, .inr ⟨g1, .inr (.inr ⟨c1, k1⟩)⟩⟩
      · rw [c1, c2] at hc; simp at hc
      · rw [c1, c2] at hc; simp at hc
  obtain ⟨τ, k1, k2⟩ := key
  exact ⟨τ, k1, (Val.congr p3).2 k2, hpc⟩

end
end Go.Abs
end
section
/- Regions whose order is open: any order gives what the text's order gives. -/
namespace Go.Abs
section
variable {P : Program} {L : List Nat} {ops : Array Oper}

/-- Operations, carried out one behind the other. -/
inductive Chain (P : Program) (L : List Nat) (ops : Array Oper) : List Nat → List AV → AH → List AV → AH → Prop
  | nil (fr : List AV) (σ : AH) : Chain P L ops [] fr σ fr σ
  | cons (i : Nat) (is : List Nat) (o : Oper) (fr : List AV) (σ : AH) (out : AV) (σ₁ : AH) (fr' : List AV) (σ' : AH) (ho : ops[i]? = some o) (h : Val P L ops.toList o fr σ out σ₁)
      (k : Chain P L ops is (put fr o.dst out) σ₁ fr' σ') : Chain P L ops (i :: is) fr σ fr' σ'

theorem chain_of_ops {n : Nat} {Q : APost} : ∀ (os : List Oper) (i : Nat) (fr : List AV) (σ : AH), ops.toList.drop i = os → AOps P L n true ops.toList Q os fr σ →
    ∃ fr' σ', Chain P L ops (List.range' i (ops.size - i)) fr σ fr' σ' ∧ Q .normal fr' σ'
  | [], i, fr, σ, hd, h => by
    have : ops.size ≤ i := by
      have := congrArg List.length hd
      simp at this
      omega
    rw [show ops.size - i = 0 by omega]
    exact ⟨fr, σ, .nil fr σ, h⟩
  | o :: os, i, fr, σ, hd, h => by
    have hi : i < ops.size := by
      have := congrArg List.length hd
      simp at this
      omega
    have ho : ops[i]? = some o := by
      have := congrArg (·[0]?) hd
      simpa [List.getElem?_drop] using this
    have hd' : ops.toList.drop (i + 1) = os := by
      rw [← List.drop_drop, hd]
      rfl
    rw [show ops.size - i = (ops.size - (i + 1)) + 1 by omega, List.range'_succ]
    obtain ⟨out, σ₁, h1, h2⟩ := val_of_ops h
    obtain ⟨fr', σ', h3, h4⟩ := chain_of_ops os (i + 1) _ σ₁ hd' h2
    exact ⟨fr', σ', .cons i _ o fr σ out σ₁ fr' σ' ho h1 h3, h4⟩

theorem Chain.bubble {i : Nat} {post : List Nat} {fr' : List AV} {σ' : AH} : ∀ (pre : List Nat) (fr : List AV) (σ : AH), (∀ j ∈ pre, ∀ x y, ops[j]? = some x → ops[i]? = some y → okTwo L ops x y = true) →
    Chain P L ops (pre ++ i :: post) fr σ fr' σ' → Chain P L ops (i :: (pre ++ post)) fr σ fr' σ'
  | [], _, _, _, h => h
  | j :: pre, fr, σ, hok, h => by
    cases h with
    | cons _ _ oj _ _ out σ₁ _ _ hj h1 k =>
      have k' := Chain.bubble pre _ _ (fun m hm => hok m (List.mem_cons_of_mem _ hm)) k
      cases k' with
      | cons _ _ oi _ _ out' σ₂ _ _ hi h2 k2 =>
        obtain ⟨τ, s1, s2, s3⟩ := Val.swap (hok j (List.mem_cons_self ..) oj oi hj hi) h1 h2
        refine .cons i _ oi fr σ out' τ fr' σ' hi s1 (.cons j _ oj _ _ out σ₂ fr' σ' hj s2 ?_)
        rw [s3]
        exact k2

/-- For each operation the ones that come ahead of it in every order, as bits. -/
def befs (ops : List Oper) : List Nat :=
  ops.foldl (init := []) fun acc o => acc ++ [o.after.toList.foldl (fun s e => if Region.binds .any e then s ||| 2 ^ e.on ||| acc.getD e.on 0 else s) 0]

/-- The table says no more than the operations' edges do. -/
def befsOk (T : List Nat) (ops : Array Oper) : Bool :=
  (List.range ops.size).all fun i => match ops[i]? with
    | none => true
    | some o => (o.after.toList.all fun e => !Region.binds .any e || decide (e.on < i)) &&
      (List.range i).all fun j => !(T.getD i 0).testBit j || o.after.toList.any fun e => Region.binds .any e && (e.on == j || (decide (j < e.on) && (T.getD e.on 0).testBit j))

def pairsOk (L : List Nat) (T : List Nat) (ops : Array Oper) : Bool :=
  (List.range ops.size).all fun i => (List.range i).all fun j => (T.getD i 0).testBit j || match ops[j]?, ops[i]? with
    | some x, some y => okTwo L ops x y
    | _, _ => true

def okDraw (P : Program) (L : List Nat) (ops : Array Oper) : Bool :=
  P.follows .mixedOrders && befsOk (befs ops.toList) ops && pairsOk L (befs ops.toList) ops

theorem testBit_listed {T : List Nat} {listed : Array Bool} (hT : befsOk T ops = true) (hc : ∀ k o, ops[k]? = some o → listed.getD k false = true → ∀ e ∈ o.after, Region.binds .any e = true → listed.getD e.on false = true) :
    ∀ (i : Nat) (o : Oper), ops[i]? = some o → (∀ e ∈ o.after, Region.binds .any e = true → listed.getD e.on false = true) → ∀ j, j < i → (T.getD i 0).testBit j = true → listed.getD j false = true := by
  intro i
  induction i using Nat.strongRecOn with
  | _ i ih =>
    intro o ho hr j hj hb
    have h1 := List.all_eq_true.1 hT i (List.mem_range.2 (Array.getElem?_eq_some_iff.1 ho).1)
    simp only [ho, Bool.and_eq_true] at h1
    obtain ⟨h2, h3⟩ := h1
    have h4 := List.all_eq_true.1 h3 j (List.mem_range.2 hj)
    rw [hb] at h4
    simp only [Bool.not_true, Bool.false_or] at h4
    obtain ⟨e, he, h5⟩ := List.any_eq_true.1 h4
    simp only [Bool.and_eq_true, Bool.or_eq_true, beq_iff_eq, decide_eq_true_eq] at h5
    obtain ⟨h6, h7⟩ := h5
    have he' : e ∈ o.after := by simpa using he
    have hl := hr e he' h6
    rcases h7 with h7 | ⟨hje, h7⟩
    · exact h7 ▸ hl
    · have h8 := List.all_eq_true.1 h2 e he
      rw [h6] at h8
      simp only [Bool.not_true, Bool.false_or, decide_eq_true_eq] at h8
      have hx : e.on < ops.size := Nat.lt_trans h8 (Array.getElem?_eq_some_iff.1 ho).1
      have ho' : ops[e.on]? = some ops[e.on] := by simp [hx]
      exact ih e.on h8 _ ho' (hc _ _ ho' hl) j hje h7

theorem any_of_chain {Q : Exit → Act → World → Prop} (hT : ∃ T, befsOk T ops = true ∧ pairsOk L T ops = true) {fr' : List AV} {σ' : AH} {z₀ : Cz} {σ₀ : AH} {w₀ : World} {ds : List Deferred}
    (hQ : ∀ z w a, Ext z₀ σ₀ w₀ z σ' w → Inv z σ' w → RL z σ' w fr' a.tmps.toList → a.defers = ds → Q .normal a w) :
    ∀ (fuel : Nat) (rem : List Nat) (listed : Array Bool) (fr : List AV) (σ : AH) (z : Cz) (w : World) (a : Act), rem.length = fuel → listed.size = ops.size → rem.Pairwise (· < ·) → (∀ i, i < ops.size → (listed.getD i false = false ↔ i ∈ rem)) → (∀ i ∈ rem, i < ops.size) →
      (∀ k o, ops[k]? = some o → listed.getD k false = true → ∀ e ∈ o.after, Region.binds .any e = true → listed.getD e.on false = true) →
      Chain P L ops rem fr σ fr' σ' → Ext z₀ σ₀ w₀ z σ w → Inv z σ w → RL z σ w fr a.tmps.toList → a.defers = ds → wpAny P .any ops Q fuel listed a w
  | 0, rem, listed, fr, σ, z, w, a, hl, hs, _, hm, _, _, hch, hE, hI, hR, hd => by
    have : rem = [] := List.eq_nil_of_length_eq_zero hl
    subst this
    cases hch
    refine ⟨?_, hQ z w a hE hI hR hd⟩
    apply List.eq_nil_iff_forall_not_mem.2
    intro i hi
    obtain ⟨h1, o, ho, _⟩ := mem_ready.1 hi
    have hlt := (Array.getElem?_eq_some_iff.1 ho).1
    have h2 : listed.getD i false = false := by
      simp [hs, hlt] at h1 ⊢
      exact h1
    exact absurd ((hm i hlt).1 h2) (by simp)
  | fuel + 1, rem, listed, fr, σ, z, w, a, hl, hs, hp, hm, hlt, hc, hch, hE, hI, hR, hd => by
    obtain ⟨T, hT1, hT2⟩ := hT
    refine ⟨fun hr => ?_, fun i hi => ?_⟩
    · -- the first of the rest is ready
      exfalso
      cases hch with
      | nil => cases hl
      | cons i is o _ _ out σ₁ _ _ ho h k =>
        have hio := (Array.getElem?_eq_some_iff.1 ho).1
        have hun : listed.getD i false = false := (hm i hio).2 (List.mem_cons_self ..)
        have : i ∈ Region.ready .any ops listed := by
          refine mem_ready.2 ⟨?_, o, ho, fun e he hb => ?_⟩
          · simp [hs, hio] at hun ⊢
            exact hun
          · have h1 := List.all_eq_true.1 hT1 i (List.mem_range.2 hio)
            simp only [ho, Bool.and_eq_true] at h1
            have h8 := List.all_eq_true.1 h1.1 e (by simpa using he)
            rw [hb] at h8
            simp only [Bool.not_true, Bool.false_or, decide_eq_true_eq] at h8
            cases hv : listed.getD e.on false with
            | true => rfl
            | false =>
              have hmem := (hm e.on (Nat.lt_trans h8 hio)).1 hv
              rcases List.mem_cons.1 hmem with h9 | h9
              · omega
              · have := List.rel_of_pairwise_cons hp h9
                omega
        rw [hr] at this
        cases this
    · obtain ⟨h1, o, ho, hdeps⟩ := mem_ready.1 hi
      have hio := (Array.getElem?_eq_some_iff.1 ho).1
      have hun : listed.getD i false = false := by
        simp [hs, hio] at h1 ⊢
        exact h1
      have himem := (hm i hio).1 hun
      obtain ⟨pre, post, rfl⟩ := List.append_of_mem himem
      have hpre : ∀ j ∈ pre, j < i := by
        intro j hj
        exact (List.pairwise_append.1 hp).2.2 j hj i (List.mem_cons_self ..)
      have hb := Chain.bubble pre fr σ (fun j hj x y hx hy => by
        rw [ho] at hy
        cases hy
        have hji := hpre j hj
        have h2 := List.all_eq_true.1 hT2 i (List.mem_range.2 hio)
        have h3 := List.all_eq_true.1 h2 j (List.mem_range.2 hji)
        simp only [hx, ho, Bool.or_eq_true] at h3
        rcases h3 with h3 | h3
        · have h4 := testBit_listed hT1 hc i o ho hdeps j hji h3
          have h5 := (hm j (by omega)).2 (by simp [hj])
          rw [h4] at h5
          cases h5
        · exact h3) hch
      cases hb with
      | cons _ _ o' _ _ out σ₁ _ _ ho' hval k =>
        rw [ho] at ho'
        cases ho'
        have next : ∀ z' v w', Ext z σ w z' σ₁ w' → Inv z' σ₁ w' → R z' σ₁ w' out v → wpAny P .any ops Q fuel (listed.setIfInBounds i true) (a.put o.dst v) w' := by
          intro z' v w' g1 g2 g3
          have hgd : ∀ j, (listed.setIfInBounds i true).getD j false = if j = i then true else listed.getD j false := by
            intro j
            by_cases hj : j = i
            · subst hj
              simp [hs, hio]
            · rw [if_neg hj, getD_set_ne false (Ne.symm hj)]
          have hsub : List.Sublist (pre ++ post) (pre ++ i :: post) := List.Sublist.append (List.Sublist.refl _) (List.sublist_cons_self _ _)
          have hpost : ∀ j ∈ post, i < j := by
            intro j hj
            have := (List.pairwise_append.1 hp).2.1
            exact List.rel_of_pairwise_cons this hj
          refine any_of_chain ⟨T, hT1, hT2⟩ hQ fuel (pre ++ post) (listed.setIfInBounds i true) (put fr o.dst out) σ₁ z' w' (a.put o.dst v) ?_ ?_ (hp.sublist hsub) ?_ ?_ ?_ k (hE.trans g1) g2 (put_R (RL.mono g1 _ _ hR) o.dst g3) ((put_defers _ _ _).trans hd)
          · simp at hl ⊢
            omega
          · simpa using hs
          · intro j hj
            rw [hgd]
            by_cases hji : j = i
            · subst hji
              rw [if_pos rfl]
              constructor
              · intro h; cases h
              · intro h
                rcases List.mem_append.1 h with h | h
                · have := hpre j h; omega
                · have := hpost j h; omega
            · rw [if_neg hji, hm j hj]
              simp [hji]
          · intro j hj
            exact hlt j (hsub.subset hj)
          · intro kk oo hkk hkl e he hbe
            rw [hgd] at hkl ⊢
            by_cases h9 : e.on = i
            · rw [if_pos h9]
            · rw [if_neg h9]
              by_cases h10 : kk = i
              · subst h10
                rw [ho] at hkk
                cases hkk
                exact hdeps e he hbe
              · rw [if_neg h10] at hkl
                exact hc kk oo hkk hkl e he hbe
        unfold wpOp
        simp only [ho]
        rw [gd_wanted hR o]
        rcases hval with ⟨g1, g2, g3⟩ | ⟨g1, hv⟩
        · rw [g1]
          simp only [Bool.false_eq_true, if_false]
          subst g2
          subst g3
          exact next z undef w (Ext.refl _ _ _) hI R_undef
        · rw [if_pos g1]
          left
          have hop : AOp P o (ev fr) σ out σ₁ := by
            rcases hv with ⟨_, h2, rfl⟩ | ⟨_, h2, rfl⟩ | ⟨_, h2⟩
            · exact h2 _
            · exact h2
            · exact h2
          exact oper_sound hop hI (fun x _ b hb => ev_R hR x b hb) next

theorem AW.draw {n id : Nat} {fr : List AV} {σ : AH} {Q : APost} (hok : okDraw P L ops = true) (h : AOps P L n true ops.toList Q ops.toList fr σ) : AW P n (.region id ops true) fr σ Q := by
  intro z₀ σ₀ w₀ z w a _ hE hI hR
  simp only [okDraw, Bool.and_eq_true] at hok
  obtain ⟨⟨h1, h2⟩, h3⟩ := hok
  obtain ⟨fr', σ', hch, hq⟩ := chain_of_ops ops.toList 0 fr σ rfl h
  rw [Nat.sub_zero] at hch
  have E := extD z σ w (w.drawn + 1)
  refine wp_region_any h1 (any_of_chain ⟨_, h2, h3⟩ (fun z' w' a' g1 g2 g3 g4 => ⟨z', fr', σ', .normal, g1, g2, g3, g4, rfl, hq⟩) ops.size (List.range' 0 ops.size) (Array.replicate ops.size false) fr σ z _ a (by simp) (by simp) ?_ ?_ ?_ ?_ hch
    (hE.trans E) (invD hI _) (RL.mono E _ _ hR) rfl)
  · exact List.pairwise_lt_range'
  · intro i hi
    simp [hi]
  · intro i hi
    simpa using hi
  · intro k o hk hl
    exfalso
    simp only [Array.getD_eq_getD_getElem?, Array.getElem?_replicate] at hl
    split at hl <;> cases hl

end
end Go.Abs
end
section
/- Regions in the text's order, with new variables that are set at once and never written again. -/
namespace Go.Abs

def isStore : Op → Option (TypeId × Operand × Operand)
  | .store t a x => some (t, a, x)
  | _ => none
def isTmp (d : Nat) : Operand → Bool
  | .tmp e => e == d
  | _ => false
def fuse1 (s : Option (TypeId × Operand × Operand)) (dr : Bool) (L : List Nat) (dst : Option Tmp) (t : TypeId) (dst2 : Option Tmp) (g : Option (Nat × Bool)) (os : List Oper) : Option (Nat × Operand × List Oper) :=
  match s, dr, dst, dst2, g with
  | some (t', .tmp d', x), false, some d, none, none => if (L.contains d || !(d' == d) || !(t' == t) || isTmp d x) = true then none else some (d, x, os)
  | _, _, _, _, _ => none
/-- A new variable that is set at once: where, to what. -/
def fuseL (dr : Bool) (L : List Nat) (dst : Option Tmp) (t : TypeId) : List Oper → Option (Nat × Operand × List Oper)
  | [] => none
  | o :: os => fuse1 (isStore o.op) dr L dst t o.dst o.guard os
def fuseO (dr : Bool) (L : List Nat) (o : Oper) (os : List Oper) : Option (Nat × Operand × List Oper × TypeId) :=
  match o.op with
  | .alloc t => match o.guard with
    | none => (fuseL dr L o.dst t os).map fun r => (r.1, r.2.1, r.2.2, t)
    | some _ => none
  | _ => none
def evFuse (P : Program) (t : TypeId) (v : AV) : Option AV :=
  match zeroA P t, szT P t with
  | some z, some n => if (cellsA v).length = n ∧ (cellsA z).length = n ∧ (cellsA z).all okA = true ∧ (cellsA v).all okA = true then some (.elem (cellsA v)) else none
  | _, _ => none

theorem fuseO_some {dr : Bool} {L : List Nat} {o : Oper} {os : List Oper} {d : Nat} {x : Operand} {os' : List Oper} {t : TypeId} (h : fuseO dr L o os = some (d, x, os', t)) :
    dr = false ∧ o.op = .alloc t ∧ o.dst = some d ∧ o.guard = none ∧ ∃ o2, os = o2 :: os' ∧ o2.op = .store t (.tmp d) x ∧ o2.dst = none ∧ o2.guard = none ∧ isTmp d x = false := by
  obtain ⟨dst, op, ty, pos, after, guard⟩ := o
  unfold fuseO at h
  cases op <;> try (cases h; done)
  rename_i t0
  cases guard <;> try (cases h; done)
  cases os with
  | nil => cases h
  | cons o2 os =>
    obtain ⟨dst2, op2, ty2, pos2, after2, guard2⟩ := o2
    replace h : (fuseL dr L dst t0 (⟨dst2, op2, ty2, pos2, after2, guard2⟩ :: os)).map (fun r => (r.1, r.2.1, r.2.2, t0)) = some (d, x, os', t) := h
    simp only [fuseL, Option.map_eq_some_iff] at h
    obtain ⟨⟨d1, x1, os1⟩, h, h'⟩ := h
    simp only [Prod.mk.injEq] at h'
    obtain ⟨rfl, rfl, rfl, rfl⟩ := h'
    cases op2 <;> try (cases h; done)
    rename_i t' y x'
    cases y <;> try (cases h; done)
    rename_i d'
    cases dr <;> try (cases h; done)
    cases dst <;> try (cases h; done)
    rename_i d0
    cases dst2 <;> try (cases h; done)
    cases guard2 <;> try (cases h; done)
    have h2 : (if (L.contains d0 || !(d' == d0) || !(t' == t0) || isTmp d0 x') = true then none else some (d0, x', os)) = some (d1, x1, os1) := h
    split at h2
    · cases h2
    · rename_i hc
      cases h2
      simp only [Bool.or_eq_true, Bool.not_eq_true', not_or, Bool.not_eq_true, Bool.not_eq_false, beq_iff_eq] at hc
      obtain ⟨⟨⟨_, rfl⟩, rfl⟩, hx⟩ := hc
      exact ⟨rfl, rfl, rfl, rfl, _, rfl, rfl, rfl, rfl, hx⟩

def stepA (P : Program) (L : List Nat) (n : Nat) (dr : Bool) (ops : List Oper) (o : Oper) (fr : List AV) (σ : AH) (K : List AV → AH → Prop) (X : List AV → AV → AH → Prop) : Prop :=
  if gd ops fr o = true then (match evP P o.op (ev fr) with
    | some out => K (put fr o.dst out) σ
    | none => AEff P L dr o fr σ (fun out σ' => K (put fr o.dst out) σ') (X fr) (fun g args => ACall P n dr g args fr σ (fun fr' out σ' => K (put fr' o.dst out) σ') X))
  else K (put fr o.dst undefA) σ

def AOpsF (P : Program) (L : List Nat) (n : Nat) (ops : List Oper) (Q : APost) : List Oper → List AV → AH → Prop
  | [], fr, σ => Q .normal fr σ
  | o :: os, fr, σ => match fuseO false L o os with
    | some (d, x, _, t) => match (fr[d]?).bind fun _ => (ev fr x).bind (evFuse P t) with
      | some y => match os with
        | [] => False
        | _ :: os' => AOpsF P L n ops Q os' (put fr (some d) y) σ
      | none => False
    | none => stepA P L n false ops o fr σ (fun fr σ => AOpsF P L n ops Q os fr σ) (fun fr' x σ' => Q (.panic x) fr' σ')

section
variable {P : Program} {L : List Nat}

theorem setAll_all : ∀ (cs vs : List AV), cs.length = vs.length → setAll cs 0 vs = vs := by
  have key : ∀ (vs cs : List AV) (k : Nat), k + vs.length = cs.length → setAll cs k vs = cs.take k ++ vs := by
    intro vs
    induction vs with
    | nil => intro cs k h; simp only [setAll, List.append_nil]; rw [List.take_of_length_le (by simp at h; omega)]
    | cons v vs ih =>
      intro cs k h
      simp only [List.length_cons] at h
      simp only [setAll]
      rw [ih (cs.set k v) (k + 1) (by simp; omega)]
      rw [List.take_set, List.take_succ_eq_append_getElem (by omega), List.set_append_right _ _ (by simp; omega)]
      simp
      rw [Nat.min_eq_left (by omega), Nat.sub_self]
      rfl
  intro cs vs h
  have := key vs cs 0 (by omega)
  simpa using this

theorem cells_reA {e : AV} {cs : List AV} (h : (cellsA e).length = cs.length) (hok : cs.all okA = true) : cellsA (reA e cs) = cs := by
  cases e
  case agg es => rfl
  all_goals
    simp only [cellsA, List.length_singleton] at h
    match cs, h with
    | [c], _ =>
      simp only [reA, List.headD_cons]
      cases c <;> first
        | rfl
        | (simp [okA] at hok; done)

theorem BelL.fzSet {n : Nat} {σ : AH} {x y : AV} (h : Fz n σ x y) : ∀ (fr : List AV) (d : Nat), BelL n fr → FzL n σ (fr.set d x) (fr.set d y)
  | [], _, _ => .nil
  | _ :: _, 0, hb => .cons _ _ _ _ h (BelL.fz _ hb.2)
  | a :: fr, d + 1, hb => .cons _ _ _ _ (Bel.fz a hb.1) (BelL.fzSet h fr d hb.2)

theorem stepA_sound {n : Nat} {ops : Array Oper} {Q : APost} {z₀ : Cz} {σ₀ : AH} {w₀ : World} {ds : List Deferred} {o : Oper} {i : Nat} {is : List Nat} {fr : List AV} {σ : AH} {z : Cz} {w : World} {a : Act} {K : List AV → AH → Prop} (hn : σ₀.length = n)
    (ho : ops[i]? = some o) (h : stepA P L n false ops.toList o fr σ K (fun fr' x σ' => Q (.panic x) fr' σ')) (hE : Ext z₀ σ₀ w₀ z σ w) (hI : Inv z σ w) (hR : RL z σ w fr a.tmps.toList) (hds : a.defers = ds)
    (next : ∀ fr' z' σ' w' v x, Ext z₀ σ₀ w₀ z' σ' w' → Inv z' σ' w' → RL z' σ' w' fr' a.tmps.toList → R z' σ' w' x v → K (put fr' o.dst x) σ' → wpOps P ops (Post z₀ σ₀ w₀ ds Q) is (a.put o.dst v) w') :
    wpOps P ops (Post z₀ σ₀ w₀ ds Q) (i :: is) a w := by
  simp only [wpOps, ho]
  rw [gd_wanted hR o]
  have next₁ : ∀ z' σ' w' v x, Ext z σ w z' σ' w' → Inv z' σ' w' → R z' σ' w' x v → K (put fr o.dst x) σ' → wpOps P ops (Post z₀ σ₀ w₀ ds Q) is (a.put o.dst v) w' :=
    fun z' σ' w' v x h1 h2 h3 h4 => next fr z' σ' w' v x (hE.trans h1) h2 (RL.mono h1 _ _ hR) h3 h4
  unfold stepA at h
  split at h
  · rename_i hg
    rw [if_pos hg]
    left
    split at h
    · rename_i out hout
      exact oper_sound (AOp.of_P hout σ) hI (ev_ops hR o) fun z' v w' h1 h2 h3 => next₁ z' σ w' v out h1 h2 h3 h
    · rcases aeff_cases h with ⟨out, σ', h1, h2⟩ | ⟨c, g, args, hc, ⟨args', fr', σ₁, out, σ', hl, ht, h1, h2⟩, h3⟩ | ⟨x, t, v, hx, _, hv, h1⟩
      · exact oper_sound h1 hI (ev_ops hR o) fun z' v w' g1 g2 g3 => next₁ z' σ' w' v out g1 g2 g3 h2
      · obtain ⟨vs, hrun, hvs⟩ := acall_enter hR hc h3
        obtain ⟨z₁, e1, e2, e3⟩ := ht z₀ σ₀ w₀ z w _ hn hE hI (hvs.append hR)
        have hla : args'.length = vs.toList.length := hl.trans hvs.length
        have hvs' : RL z₁ σ₁ w args' vs.toList := by
          have := e3.take args'.length
          rw [List.take_left, hla, List.take_left] at this
          exact this
        have hR' : RL z₁ σ₁ w fr' a.tmps.toList := by
          have := e3.drop args'.length
          rw [List.drop_left, hla, List.drop_left] at this
          exact this
        refine enter_sound h1 e2 hvs' hrun fun z' w' g1 g2 => ?_
        cases out with
        | ret x => exact fun v hv => next fr' z' σ' w' v x (e1.trans g1) g2 (RL.mono g1 _ _ hR') hv h2
        | panic x => exact fun v hv => ⟨z', fr', σ', .panic x, e1.trans g1, g2, RL.mono g1 _ _ hR', hds, ⟨v, rfl, hv⟩, h2⟩
      · have hrel := ev_R hR x _ hv
        have hrel' := hrel
        obtain ⟨u, e, _⟩ := hrel'
        unfold Oper.wp
        have hrun : (execOp a.eval o).run P w = .halt (.panic (a.eval x)) w := by
          obtain ⟨dst, op, type, pos, after, guard⟩ := o
          simp only at hx
          subst hx
          simp only [execOp, e]
          rfl
        rw [hrun]
        exact ⟨z, fr, σ, .panic (.iface t v), hE, hI, hR, hds, ⟨_, rfl, hrel⟩, h1⟩
  · rename_i hg
    rw [if_neg hg]
    exact next₁ z σ w undef undefA (Ext.refl _ _ _) hI R_undef h

theorem ev_set {fr : List AV} {d : Nat} {y : AV} {x : Operand} {v : AV} (hx : isTmp d x = false) (h : ev fr x = some v) : ev (fr.set d y) x = some v := by
  cases x with
  | tmp t =>
    have : t ≠ d := by simpa [isTmp] using hx
    simp only [ev] at h ⊢
    first
      | (rw [List.getElem?_set_ne (Ne.symm this)]; exact h)
      | (rw [← h]; simp [List.getD_eq_getElem?_getD, List.getElem?_set_ne (Ne.symm this)])
  | _ => exact h

theorem AOpsF_sound {n : Nat} {ops : Array Oper} {Q : APost} {z₀ : Cz} {σ₀ : AH} {w₀ : World} {ds : List Deferred} (hn : σ₀.length = n) : ∀ (m : Nat) (os : List Oper) (_ : os.length < m) (i : Nat) (fr : List AV) (σ : AH) (z : Cz) (w : World) (a : Act),
    ops.toList.drop i = os → AOpsF P L n ops.toList Q os fr σ → Ext z₀ σ₀ w₀ z σ w → Inv z σ w → RL z σ w fr a.tmps.toList → a.defers = ds →
    wpOps P ops (Post z₀ σ₀ w₀ ds Q) (List.range' i (ops.size - i)) a w
  | 0, _, h, _, _, _, _, _, _, _, _, _, _, _, _ => by omega
  | m + 1, [], hm, i, fr, σ, z, w, a, hd, h, hE, hI, hR, hds => by
    have : ops.size ≤ i := by
      have := congrArg List.length hd
      simp at this
      omega
    rw [show ops.size - i = 0 by omega]
    exact ⟨z, fr, σ, .normal, hE, hI, hR, hds, rfl, h⟩
  | m + 1, o :: os, hlen, i, fr, σ, z, w, a, hd, h, hE, hI, hR, hds => by
    have hi : i < ops.size := by
      have := congrArg List.length hd
      simp at this
      omega
    have ho : ops[i]? = some o := by
      have := congrArg (·[0]?) hd
      simpa [List.getElem?_drop] using this
    have hd' : ops.toList.drop (i + 1) = os := by
      rw [← List.drop_drop, hd]
      rfl
    rw [show ops.size - i = (ops.size - (i + 1)) + 1 by omega, List.range'_succ]
    simp only [AOpsF] at h
    split at h
    · rename_i d x os' t hf
      obtain ⟨_, hop, hdst, hgd, o2, rfl, hop2, hdst2, hgd2, hx⟩ := fuseO_some hf
      have hi2 : i + 1 < ops.size := by
        have := congrArg List.length hd'
        simp at this
        omega
      have ho2 : ops[i + 1]? = some o2 := by
        have := congrArg (·[0]?) hd'
        simpa [List.getElem?_drop] using this
      have hd2 : ops.toList.drop (i + 1 + 1) = os' := by
        rw [← List.drop_drop, hd']
        rfl
      split at h
      · rename_i y hy
        cases hlt' : fr[d]? with
        | none => rw [hlt'] at hy; cases hy
        | some u =>
        rw [hlt', Option.bind_some] at hy
        have hlt := (List.getElem?_eq_some_iff.1 hlt').1
        cases hv : ev fr x with
        | none => rw [hv] at hy; cases hy
        | some v =>
        rw [hv] at hy
        simp only [Option.bind_some, evFuse] at hy
        split at hy
        · rename_i zr nz hz hnz
          split at hy
          · rename_i hc
            obtain ⟨hc1, hc2, hc3, hc4⟩ := hc
            cases hy
            simp only [wpOps, ho]
            rw [gd_wanted hR o]
            have hg1 : gd ops.toList fr o = true := by unfold gd; rw [hgd]
            rw [if_pos hg1]
            left
            have e1 : evEff P σ true o.op (ev fr) = some (.ptr σ.length 1 0 0, σ ++ [avar t (cellsA zr).length zr]) := by
              rw [hop]
              simp only [evEff, hz, evBox, hc3, if_true]
            refine oper_sound (AOp.of_eff e1) hI (ev_ops hR o) fun z1 v1 w1 g1 g2 g3 => ?_
            rw [show ops.size - (i + 1) = (ops.size - (i + 1 + 1)) + 1 by omega, List.range'_succ]
            simp only [wpOps, ho2]
            have hR1 := put_R (RL.mono g1 _ _ hR) o.dst g3
            rw [gd_wanted hR1 o2]
            have hg2 : gd ops.toList (put fr o.dst (.ptr σ.length 1 0 0)) o2 = true := by unfold gd; rw [hgd2]
            rw [if_pos hg2]
            left
            · have e2 : evEff P (σ ++ [avar t (cellsA zr).length zr]) true o2.op (ev (put fr o.dst (.ptr σ.length 1 0 0))) = some (undefA, σ ++ [avar t (cellsA zr).length (reA zr (setAll (cellsA zr) 0 (cellsA v)))]) := by
                rw [hop2, hdst]
                have h1 : ev (put fr (some d) (.ptr σ.length 1 0 0)) (.tmp d) = some (.ptr σ.length 1 0 0) := by
                  simp [ev, put, List.getD_eq_getElem?_getD, hlt]
                have h2 : ev (put fr (some d) (.ptr σ.length 1 0 0)) x = some v := ev_set hx hv
                simp only [evEff, h1, h2, evStore]
                rw [List.getElem?_append_right (Nat.le_refl _), Nat.sub_self]
                simp only [List.getElem?_cons_zero, if_true, hnz]
                rw [if_pos ⟨hc1, by omega, hc4, rfl⟩]
                simp
              refine oper_sound (AOp.of_eff e2) g2 (ev_ops hR1 o2) fun z2 v2 w2 k1 k2 _ => ?_
              have E2 := (hE.trans g1).trans k1
              have hb : OwnBel σ.length σ := hI.ownBel
              obtain ⟨l1, l2⟩ := let_go (σ₁ := σ) (g := [avar t (cellsA zr).length (reA zr (setAll (cellsA zr) 0 (cellsA v)))]) (hE.len) hb E2 k2
              rw [hdst2, hdst] at *
              have hRv := ev_R hR x v hv
              have hcv : cellsA (reA zr (setAll (cellsA zr) 0 (cellsA v))) = cellsA v := by
                rw [setAll_all _ _ (by omega)]
                exact cells_reA (by omega) hc4
              have hbv : BelL σ.length (cellsA v) := RL.bel _ _ (R_cells hRv)
              have hfz : Fz σ.length (σ ++ [avar t (cellsA zr).length (reA zr (setAll (cellsA zr) 0 (cellsA v)))]) (.ptr σ.length 1 0 0) (.elem (cellsA v)) := by
                refine .box _ _ _ _ (avar t (cellsA zr).length (reA zr (setAll (cellsA zr) 0 (cellsA v)))) (reA zr (setAll (cellsA zr) 0 (cellsA v))) _ (Nat.le_refl _) (by simp) rfl rfl ?_
                rw [List.drop_zero, hcv]
                exact BelL.fz _ hbv
              have hR2 := RL.mono k1 _ _ hR1
              have hR3 := FzL.sound k2 (fun id hid => (List.getElem?_append_left hid).symm) (BelL.fzSet hfz fr d (RL.bel _ _ hR)) _ hR2
              exact AOpsF_sound hn m os' (by simp at hlen; omega) (i + 1 + 1) _ σ _ w2 _ hd2 h l1 l2 hR3 ((put_defers _ _ _).trans ((put_defers a _ _).trans hds))
          · cases hy
        · cases hy
      · exact h.elim
    · refine stepA_sound hn ho h hE hI hR hds fun fr' z' σ' w' v x h1 h2 hR' h3 h4 => ?_
      exact AOpsF_sound hn m os (by simp at hlen; omega) (i + 1) _ σ' z' w' _ hd' h4 h1 h2 (put_R hR' o.dst h3) ((put_defers a _ _).trans hds)

variable {n : Nat}
theorem AW.regionF {id : Nat} {ops : Array Oper} {fr : List AV} {σ : AH} {Q : APost} (h : AOpsF P L n ops.toList Q ops.toList fr σ) : AW P n (.region id ops false) fr σ Q := by
  intro z₀ σ₀ w₀ z w a hl hE hI hR
  refine wp_region ?_
  have := AOpsF_sound (z₀ := z₀) (σ₀ := σ₀) (w₀ := w₀) (ds := a.defers) hl _ ops.toList (Nat.lt_succ_self _) 0 fr σ z w a rfl h hE hI hR rfl
  rw [List.range_eq_range']
  simpa using this
end
end Go.Abs
end
section
/- Code as one proposition, for simp. -/
namespace Go.Abs

def wpA (P : Program) (L : List Nat) (n : Nat) : Code → List AV → AH → APost → Prop
  | .skip, fr, σ, Q => Q .normal fr σ
  | .label _, fr, σ, Q => Q .normal fr σ
  | .region _ ops dr, fr, σ, Q => match dr with
    | true => okDraw P L ops = true ∧ AOps P L n true ops.toList Q ops.toList fr σ
    | false => AOpsF P L n ops.toList Q ops.toList fr σ
  | .seq a b, fr, σ, Q => wpA P L n a fr σ (AExit.then (fun fr σ => wpA P L n b fr σ Q) Q)
  | .cond c a b, fr, σ, Q => match ev fr c with
    | some (.bool t) => if t = true then wpA P L n a fr σ Q else wpA P L n b fr σ Q
    | _ => False
  | .block id c, fr, σ, Q => wpA P L n c fr σ (AExit.inBlock id Q)
  | .exit id, fr, σ, Q => Q (.exit id) fr σ
  | .goto l, fr, σ, Q => Q (.goto l) fr σ
  | .ret, fr, σ, Q => Q .ret fr σ
  | c, fr, σ, Q => AW P n c fr σ Q

theorem wpA_sound {P : Program} {L : List Nat} {n : Nat} : ∀ {c : Code} {fr : List AV} {σ : AH} {Q : APost}, wpA P L n c fr σ Q → AW P n c fr σ Q
  | .skip, _, _, _, h => AW.skip h
  | .label _, _, _, _, h => AW.label h
  | .region _ ops true, _, _, _, h => AW.draw h.1 h.2
  | .region _ ops false, _, _, _, h => AW.regionF h
  | .seq a b, fr, σ, Q, h => by
    have h' : wpA P L n a fr σ (AExit.then (fun fr σ => wpA P L n b fr σ Q) Q) := h
    refine AW.seq ((wpA_sound h').mono fun e fr σ hq => ?_)
    cases e with
    | normal => exact wpA_sound hq
    | exit id => exact hq
    | goto l => exact hq
    | ret => exact hq
    | panic v => exact hq
  | .cond c a b, fr, σ, Q, h => by
    simp only [wpA] at h
    split at h
    · rename_i t ht
      refine AW.cond ht ?_
      split at h
      · rename_i hb; rw [if_pos hb]; exact wpA_sound h
      · rename_i hb; rw [if_neg hb]; exact wpA_sound h
    · exact h.elim
  | .block id c, fr, σ, Q, h => AW.block (wpA_sound h)
  | .exit id, _, _, _, h => AW.exit h
  | .goto l, _, _, _, h => AW.goto h
  | .ret, _, _, _, h => AW.ret h
  | .loop c, _, _, _, h => h
  | .rangeFunc _ _ _ _, _, _, _, h => h
  | .scope _, _, _, _, h => h
  | .refuse _, _, _, _, h => h

section
variable (P : Program) (L : List Nat) (n : Nat)
@[congr] theorem wpA_congr {c : Code} {fr fr' : List AV} {σ σ' : AH} {Q : APost} (h1 : fr = fr') (h2 : σ = σ') : wpA P L n c fr σ Q = wpA P L n c fr' σ' Q := by rw [h1, h2]
@[congr] theorem AW_congr {c : Code} {fr fr' : List AV} {σ σ' : AH} {Q : APost} (h1 : fr = fr') (h2 : σ = σ') : AW P n c fr σ Q = AW P n c fr' σ' Q := by rw [h1, h2]
@[congr] theorem AOps_congr {dr : Bool} {ops : List Oper} {Q : APost} {os : List Oper} {fr fr' : List AV} {σ σ' : AH} (h1 : fr = fr') (h2 : σ = σ') : AOps P L n dr ops Q os fr σ = AOps P L n dr ops Q os fr' σ' := by rw [h1, h2]
@[congr] theorem AOpsF_congr {ops : List Oper} {Q : APost} {os : List Oper} {fr fr' : List AV} {σ σ' : AH} (h1 : fr = fr') (h2 : σ = σ') : AOpsF P L n ops Q os fr σ = AOpsF P L n ops Q os fr' σ' := by rw [h1, h2]
@[congr] theorem then_congr {k : List AV → AH → Prop} {Q : APost} {e : AExit} {fr fr' : List AV} {σ σ' : AH} (h1 : fr = fr') (h2 : σ = σ') : AExit.then k Q e fr σ = AExit.then k Q e fr' σ' := by rw [h1, h2]
@[congr] theorem inBlock_congr {id : Nat} {Q : APost} {e : AExit} {fr fr' : List AV} {σ σ' : AH} (h1 : fr = fr') (h2 : σ = σ') : AExit.inBlock id Q e fr σ = AExit.inBlock id Q e fr' σ' := by rw [h1, h2]

/-- An operation, at its place. -/
def AOp1 (P : Program) (L : List Nat) (dr : Bool) (o : Oper) (fr : List AV) (σ : AH) (K : AV → AH → Prop) (X : AV → AH → Prop) (AC : FuncId → List AV → Prop) : Prop :=
  match evP P o.op (ev fr) with
  | some out => K out σ
  | none => AEff P L dr o fr σ K X AC

/-- A value that is to be there. -/
def got {α : Type} (x : Option α) (K : α → Prop) : Prop :=
  match x with
  | some a => K a
  | none => False
@[congr] theorem got_congr {α : Type} {x y : Option α} {K : α → Prop} (h : x = y) : got x K = got y K := by rw [h]
theorem got_some {α : Type} (a : α) (K : α → Prop) : got (some a) K = K a := rfl

theorem code_eqs :
    (∀ fr σ Q, wpA P L n .skip fr σ Q = Q .normal fr σ) ∧
    (∀ l fr σ Q, wpA P L n (.label l) fr σ Q = Q .normal fr σ) ∧
    (∀ id l fr σ Q, wpA P L n (.region id (List.toArray l) false) fr σ Q = AOpsF P L n l Q l fr σ) ∧
    (∀ id l fr σ Q, wpA P L n (.region id (List.toArray l) true) fr σ Q = (okDraw P L (List.toArray l) = true ∧ AOps P L n true l Q l fr σ)) ∧
    (∀ a b fr σ Q, wpA P L n (.seq a b) fr σ Q = wpA P L n a fr σ (AExit.then (fun fr σ => wpA P L n b fr σ Q) Q)) ∧
    (∀ c a b fr σ Q, wpA P L n (.cond c a b) fr σ Q = got (ev fr c) fun x => match x with
      | .bool t => if t = true then wpA P L n a fr σ Q else wpA P L n b fr σ Q
      | _ => False) ∧
    (∀ id c fr σ Q, wpA P L n (.block id c) fr σ Q = wpA P L n c fr σ (AExit.inBlock id Q)) ∧
    (∀ id fr σ Q, wpA P L n (.exit id) fr σ Q = Q (.exit id) fr σ) ∧
    (∀ l fr σ Q, wpA P L n (.goto l) fr σ Q = Q (.goto l) fr σ) ∧
    (∀ fr σ Q, wpA P L n .ret fr σ Q = Q .ret fr σ) ∧
    (∀ c fr σ Q, wpA P L n (.loop c) fr σ Q = AW P n (.loop c) fr σ Q) := by
  refine ⟨?_, ?_, ?_, ?_, ?_, ?_, ?_, ?_, ?_, ?_, ?_⟩ <;> intros <;> first
    | rfl
    | (simp only [wpA]; done)
    | skip
  simp only [wpA, got]
  rename_i c a b fr σ Q
  cases ev fr c with
  | none => rfl
  | some x => cases x <;> rfl

theorem exit_eqs :
    (∀ k Q fr σ, AExit.then k Q .normal fr σ = k fr σ) ∧
    (∀ k Q id fr σ, AExit.then k Q (.exit id) fr σ = Q (.exit id) fr σ) ∧
    (∀ k Q id fr σ, AExit.then k Q (.goto id) fr σ = Q (.goto id) fr σ) ∧
    (∀ k Q fr σ, AExit.then k Q .ret fr σ = Q .ret fr σ) ∧
    (∀ k Q v fr σ, AExit.then k Q (.panic v) fr σ = Q (.panic v) fr σ) ∧
    (∀ id Q fr σ, AExit.inBlock id Q .normal fr σ = Q .normal fr σ) ∧
    (∀ id id' Q fr σ, AExit.inBlock id Q (.exit id') fr σ = if id' = id then Q .normal fr σ else Q (.exit id') fr σ) ∧
    (∀ id l Q fr σ, AExit.inBlock id Q (.goto l) fr σ = Q (.goto l) fr σ) ∧
    (∀ id Q fr σ, AExit.inBlock id Q .ret fr σ = Q .ret fr σ) ∧
    (∀ id v Q fr σ, AExit.inBlock id Q (.panic v) fr σ = Q (.panic v) fr σ) := by
  refine ⟨?_, ?_, ?_, ?_, ?_, ?_, ?_, ?_, ?_, ?_⟩ <;> intros <;> rfl

/-- The boolean that a guard looks at. -/
def gdV (want : Bool) : Option AV → Bool
  | some (.bool b) => b == want
  | _ => false
theorem gd_some (ops : List Oper) (fr : List AV) (dst op type pos after) (j : Nat) (want : Bool) :
    gd ops fr ⟨dst, op, type, pos, after, some (j, want)⟩ = gdV want (((ops[j]?).bind (·.dst)).bind (fr[·]?)) := by
  unfold gd gdV
  simp only
  cases (ops[j]?).bind (·.dst) with
  | none => rfl
  | some d =>
    simp only [Option.bind_some]
    all_goals
      rcases fr[d]? with _ | x
      · rfl
      · cases x <;> rfl
theorem gdV_true (b : Bool) : gdV true (some (.bool b)) = b := by cases b <;> rfl
theorem gdV_false (b : Bool) : gdV false (some (.bool b)) = !b := by cases b <;> rfl
theorem gdV_undef (w : Bool) (vs : List AV) : gdV w (some (.tuple vs)) = false := rfl

end
end Go.Abs
end
section
/- What each operation does, as equations for simp. -/
namespace Go.Abs

def evIface (P : Program) (t : TypeId) (a : AV) : Option AV :=
  match P.underlying t with
  | some (.interface _) => none
  | some _ => some (.iface t a)
  | none => none
def evExtract (i : Nat) : AV → Option AV
  | .tuple vs => vs[i]?
  | _ => none
def evNilCheck : AV → Option AV
  | .ptr a b c d => some (.ptr a b c d)
  | .elem cs => some (.elem cs)
  | .func (.func f) a b => some (.func (.func f) a b)
  | _ => none

/-- What an operation on two values gives. -/
def evBinD (P : Program) (σ : AH) (dr : Bool) (op : BinOp) (t : TypeId) (c : Bool) (a b : AV) : Option AV :=
  match evBin P op t c a b with
  | some v => some v
  | none => match dr with
    | true => none
    | false => evSame P σ op t a b
/-- What a conversion gives. -/
def evConvD (P : Program) (σ : AH) (s d : TypeId) (a : AV) : Option AV :=
  match evConv P s d a with
  | some v => some v
  | none => evCv1 P σ s d a

section
variable (P : Program) (L : List Nat)

theorem op_move : ∀ dr dst x ty pos after guard fr σ K X AC, AOp1 P L dr ⟨dst, .move x, ty, pos, after, guard⟩ fr σ K X AC =
    got (ev fr x) fun v => K v σ := by
  intros
  rename_i fr _ _ _ _
  simp only [AOp1, evP, AEff, evEff, evAux, effK, got]
  cases ev fr _ <;> rfl

theorem op_assign : ∀ dr dst x ty pos after guard fr σ K X AC, AOp1 P L dr ⟨dst, .assign x, ty, pos, after, guard⟩ fr σ K X AC =
    got (ev fr x) fun v => K v σ := by
  intros
  rename_i fr _ _ _ _
  simp only [AOp1, evP, AEff, evEff, evAux, effK, got]
  cases ev fr _ <;> rfl

theorem op_pick : ∀ dr dst c a b ty pos after guard fr σ K X AC, AOp1 P L dr ⟨dst, .pick c a b, ty, pos, after, guard⟩ fr σ K X AC =
    got (ev fr c) fun v => match v with
      | .bool true => got (ev fr a) fun v => K v σ
      | .bool false => got (ev fr b) fun v => K v σ
      | _ => False := by
  intro dr dst c a b ty pos after guard fr σ K X AC
  simp only [AOp1, evP, AEff, evEff, evAux, effK, got]
  cases hc : ev fr c with
  | none => rfl
  | some v =>
    cases v <;> try rfl
    rename_i t
    cases t
    · simp only []
      cases ev fr b <;> rfl
    · simp only []
      cases ev fr a <;> rfl

theorem op_binOp : ∀ dr dst op t x y yt ty pos after guard fr σ K X AC, AOp1 P L dr ⟨dst, .binOp op t x y yt, ty, pos, after, guard⟩ fr σ K X AC =
    got (ev fr x) fun a => got (ev fr y) fun b => got (evBinD P σ dr op t (isCst x || isCst y) a b) fun v => K v σ := by
  intro dr dst op t x y yt ty pos after guard fr σ K X AC
  simp only [AOp1, evP, AEff, evEff, evAux, effK, got, evBinD]
  cases ev fr x with
  | none => rfl
  | some p =>
    cases ev fr y with
    | none => rfl
    | some q =>
      simp only []
      cases evBin P op t (isCst x || isCst y) p q with
      | some r => rfl
      | none =>
        simp only []
        cases evSame P σ op t p q with
        | none => cases dr <;> rfl
        | some r => cases dr <;> rfl

theorem op_unOp : ∀ dr dst op t x ty pos after guard fr σ K X AC, AOp1 P L dr ⟨dst, .unOp op t x, ty, pos, after, guard⟩ fr σ K X AC =
    got (ev fr x) fun a => got (evUn op a) fun v => K v σ := by
  intro dr dst op t x ty pos after guard fr σ K X AC
  simp only [AOp1, evP, AEff, evEff, evAux, effK, got]
  cases ev fr x with
  | none => rfl
  | some p =>
    simp only []
    cases evUn op p <;> rfl

theorem op_convert : ∀ dr dst s d x ty pos after guard fr σ K X AC, AOp1 P L dr ⟨dst, .convert s d x, ty, pos, after, guard⟩ fr σ K X AC =
    got (ev fr x) fun a => got (evConvD P σ s d a) fun v => K v σ := by
  intro dr dst s d x ty pos after guard fr σ K X AC
  simp only [AOp1, evP, AEff, evEff, evAux, effK, got, evConvD, evCv]
  cases ev fr x with
  | none => rfl
  | some p =>
    simp only []
    cases evConv P s d p with
    | some r => rfl
    | none =>
      simp only []
      cases evCv1 P σ s d p <;> rfl

theorem op_range : ∀ dr dst t x ty pos after guard fr σ K X AC, AOp1 P L dr ⟨dst, .range t x, ty, pos, after, guard⟩ fr σ K X AC =
    got (ev fr x) fun a => got (evRange P σ t a) fun r => K r.1 r.2 := by
  intro dr dst t x ty pos after guard fr σ K X AC
  simp only [AOp1, evP, AEff, evEff, evAux, effK, got]
  cases ev fr x with
  | none => rfl
  | some p =>
    simp only []
    cases evRange P σ t p <;> rfl

theorem op_next : ∀ dr dst x ty pos after guard fr σ K X AC, AOp1 P L dr ⟨dst, .next x true, ty, pos, after, guard⟩ fr σ K X AC =
    got (ev fr x) fun a => got (evNext σ a) fun r => K r.1 r.2 := by
  intro dr dst x ty pos after guard fr σ K X AC
  simp only [AOp1, evP, AEff, evEff, evAux, effK, got]
  cases ev fr x with
  | none => rfl
  | some p =>
    simp only []
    cases evNext σ p <;> rfl

theorem op_slDat : ∀ dr dst x ts ty pos after guard fr σ K X AC, AOp1 P L dr ⟨dst, .call ⟨.builtin .unsafeSliceData, #[x], ts⟩, ty, pos, after, guard⟩ fr σ K X AC =
    got (ev fr x) fun a => got (evSlDat a) fun v => K v σ := by
  intro dr dst x ts ty pos after guard fr σ K X AC
  simp only [AOp1, evP, AEff, evEff, evAux, effK, got, evL]
  cases ev fr x with
  | none => rfl
  | some p =>
    simp only [evBuiltin]
    cases evSlDat p <;> rfl

theorem op_unsStr : ∀ dr dst x y tx ti ty pos after guard fr σ K X AC, AOp1 P L dr ⟨dst, .call ⟨.builtin .unsafeString, #[x, y], #[tx, ti]⟩, ty, pos, after, guard⟩ fr σ K X AC =
    got (ev fr x) fun a => got (ev fr y) fun b => got (evUnsStr P σ tx a b) fun r => K r.1 r.2 := by
  intro dr dst x y tx ti ty pos after guard fr σ K X AC
  simp only [AOp1, evP, AEff, evEff, evAux, effK, got, evL]
  cases ev fr x with
  | none => rfl
  | some a =>
    cases ev fr y with
    | none => rfl
    | some b =>
      simp only [evBuiltin]
      cases evUnsStr P σ tx a b <;> rfl

theorem op_makeInterface : ∀ dr dst t x ty pos after guard fr σ K X AC, AOp1 P L dr ⟨dst, .makeInterface t x, ty, pos, after, guard⟩ fr σ K X AC =
    got (ev fr x) fun a => got (evIface P t a) fun v => K v σ := by
  intro dr dst t x ty pos after guard fr σ K X AC
  simp only [AOp1, evP, AEff, evEff, evAux, effK, got]
  cases ev fr x with
  | none => rfl
  | some p =>
    simp only [evIface]
    cases P.underlying t with
    | none => rfl
    | some d => cases d <;> rfl

theorem op_makeFunc : ∀ dr dst fn fs cs ty pos after guard fr σ K X AC, AOp1 P L dr ⟨dst, .makeFunc fn (List.toArray fs) (List.toArray cs), ty, pos, after, guard⟩ fr σ K X AC =
    got (evL (ev fr) fs) fun a => got (evL (ev fr) cs) fun b => K (.func fn a b) σ := by
  intro dr dst fn fs cs ty pos after guard fr σ K X AC
  simp only [AOp1, evP, AEff, evEff, evAux, effK, got]
  cases evL (ev fr) fs with
  | none => rfl
  | some a =>
    cases evL (ev fr) cs with
    | none => rfl
    | some b => rfl

theorem op_extract : ∀ dr dst x i ty pos after guard fr σ K X AC, AOp1 P L dr ⟨dst, .extract x i, ty, pos, after, guard⟩ fr σ K X AC =
    got (ev fr x) fun a => got (evExtract i a) fun v => K v σ := by
  intro dr dst x i ty pos after guard fr σ K X AC
  simp only [AOp1, evP, AEff, evEff, evAux, effK, got]
  cases ev fr x with
  | none => rfl
  | some p =>
    simp only [evExtract]
    cases p <;> try rfl
    rename_i vs
    simp only []
    cases vs[i]? <;> rfl

theorem op_typeAssert : ∀ dr dst x t T ok ty pos after guard fr σ K X AC, AOp1 P L dr ⟨dst, .typeAssert x t T ok, ty, pos, after, guard⟩ fr σ K X AC =
    got (ev fr x) fun a => got (evAssert P T ok a) fun v => K v σ := by
  intro dr dst x t T ok ty pos after guard fr σ K X AC
  simp only [AOp1, evP, AEff, evEff, evAux, effK, got]
  cases ev fr x with
  | none => rfl
  | some p =>
    simp only []
    cases evAssert P T ok p <;> rfl

theorem op_nilCheck : ∀ dr dst x ty pos after guard fr σ K X AC, AOp1 P L dr ⟨dst, .nilCheck x, ty, pos, after, guard⟩ fr σ K X AC =
    got (ev fr x) fun a => got (evNilCheck a) fun v => K v σ := by
  intro dr dst x ty pos after guard fr σ K X AC
  simp only [AOp1, evP, AEff, evEff, evAux, effK, got]
  cases ev fr x with
  | none => rfl
  | some p =>
    simp only [evNilCheck]
    cases p <;> try rfl
    rename_i fn a b
    cases fn <;> rfl

theorem op_slice : ∀ dr dst t x lo hi mx ty pos after guard fr σ K X AC, AOp1 P L dr ⟨dst, .slice t x lo hi mx, ty, pos, after, guard⟩ fr σ K X AC =
    got (ev fr x) fun a => got (evSlice P (ev fr) t a lo hi mx) fun v => K v σ := by
  intro dr dst t x lo hi mx ty pos after guard fr σ K X AC
  simp only [AOp1, evP, AEff, evEff, evAux, effK, got]
  cases ev fr x with
  | none => rfl
  | some p =>
    simp only []
    cases evSlice P (ev fr) t p lo hi mx <;> rfl

theorem op_fieldAddr : ∀ dr dst t x f ty pos after guard fr σ K X AC, AOp1 P L dr ⟨dst, .fieldAddr t x f, ty, pos, after, guard⟩ fr σ K X AC =
    got (ev fr x) fun a => got (evFieldAddr P t f a) fun v => K v σ := by
  intro dr dst t x f ty pos after guard fr σ K X AC
  simp only [AOp1, evP, AEff, evEff, evAux, effK, got]
  cases ev fr x with
  | none => rfl
  | some p =>
    simp only []
    cases evFieldAddr P t f p <;> rfl

theorem op_field : ∀ dr dst t x f ty pos after guard fr σ K X AC, AOp1 P L dr ⟨dst, .field t x f, ty, pos, after, guard⟩ fr σ K X AC =
    got (ev fr x) fun a => got (evField P t f a) fun v => K v σ := by
  intro dr dst t x f ty pos after guard fr σ K X AC
  simp only [AOp1, evP, AEff, evEff, evAux, effK, got]
  cases ev fr x with
  | none => rfl
  | some p =>
    simp only []
    cases evField P t f p <;> rfl

theorem op_indexAddr : ∀ dr dst t x i ty pos after guard fr σ K X AC, AOp1 P L dr ⟨dst, .indexAddr t x i, ty, pos, after, guard⟩ fr σ K X AC =
    got (ev fr x) fun a => got (ev fr i) fun b => got (evIndexAddr P t a b) fun v => K v σ := by
  intro dr dst t x i ty pos after guard fr σ K X AC
  simp only [AOp1, evP, AEff, evEff, evAux, effK, got]
  cases ev fr x with
  | none => rfl
  | some p =>
    cases ev fr i with
    | none => rfl
    | some q =>
      simp only []
      cases evIndexAddr P t p q <;> rfl

theorem op_index : ∀ dr dst t x i ty pos after guard fr σ K X AC, AOp1 P L dr ⟨dst, .index t x i, ty, pos, after, guard⟩ fr σ K X AC =
    got (ev fr x) fun a => got (ev fr i) fun b => got (evIndex P t a b) fun v => K v σ := by
  intro dr dst t x i ty pos after guard fr σ K X AC
  simp only [AOp1, evP, AEff, evEff, evAux, effK, got]
  cases ev fr x with
  | none => rfl
  | some p =>
    cases ev fr i with
    | none => rfl
    | some q =>
      simp only []
      cases evIndex P t p q <;> rfl

theorem op_build : ∀ dr dst t ps ty pos after guard fr σ K X AC, AOp1 P L dr ⟨dst, .build t (List.toArray ps), ty, pos, after, guard⟩ fr σ K X AC =
    got (evBuild P (ev fr) t ps) fun v => K v σ := by
  intro dr dst t ps ty pos after guard fr σ K X AC
  simp only [AOp1, evP, AEff, evEff, evAux, effK, got]
  cases evBuild P (ev fr) t ps <;> rfl

theorem op_len : ∀ dr dst x t ty pos after guard fr σ K X AC, AOp1 P L dr ⟨dst, .call ⟨.builtin .len, #[x], #[t]⟩, ty, pos, after, guard⟩ fr σ K X AC =
    got (ev fr x) fun a => got (evLen P t a) fun v => K v σ := by
  intro dr dst x t ty pos after guard fr σ K X AC
  simp only [AOp1, evP, AEff, evEff, evAux, effK, got, evL]
  cases ev fr x with
  | none => rfl
  | some a =>
    simp only [evBuiltin]
    cases evLen P t a <;> rfl

theorem op_max : ∀ dr dst x xs ts ty pos after guard fr σ K X AC, AOp1 P L dr ⟨dst, .call ⟨.builtin .max, List.toArray (x :: xs), ts⟩, ty, pos, after, guard⟩ fr σ K X AC =
    got (ev fr x) fun a => got (evL (ev fr) xs) fun b => got (evFold evMax2 a b) fun v => K v σ := by
  intro dr dst x xs ts ty pos after guard fr σ K X AC
  simp only [AOp1, evP, AEff, evEff, evAux, effK, got, evL]
  cases ev fr x with
  | none => rfl
  | some a =>
    cases evL (ev fr) xs with
    | none => rfl
    | some b =>
      simp only [evBuiltin]
      cases evFold evMax2 a b <;> rfl

theorem op_min : ∀ dr dst x xs ts ty pos after guard fr σ K X AC, AOp1 P L dr ⟨dst, .call ⟨.builtin .min, List.toArray (x :: xs), ts⟩, ty, pos, after, guard⟩ fr σ K X AC =
    got (ev fr x) fun a => got (evL (ev fr) xs) fun b => got (evFold evMin2 a b) fun v => K v σ := by
  intro dr dst x xs ts ty pos after guard fr σ K X AC
  simp only [AOp1, evP, AEff, evEff, evAux, effK, got, evL]
  cases ev fr x with
  | none => rfl
  | some a =>
    cases evL (ev fr) xs with
    | none => rfl
    | some b =>
      simp only [evBuiltin]
      cases evFold evMin2 a b <;> rfl

theorem op_load : ∀ dr dst t a ty pos after guard fr σ K X AC, AOp1 P L dr ⟨dst, .load t a, ty, pos, after, guard⟩ fr σ K X AC =
    got (ev fr a) fun x => got (evLoad P σ t x) fun v => K v σ := by
  intro dr dst t a ty pos after guard fr σ K X AC
  simp only [AOp1, evP, AEff, evEff, evAux, effK, got]
  cases ev fr a with
  | none => rfl
  | some x =>
    simp only []
    cases evLoad P σ t x <;> rfl

theorem op_store : ∀ dr dst t a v ty pos after guard fr σ K X AC, AOp1 P L dr ⟨dst, .store t a v, ty, pos, after, guard⟩ fr σ K X AC =
    got (ev fr a) fun x => got (ev fr v) fun y => got (evStore P σ t x y) fun σ' => K undefA σ' := by
  intro dr dst t a v ty pos after guard fr σ K X AC
  simp only [AOp1, evP, AEff, evEff, evAux, effK, got]
  cases ev fr a with
  | none => rfl
  | some x =>
    cases ev fr v with
    | none => rfl
    | some y =>
      simp only []
      cases evStore P σ t x y <;> rfl

theorem op_box : ∀ dr dst t x ty pos after guard fr σ K X AC, AOp1 P L dr ⟨dst, .box t x, ty, pos, after, guard⟩ fr σ K X AC =
    got (ev fr x) fun y => got (evBox σ (held L dst) t y) fun r => K r.1 r.2 := by
  intro dr dst t x ty pos after guard fr σ K X AC
  simp only [AOp1, evP, AEff, evEff, evAux, effK, got]
  cases ev fr x with
  | none => rfl
  | some y =>
    simp only []
    cases evBox σ (held L dst) t y <;> rfl

theorem op_alloc : ∀ dr dst t ty pos after guard fr σ K X AC, AOp1 P L dr ⟨dst, .alloc t, ty, pos, after, guard⟩ fr σ K X AC =
    got (zeroA P t) fun y => got (evBox σ (held L dst) t y) fun r => K r.1 r.2 := by
  intro dr dst t ty pos after guard fr σ K X AC
  simp only [AOp1, evP, AEff, evEff, evAux, effK, got]
  cases zeroA P t with
  | none => rfl
  | some y =>
    simp only []
    cases evBox σ (held L dst) t y <;> rfl

theorem op_buildSlice : ∀ dr dst t n ps ty pos after guard fr σ K X AC, AOp1 P L dr ⟨dst, .buildSlice t n (List.toArray ps), ty, pos, after, guard⟩ fr σ K X AC =
    got (evBuildSlice P σ (held L dst) (ev fr) t n ps) fun r => K r.1 r.2 := by
  intro dr dst t n ps ty pos after guard fr σ K X AC
  simp only [AOp1, evP, AEff, evEff, evAux, effK, got]
  cases evBuildSlice P σ (held L dst) (ev fr) t n ps <;> rfl

theorem op_makeSlice : ∀ dr dst t l c ty pos after guard fr σ K X AC, AOp1 P L dr ⟨dst, .makeSlice t l c, ty, pos, after, guard⟩ fr σ K X AC =
    got (ev fr l) fun x => got (ev fr c) fun y => got (evMake P σ (held L dst) t x y) fun r => K r.1 r.2 := by
  intro dr dst t l c ty pos after guard fr σ K X AC
  simp only [AOp1, evP, AEff, evEff, evAux, effK, got]
  cases ev fr l with
  | none => rfl
  | some x =>
    cases ev fr c with
    | none => rfl
    | some y =>
      simp only []
      cases evMake P σ (held L dst) t x y <;> rfl

theorem op_append : ∀ dr dst x y tx tz ty pos after guard fr σ K X AC, AOp1 P L dr ⟨dst, .call ⟨.builtin .append, #[x, y], #[tx, tz]⟩, ty, pos, after, guard⟩ fr σ K X AC =
    got (ev fr x) fun a => got (ev fr y) fun b => got (evAppend P σ (held L dst) tx tz a b) fun r => K r.1 r.2 := by
  intro dr dst x y tx tz ty pos after guard fr σ K X AC
  simp only [AOp1, evP, AEff, evEff, evAux, effK, got, evL]
  cases ev fr x with
  | none => rfl
  | some a =>
    cases ev fr y with
    | none => rfl
    | some b =>
      simp only [evBuiltin]
      cases evAppend P σ (held L dst) tx tz a b <;> rfl

theorem op_call : ∀ dr dst f xs ts ty pos after guard fr σ K X AC, AOp1 P L dr ⟨dst, .call ⟨.value f, List.toArray xs, ts⟩, ty, pos, after, guard⟩ fr σ K X AC =
    got (ev fr f) fun v => match v with
      | .func (.func g) first cap => got (evL (ev fr) xs) fun as => AC g (first ++ as ++ cap)
      | _ => False := by
  intro dr dst f xs ts ty pos after guard fr σ K X AC
  simp only [AOp1, evP, AEff, got]
  cases ev fr f with
  | none => rfl
  | some v =>
    cases v <;> try rfl
    rename_i fn a b
    cases fn <;> try rfl
    simp only []
    cases evL (ev fr) xs <;> rfl

theorem op_invoke : ∀ dr dst r m xs ts ty pos after guard fr σ K X AC, AOp1 P L dr ⟨dst, .call ⟨.invoke r m, List.toArray xs, ts⟩, ty, pos, after, guard⟩ fr σ K X AC =
    got (ev fr r) fun v => match v with
      | .iface t x => got (evL (ev fr) xs) fun as => got (methA P t m) fun g => AC g (x :: as)
      | _ => False := by
  intro dr dst r m xs ts ty pos after guard fr σ K X AC
  simp only [AOp1, evP, AEff, got]
  cases ev fr r with
  | none => rfl
  | some v =>
    cases v <;> try rfl
    simp only []
    cases evL (ev fr) xs with
    | none => rfl
    | some as =>
      simp only []
      cases methA P _ m <;> rfl

theorem op_panic : ∀ dst x ty pos after guard fr σ K X AC, AOp1 P L false ⟨dst, .panic x, ty, pos, after, guard⟩ fr σ K X AC =
    got (ev fr x) fun v => match v with
      | .iface t v => X (.iface t v) σ
      | _ => False := by
  intro dst x ty pos after guard fr σ K X AC
  simp only [AOp1, evP, AEff, got]
  cases ev fr x with
  | none => rfl
  | some v => cases v <;> rfl

end
end Go.Abs
end
section
/- What the values' functions give, as equations for simp. -/
namespace Go.Abs

/-- Under a condition. -/
def under_ {α : Type} (c : Prop) [Decidable c] (x : Option α) : Option α := if c then x else none
theorem under_pos {α : Type} {c : Prop} [Decidable c] (x : Option α) (h : c) : under_ c x = x := if_pos h
@[congr] theorem under_congr {α : Type} {c d : Prop} [Decidable c] [Decidable d] {x : Option α} (h : c = d) : under_ c x = under_ d x := by
  subst h
  unfold under_
  congr

theorem ev_tmp (fr : List AV) (t : Tmp) : ev fr (.tmp t) = some (fr.getD t undefA) := rfl
theorem ev_func (fr : List AV) (f : FuncId) : ev fr (.func f) = some (.func (.func f) [] []) := rfl
theorem ev_int (fr : List AV) (k : IntKind) (n : Int) : ev fr (.const (.int k n)) = some (.int k n) := rfl
theorem ev_bool (fr : List AV) (b : Bool) : ev fr (.const (.bool b)) = some (.bool b) := rfl
theorem ev_str (fr : List AV) (s : ByteArray) : ev fr (.const (.string s)) = some (.str s) := rfl
theorem ev_nilsl (fr : List AV) : ev fr (.const (.slice none 0 0)) = some .nilsl := rfl
theorem ev_nilptr (fr : List AV) : ev fr (.const (.pointer none)) = some .nilptr := rfl
theorem ev_nilIface (fr : List AV) : ev fr (.const .nilIface) = some .nilIface := rfl
theorem ev_nilFunc (fr : List AV) : ev fr (.const .nilFunc) = some .nilFunc := rfl
theorem ev_agg (fr : List AV) (cs : List Value) : ev fr (.const (.agg (List.toArray cs))) = (absL cs).map .agg := rfl

theorem isCst_const (v : Value) : isCst (.const v) = true := rfl
theorem isCst_tmp (t : Tmp) : isCst (.tmp t) = false := rfl

section
variable (P : Program) (t : TypeId) (c : Bool) (k : IntKind) (a b : Int)
theorem bin_add : evBin P .add t c (.int k a) (.int k b) = some (.int k (k.wrap (a + b))) := by simp [evBin, evInt]
theorem bin_sub : evBin P .sub t c (.int k a) (.int k b) = some (.int k (k.wrap (a - b))) := by simp [evBin, evInt]
theorem bin_mul : evBin P .mul t c (.int k a) (.int k b) = some (.int k (k.wrap (a * b))) := by simp [evBin, evInt]
theorem bin_eql : evBin P .eql t c (.int k a) (.int k b) = some (.bool (decide (a = b))) := by simp [evBin, evInt]; rfl
theorem bin_neq : evBin P .neq t c (.int k a) (.int k b) = some (.bool (!decide (a = b))) := by simp [evBin, evInt]; rfl
theorem bin_lss : evBin P .lss t c (.int k a) (.int k b) = some (.bool (decide (a < b))) := by simp [evBin, evInt]
theorem bin_leq : evBin P .leq t c (.int k a) (.int k b) = some (.bool (decide (a ≤ b))) := by simp [evBin, evInt]
theorem bin_gtr : evBin P .gtr t c (.int k a) (.int k b) = some (.bool (decide (b < a))) := by simp [evBin, evInt]
theorem bin_geq : evBin P .geq t c (.int k a) (.int k b) = some (.bool (decide (b ≤ a))) := by simp [evBin, evInt]
theorem bin_quo : evBin P .quo t c (.int k a) (.int k b) = under_ (b ≠ 0) (some (.int k (k.wrap (a.tdiv b)))) := by
  simp only [evBin, evInt, under_, if_true, ne_eq, ite_not]
theorem bin_rem : evBin P .rem t c (.int k a) (.int k b) = under_ (b ≠ 0) (some (.int k (a.tmod b))) := by
  simp only [evBin, evInt, under_, if_true, ne_eq, ite_not]
theorem bin_and : evBin P .and t c (.int k a) (.int k b) = some (.int k (k.wrap (BitVec.ofInt k.bits a &&& BitVec.ofInt k.bits b).toNat)) := by simp only [evBin, evInt, if_true]
theorem bin_or : evBin P .or t c (.int k a) (.int k b) = some (.int k (k.wrap (BitVec.ofInt k.bits a ||| BitVec.ofInt k.bits b).toNat)) := by simp only [evBin, evInt, if_true]
theorem bin_xor : evBin P .xor t c (.int k a) (.int k b) = some (.int k (k.wrap (BitVec.ofInt k.bits a ^^^ BitVec.ofInt k.bits b).toNat)) := by simp only [evBin, evInt, if_true]
theorem bin_andNot : evBin P .andNot t c (.int k a) (.int k b) = some (.int k (k.wrap (BitVec.ofInt k.bits a &&& ~~~ BitVec.ofInt k.bits b).toNat)) := by simp only [evBin, evInt, if_true]
theorem bin_shl (k' : IntKind) : evBin P .shl t c (.int k a) (.int k' b) = under_ (0 ≤ b) (some (.int k (k.wrap (a * 2 ^ min b.toNat k.bits)))) := by
  simp only [evBin, evShift, under_]
  by_cases h : b < 0
  · rw [if_pos h, if_neg (by omega)]
  · rw [if_neg h, if_pos (by omega)]
theorem bin_shr (k' : IntKind) : evBin P .shr t c (.int k a) (.int k' b) = under_ (0 ≤ b) (some (.int k (a.fdiv (2 ^ min b.toNat k.bits)))) := by
  simp only [evBin, evShift, under_]
  by_cases h : b < 0
  · rw [if_pos h, if_neg (by omega)]
  · rw [if_neg h, if_pos (by omega)]
variable (s s' : ByteArray)
theorem toList_inj {s s' : ByteArray} : (s.toList == s'.toList) = decide (s = s') := by
  rw [Bool.eq_iff_iff]
  simp only [beq_iff_eq, decide_eq_true_eq]
  constructor
  · intro h
    rw [ByteArray.toList_eq, ByteArray.toList_eq] at h
    cases s
    cases s'
    congr
    exact Array.ext' h
  · rintro rfl; rfl
theorem bin_str_add : evBin P .add t c (.str s) (.str s') = under_ (s.size + s'.size ≤ 9223372036854775807) (some (.str (s ++ s'))) := rfl
theorem bin_str_eql : evBin P .eql t c (.str s) (.str s') = some (.bool (decide (s = s'))) := by simp only [evBin, evStr, toList_inj]
theorem bin_str_neq : evBin P .neq t c (.str s) (.str s') = some (.bool (!decide (s = s'))) := by simp only [evBin, evStr, toList_inj]
theorem bin_str_lss : evBin P .lss t c (.str s) (.str s') = some (.bool (Op.bytesLess s.toList s'.toList)) := rfl
theorem bin_str_geq : evBin P .geq t c (.str s) (.str s') = some (.bool (!Op.bytesLess s.toList s'.toList)) := rfl
theorem bin_str_gtr : evBin P .gtr t c (.str s) (.str s') = some (.bool !(Op.bytesLess s.toList s'.toList || s.toList == s'.toList)) := rfl
theorem bin_str_leq : evBin P .leq t c (.str s) (.str s') = some (.bool (Op.bytesLess s.toList s'.toList || s.toList == s'.toList)) := rfl
end

theorem un_not (b : Bool) : evUn .not (.bool b) = some (.bool !b) := rfl
theorem un_neg (k : IntKind) (n : Int) : evUn .neg (.int k n) = some (.int k (k.wrap (0 - n))) := rfl

/-- An element of a slice, as a pointer. -/
def elemAt (xs : List AV) (n : Int) : Option AV := (xs[n.toNat]?).map fun y => .elem (cellsA y)
theorem elemAt_map {α : Type} (f : α → AV) (l : List α) (n : Int) : elemAt (l.map f) n = (l[n.toNat]?).map fun y => .elem (cellsA (f y)) := by
  simp [elemAt, List.getElem?_map, Option.map_map, Function.comp_def]

section
variable (P : Program) (t : TypeId)
/-- The element type of a slice type. -/
def slT : Option TypeId := match P.underlying t with
  | some (.slice e) => some e
  | _ => none
theorem ix_sl (sz : Nat) (xs : List AV) (k : IntKind) (n : Int) : evIndexAddr P t (.sl sz xs) (.int k n) = under_ ((slT P t).bind (szT P) = some sz) (under_ (0 ≤ n ∧ n < xs.length) (elemAt xs n)) := by
  unfold evIndexAddr slT under_ elemAt
  simp only
  cases hu : P.underlying t with
  | none => simp
  | some d =>
    cases d <;> first
      | (simp; done)
      | skip
    rename_i e
    simp only [Option.bind_some]
    by_cases h1 : szT P e = some sz
    · simp only [h1, true_and, if_true]
    · simp only [h1, false_and, if_false]
theorem ix_own (id sz hw off len : Nat) (k : IntKind) (n : Int) : evIndexAddr P t (.own id sz hw off len) (.int k n) = under_ ((slT P t).bind (szT P) = some sz) (under_ (0 ≤ n ∧ n < len) (some (.ptr id hw (off + n.toNat) 0))) := by
  unfold evIndexAddr slT under_
  simp only
  cases hu : P.underlying t with
  | none => simp
  | some d =>
    cases d <;> first
      | (simp; done)
      | skip
    rename_i e
    simp only [Option.bind_some]
    by_cases h1 : szT P e = some sz
    · simp only [h1, true_and, if_true]
    · simp only [h1, false_and, if_false]
/-- Is it a string type? -/
def isSt : Bool := match P.underlying t with
  | some .string => true
  | _ => false
theorem ix_str (s : ByteArray) (k : IntKind) (n : Int) : evIndex P t (.str s) (.int k n) = under_ (isSt P t = true) (under_ (0 ≤ n) ((s[n.toNat]?).map fun (b : UInt8) => AV.int .u8 b.toNat)) := by
  unfold evIndex under_ isSt
  simp only
  cases hu : P.underlying t with
  | none => simp
  | some d => cases d <;> simp
/-- Is it a slice type? -/
def isSl : Bool := match P.underlying t with
  | some (.slice _) => true
  | _ => false
theorem len_str (s : ByteArray) : evLen P t (.str s) = under_ (isSt P t = true) (some (.int .i64 s.size)) := by
  unfold evLen under_ isSt
  simp only
  cases hu : P.underlying t with
  | none => simp
  | some d => cases d <;> simp
theorem len_nil : evLen P t .nilsl = under_ (isSl P t = true) (some (.int .i64 0)) := by
  unfold evLen under_ isSl
  simp only
  cases hu : P.underlying t with
  | none => simp
  | some d => cases d <;> simp
theorem len_zsl : evLen P t .zsl = under_ (isSl P t = true) (some (.int .i64 0)) := by
  unfold evLen under_ isSl
  simp only
  cases hu : P.underlying t with
  | none => simp
  | some d => cases d <;> simp
theorem len_sl (sz : Nat) (xs : List AV) : evLen P t (.sl sz xs) = under_ (isSl P t = true) (some (.int .i64 xs.length)) := by
  unfold evLen under_ isSl
  simp only
  cases hu : P.underlying t with
  | none => simp
  | some d => cases d <;> simp
theorem len_own (id sz hw off len : Nat) : evLen P t (.own id sz hw off len) = under_ (isSl P t = true) (some (.int .i64 len)) := by
  unfold evLen under_ isSl
  simp only
  cases hu : P.underlying t with
  | none => simp
  | some d => cases d <;> simp

/-- How a type is loaded: one cell, or some cells. -/
def ldT : Option (Option Nat) := match aggT P t, szT P t with
  | some true, some n => some (some n)
  | some false, some _ => some none
  | _, _ => none
def loadAs (cs : List AV) : Option (Option Nat) → Option AV
  | some (some n) => under_ (n ≤ cs.length) (some (.agg (cs.take n)))
  | some none => cs.head?
  | none => none
theorem load_elem (σ : AH) (cs : List AV) : evLoad P σ t (.elem cs) = loadAs cs (ldT P t) := by
  unfold evLoad evLoadC ldT loadAs under_
  simp only
  cases aggT P t with
  | none => rfl
  | some b =>
    cases szT P t with
    | none => cases b <;> rfl
    | some n => cases b <;> rfl
theorem load_ptr (σ : AH) (id hw i off : Nat) : evLoad P σ t (.ptr id hw i off) = (σ[id]?).bind fun o => under_ (hw = o.hw) ((o.xs[i]?).bind fun x => loadAs ((cellsA x).drop off) (ldT P t)) := by
  unfold evLoad under_
  simp only
  cases σ[id]? with
  | none => rfl
  | some o =>
    simp only [Option.bind_some]
    split
    · cases o.xs[i]? with
      | none => rfl
      | some x => exact load_elem P t σ _
    · rfl
theorem loadAs_one (cs : List AV) : loadAs cs (some none) = cs.head? := rfl
theorem loadAs_agg (cs : List AV) (n : Nat) : loadAs cs (some (some n)) = under_ (n ≤ cs.length) (some (.agg (cs.take n))) := rfl

/-- Where a field lies. -/
def fAt (t : TypeId) (f : Nat) : Option Nat := match fieldT P t f with
  | some fd => match szT P fd.type with
    | some (_ + 1) => some fd.offset
    | _ => none
  | none => none
def fAddr (off : Nat) : AV → Option AV
  | .ptr id hw i o => some (.ptr id hw i (o + off))
  | .elem cs => some (.elem (cs.drop off))
  | _ => none
theorem fieldAddr_eq (f : Nat) (x : AV) : evFieldAddr P t f x = (fAt P t f).bind fun off => fAddr off x := by
  unfold evFieldAddr fAt fAddr
  cases fieldT P t f with
  | none => rfl
  | some fd =>
    simp only
    cases szT P fd.type with
    | none => rfl
    | some n =>
      cases n with
      | zero => rfl
      | succ n => cases x <;> rfl
/-- A field's place and its load. -/
def fLd (t : TypeId) (f : Nat) : Option (Nat × Option Nat) := match fieldT P t f with
  | some fd => (ldT P fd.type).map fun l => (fd.offset, l)
  | none => none
def fGet (cs : List AV) : Option (Nat × Option Nat) → Option AV
  | some (off, some n) => some (.agg ((cs.drop off).take n))
  | some (off, none) => cs[off]?
  | none => none
end

theorem fAddr_ptr (off id hw i o : Nat) : fAddr off (.ptr id hw i o) = some (.ptr id hw i (o + off)) := rfl
theorem fAddr_elem (off : Nat) (cs : List AV) : fAddr off (.elem cs) = some (.elem (cs.drop off)) := rfl

theorem cells_agg (cs : List AV) : cellsA (.agg cs) = cs := rfl
theorem cells_int (k : IntKind) (n : Int) : cellsA (.int k n) = [.int k n] := rfl
theorem cells_bool (b : Bool) : cellsA (.bool b) = [.bool b] := rfl
theorem cells_str (s : ByteArray) : cellsA (.str s) = [.str s] := rfl
theorem cells_sl (sz : Nat) (xs : List AV) : cellsA (.sl sz xs) = [.sl sz xs] := rfl
theorem cells_nilsl : cellsA .nilsl = [.nilsl] := rfl
theorem cells_zsl : cellsA .zsl = [.zsl] := rfl
theorem cells_own (id sz hw off len : Nat) : cellsA (.own id sz hw off len) = [.own id sz hw off len] := rfl
theorem cells_ptr (id hw i off : Nat) : cellsA (.ptr id hw i off) = [.ptr id hw i off] := rfl
theorem cells_elem (cs : List AV) : cellsA (.elem cs) = [.elem cs] := rfl
theorem cells_nilptr : cellsA .nilptr = [.nilptr] := rfl
theorem cells_iface (t : TypeId) (v : AV) : cellsA (.iface t v) = [.iface t v] := rfl
theorem cells_nilIface : cellsA .nilIface = [.nilIface] := rfl
theorem cells_func (fn : Fn) (a b : List AV) : cellsA (.func fn a b) = [.func fn a b] := rfl
theorem cells_nilFunc : cellsA .nilFunc = [.nilFunc] := rfl

/-- A new variable that is never written again. -/
theorem box_free (σ : AH) (t : TypeId) (x : AV) : evBox σ false t x = under_ ((cellsA x).all okA = true) (some (.elem (cellsA x), σ)) := by
  unfold evBox under_
  simp
theorem box_held (σ : AH) (t : TypeId) (x : AV) : evBox σ true t x = under_ ((cellsA x).all okA = true) (some (.ptr σ.length 1 0 0, σ ++ [avar t (cellsA x).length x])) := by
  unfold evBox under_
  simp

theorem ok_int (k : IntKind) (n : Int) : okA (.int k n) = true := rfl
theorem ok_bool (b : Bool) : okA (.bool b) = true := rfl
theorem ok_str (s : ByteArray) : okA (.str s) = true := rfl
theorem ok_sl (sz : Nat) (xs : List AV) : okA (.sl sz xs) = true := rfl
theorem ok_nilsl : okA .nilsl = true := rfl
theorem ok_zsl : okA .zsl = true := rfl
theorem ok_own (id sz hw off len : Nat) : okA (.own id sz hw off len) = true := rfl
theorem ok_ptr (id hw i off : Nat) : okA (.ptr id hw i off) = true := rfl
theorem ok_elem (cs : List AV) : okA (.elem cs) = true := rfl
theorem ok_nilptr : okA .nilptr = true := rfl
theorem ok_iface (t : TypeId) (v : AV) : okA (.iface t v) = true := rfl
theorem ok_nilIface : okA .nilIface = true := rfl
theorem ok_func (fn : Fn) (a b : List AV) : okA (.func fn a b) = true := rfl
theorem ok_nilFunc : okA .nilFunc = true := rfl

theorem evL_nil (es : Operand → Option AV) : evL es [] = some [] := rfl
theorem evL_cons (es : Operand → Option AV) (x : Operand) (xs : List Operand) : evL es (x :: xs) = (es x).bind fun a => (evL es xs).map fun as => a :: as := by
  simp only [evL]
  cases es x with
  | none => rfl
  | some a => cases evL es xs <;> rfl

theorem put_some (fr : List AV) (d : Tmp) (v : AV) : put fr (some d) v = fr.set d v := rfl
theorem put_none (fr : List AV) (v : AV) : put fr none v = fr := rfl

theorem held_some (L : List Nat) (d : Tmp) : held L (some d) = L.contains d := rfl
theorem held_none (L : List Nat) : held L none = false := rfl

theorem wrap_i64 {n : Int} (h : -9223372036854775808 ≤ n) (h' : n ≤ 9223372036854775807) : IntKind.i64.wrap n = n := by
  unfold IntKind.wrap
  simp [IntKind.bits, IntKind.signed]
  omega

/-- A result. -/
theorem bodyQ_ret (P : Program) (fn : Func) (Q : AOut → AH → Prop) (fr : List AV) (σ : AH) : bodyQ P fn Q .ret fr σ = got (resA P fn fr σ) fun x => Q (.ret x) σ := by
  unfold bodyQ got
  simp only
  cases resA P fn fr σ <;> rfl
theorem bodyQ_normal (P : Program) (fn : Func) (Q : AOut → AH → Prop) (fr : List AV) (σ : AH) : bodyQ P fn Q .normal fr σ = got (resA P fn fr σ) fun x => Q (.ret x) σ := by
  unfold bodyQ got
  simp only
  cases resA P fn fr σ <;> rfl
theorem bodyQ_panic (P : Program) (fn : Func) (Q : AOut → AH → Prop) (v : AV) (fr : List AV) (σ : AH) : bodyQ P fn Q (.panic v) fr σ = Q (.panic v) σ := rfl

end Go.Abs
end
section
/- The equations, as rules of simp. -/
namespace Go.Abs

theorem under_true {α : Type} {h : Decidable True} (x : Option α) : @under_ α True h x = x := by unfold under_; simp
theorem under_false {α : Type} {h : Decidable False} (x : Option α) : @under_ α False h x = none := by unfold under_; simp

/-- The places of a struct's fields, or the cells of an array's element. -/
def bldT (P : Program) (t : TypeId) : Option (List (Nat × Nat) ⊕ Nat) := match P.underlying t with
  | some (.struct fs) => (fieldsPlace P fs.toList).map .inl
  | some (.array _ e) => (szT P e).map .inr
  | _ => none
def plc : List (Nat × Nat) ⊕ Nat → Nat → Option (Nat × Nat)
  | .inl ps, i => ps[i]?
  | .inr n, i => some (i * n, n)
theorem build_eq (P : Program) (es : Operand → Option AV) (t : TypeId) (parts : List (Nat × Operand)) :
    evBuild P es t parts = (bldT P t).bind fun b => (zeroA P t).bind fun zv => (evFill (plc b) es (cellsA zv) parts).map .agg := by
  unfold bldT evBuild
  cases zeroA P t with
  | none =>
    cases P.underlying t with
    | none => rfl
    | some d => cases d <;> first
      | rfl
      | (rename_i fs; simp; done)
      | (rename_i n e; simp; done)
  | some zv =>
    cases P.underlying t with
    | none => rfl
    | some d =>
      cases d <;> first
        | rfl
        | skip
      · rename_i n e
        simp only
        cases szT P e <;> rfl
      · rename_i fs
        simp only
        cases fieldsPlace P fs.toList <;> rfl
theorem plc_st (ps : List (Nat × Nat)) (i : Nat) : plc (.inl ps) i = ps[i]? := rfl
theorem plc_ar (n i : Nat) : plc (.inr n) i = some (i * n, n) := rfl
theorem fill_nil (place : Nat → Option (Nat × Nat)) (es : Operand → Option AV) (cells : List AV) : evFill place es cells [] = some cells := rfl
theorem fill_cons (place : Nat → Option (Nat × Nat)) (es : Operand → Option AV) (cells : List AV) (i : Nat) (x : Operand) (rest : List (Nat × Operand)) :
    evFill place es cells ((i, x) :: rest) = (place i).bind fun p => (es x).bind fun v => under_ ((cellsA v).length = p.2 ∧ p.1 + p.2 ≤ cells.length) (evFill place es (setAll cells p.1 (cellsA v)) rest) := by
  simp only [evFill, under_]
  cases place i with
  | none => rfl
  | some p =>
    obtain ⟨off, size⟩ := p
    cases es x with
    | none => rfl
    | some v => rfl
theorem setAll_nil (cs : List AV) (off : Nat) : setAll cs off [] = cs := rfl
theorem setAll_cons (cs : List AV) (off : Nat) (v : AV) (vs : List AV) : setAll cs off (v :: vs) = setAll (cs.set off v) (off + 1) vs := rfl
theorem field_eq (P : Program) (t : TypeId) (f : Nat) (cs : List AV) : evField P t f (.agg cs) = fGet cs (fLd P t f) := by
  unfold evField fLd ldT fGet evPart
  cases fieldT P t f with
  | none => rfl
  | some fd =>
    simp only
    cases aggT P fd.type with
    | none => rfl
    | some b =>
      cases szT P fd.type with
      | none => cases b <;> simp
      | some n => cases b <;> rfl
theorem fGet_one (cs : List AV) (off : Nat) : fGet cs (some (off, none)) = cs[off]? := rfl
theorem fGet_agg (cs : List AV) (off n : Nat) : fGet cs (some (off, some n)) = some (.agg ((cs.drop off).take n)) := rfl

theorem elems_nil (es : Operand → Option AV) (sz : Nat) (xs : List AV) : evElems es sz xs [] = some xs := rfl
theorem elems_cons (es : Operand → Option AV) (sz : Nat) (xs : List AV) (i : Nat) (x : Operand) (rest : List (Nat × Operand)) :
    evElems es sz xs ((i, x) :: rest) = (es x).bind fun v => under_ ((cellsA v).length = sz ∧ i < xs.length ∧ (cellsA v).all okA = true) (evElems es sz (xs.set i v) rest) := by
  simp only [evElems, under_]
  cases es x with
  | none => rfl
  | some v => rfl
theorem newSl_free (σ : AH) (e : TypeId) (sz : Nat) (xs : List AV) : newSl σ false e sz xs = (.sl sz xs, σ) := rfl
theorem newSl_held (σ : AH) (e : TypeId) (sz : Nat) (xs : List AV) : newSl σ true e sz xs = (.own σ.length sz xs.length 0 xs.length, σ ++ [arow e sz xs.length xs]) := rfl
theorem buildSlice_eq (P : Program) (σ : AH) (hold : Bool) (es : Operand → Option AV) (t : TypeId) (n : Nat) (parts : List (Nat × Operand)) :
    evBuildSlice P σ hold es t n parts = (slT P t).bind fun e => (szT P e).bind fun sz => (zeroA P e).bind fun zx => under_ ((cellsA zx).length = sz ∧ (cellsA zx).all okA = true ∧ n * sz ≤ 16777216)
      ((evElems es sz (List.replicate n zx) parts).map fun xs => newSl σ hold e sz xs) := by
  unfold evBuildSlice slT under_
  cases P.underlying t with
  | none => rfl
  | some d =>
    cases d <;> first
      | rfl
      | skip
    rename_i e
    simp only [Option.bind_some]
    cases szT P e with
    | none => rfl
    | some sz =>
      cases zeroA P e with
      | none => rfl
      | some zx =>
        simp only [Option.bind_some]
        split
        · cases evElems es sz (List.replicate n zx) parts <;> rfl
        · rfl

theorem src_nilsl (σ : AH) (sz : Nat) : srcA σ sz .nilsl = some [] := rfl
theorem src_zsl (σ : AH) (sz : Nat) : srcA σ sz .zsl = some [] := rfl
theorem src_sl (σ : AH) (sz sz' : Nat) (ys : List AV) : srcA σ sz (.sl sz' ys) = under_ (sz' = sz) (some ys) := rfl
theorem src_str (σ : AH) (sz : Nat) (s : ByteArray) : srcA σ sz (.str s) = under_ (sz = 1) (some (bytesA s)) := rfl
theorem src_own (σ : AH) (sz id sz' hw off len : Nat) : srcA σ sz (.own id sz' hw off len) = (σ[id]?).bind fun o => under_ (sz' = sz ∧ hw = o.hw ∧ off + len ≤ o.xs.length) (some ((o.xs.drop off).take len)) := by
  unfold srcA under_
  simp only
  cases σ[id]? with
  | none => rfl
  | some o => rfl

/-- What append needs to know of its types: an element's cells and bytes. -/
def apT (P : Program) (sT xT : TypeId) : Option (TypeId × Nat × Nat) :=
  match P.underlying sT, P.underlying xT with
  | some (.slice e), some xd => if isIntD xd then none else match szT P e, byT P e, zeroA P e with
    | some sz, some b, some zx => if (cellsA zx).length = sz ∧ (cellsA zx).all okA = true then some (e, sz, b) else none
    | _, _, _ => none
  | _, _ => none
def appendTo (σ : AH) (hold : Bool) (ys : List AV) (e : TypeId) (sz b : Nat) : AV → Option (AV × AH)
  | .nilsl | .zsl => under_ (fits ys.length b = true) (some (newSl σ hold e sz ys))
  | .own id sz' hw 0 len => (σ[id]?).bind fun o => under_ (hold = true ∧ sz' = sz ∧ hw = o.hw ∧ len ≤ o.xs.length ∧ fits (len + ys.length) b = true ∧ o.kd.isOf e = true)
      (some (.own id sz (max hw (len + ys.length)) 0 (len + ys.length), σ.set id (arow e sz (max hw (len + ys.length)) (o.xs.take len ++ ys))))
  | _ => none
theorem append_eq (P : Program) (σ : AH) (hold : Bool) (sT xT : TypeId) (base x : AV) :
    evAppend P σ hold sT xT base x = (apT P sT xT).bind fun p => (srcA σ p.2.1 x).bind fun ys => appendTo σ hold ys p.1 p.2.1 p.2.2 base := by
  unfold evAppend apT
  cases P.underlying sT with
  | none => rfl
  | some d =>
    cases d <;> first
      | rfl
      | skip
    rename_i e
    cases P.underlying xT with
    | none => rfl
    | some xd =>
      simp only
      split
      · rfl
      · cases szT P e with
        | none => rfl
        | some sz =>
          cases byT P e with
          | none => rfl
          | some b =>
            cases zeroA P e with
            | none => rfl
            | some zx =>
              simp only
              split
              · simp only [Option.bind_some]
                cases srcA σ sz x with
                | none => rfl
                | some ys =>
                  simp only [Option.bind_some, appendTo]
                  cases base <;> first
                    | rfl
                    | skip
                  rename_i id sz' hw off len
                  cases off with
                  | succ off => rfl
                  | zero =>
                    simp only
                    cases σ[id]? with
                    | none => rfl
                    | some o => rfl
              · rfl
theorem appendTo_nil (σ : AH) (hold : Bool) (ys : List AV) (e : TypeId) (sz b : Nat) : appendTo σ hold ys e sz b .nilsl = under_ (fits ys.length b = true) (some (newSl σ hold e sz ys)) := rfl
theorem appendTo_zsl (σ : AH) (hold : Bool) (ys : List AV) (e : TypeId) (sz b : Nat) : appendTo σ hold ys e sz b .zsl = under_ (fits ys.length b = true) (some (newSl σ hold e sz ys)) := rfl
theorem appendTo_own (σ : AH) (hold : Bool) (ys : List AV) (e : TypeId) (sz b id sz' hw len : Nat) : appendTo σ hold ys e sz b (.own id sz' hw 0 len) =
    (σ[id]?).bind fun o => under_ (hold = true ∧ sz' = sz ∧ hw = o.hw ∧ len ≤ o.xs.length ∧ fits (len + ys.length) b = true ∧ o.kd.isOf e = true)
      (some (.own id sz (max hw (len + ys.length)) 0 (len + ys.length), σ.set id (arow e sz (max hw (len + ys.length)) (o.xs.take len ++ ys)))) := rfl

/-- The results as one value. -/
def oneA : List AV → AV
  | [x] => x
  | xs => .tuple xs
theorem one_1 (x : AV) : oneA [x] = x := rfl
theorem one_0 : oneA [] = .tuple [] := rfl
theorem one_2 (x y : AV) (zs : List AV) : oneA (x :: y :: zs) = .tuple (x :: y :: zs) := rfl
theorem res_eq (P : Program) (fn : Func) (fr : List AV) (σ : AH) : resA P fn fr σ = (resL P fr σ fn.results.toList).map oneA := by
  unfold resA
  cases resL P fr σ fn.results.toList with
  | none => rfl
  | some xs =>
    match xs with
    | [] => rfl
    | [x] => rfl
    | x :: y :: ys => rfl
theorem resL_nil (P : Program) (fr : List AV) (σ : AH) : resL P fr σ [] = some [] := rfl
theorem resL_cons (P : Program) (fr : List AV) (σ : AH) (r : ResultVar) (rs : List ResultVar) : resL P fr σ (r :: rs) = (resX P fr σ r).bind fun x => (resL P fr σ rs).map fun xs => x :: xs := by
  simp only [resL]
  cases resX P fr σ r with
  | none => rfl
  | some x => cases resL P fr σ rs <;> rfl
theorem resX_tmp (P : Program) (fr : List AV) (σ : AH) (t : Tmp) : resX P fr σ (.tmp t) = some (fr.getD t undefA) := rfl
theorem resX_cell (P : Program) (fr : List AV) (σ : AH) (a : Tmp) (t : TypeId) : resX P fr σ (.cell a t) = evLoad P σ t (fr.getD a undefA) := rfl

theorem make_eq (P : Program) (σ : AH) (hold : Bool) (t : TypeId) (k k' : IntKind) (n m : Int) : evMake P σ hold t (.int k n) (.int k' m) =
    (slT P t).bind fun e => (zeroA P e).bind fun x => (szT P e).bind fun sz => (byT P e).bind fun b => under_ (n = m ∧ 0 ≤ n ∧ n ≤ 9223372036854775807 ∧ (cellsA x).length = sz ∧ (cellsA x).all okA = true ∧ fits n.toNat b = true)
      (some (newSl σ hold e sz (List.replicate n.toNat x))) := by
  unfold evMake slT under_
  cases P.underlying t with
  | none => rfl
  | some d =>
    cases d <;> first
      | rfl
      | skip
    rename_i e
    simp only [Option.bind_some]
    cases zeroA P e with
    | none => rfl
    | some x =>
      cases szT P e with
      | none => rfl
      | some sz =>
        cases byT P e with
        | none => rfl
        | some b => rfl

theorem store_eq (P : Program) (σ : AH) (t : TypeId) (id hw i off : Nat) (v : AV) : evStore P σ t (.ptr id hw i off) v =
    (σ[id]?).bind fun o => under_ (hw = o.hw) ((o.xs[i]?).bind fun e => (szT P t).bind fun n => under_ ((cellsA v).length = n ∧ off + n ≤ (cellsA e).length ∧ (cellsA v).all okA = true ∧ o.kd.open = true)
      (some (σ.set id ⟨o.sz, o.hw, o.xs.set i (reA e (setAll (cellsA e) off (cellsA v))), o.kd⟩))) := by
  unfold evStore under_
  simp only
  cases σ[id]? with
  | none => rfl
  | some o =>
    simp only [Option.bind_some]
    split
    · cases o.xs[i]? with
      | none => rfl
      | some e =>
        simp only [Option.bind_some]
        cases szT P t with
        | none => rfl
        | some n => rfl
    · rfl
theorem re_agg (cs ds : List AV) : reA (.agg cs) ds = .agg ds := rfl
theorem re_int (k : IntKind) (n : Int) (ds : List AV) : reA (.int k n) ds = ds.headD (.int k n) := rfl
theorem re_bool (b : Bool) (ds : List AV) : reA (.bool b) ds = ds.headD (.bool b) := rfl
theorem re_str (s : ByteArray) (ds : List AV) : reA (.str s) ds = ds.headD (.str s) := rfl
theorem re_sl (sz : Nat) (xs : List AV) (ds : List AV) : reA (.sl sz xs) ds = ds.headD (.sl sz xs) := rfl
theorem re_nilsl (ds : List AV) : reA .nilsl ds = ds.headD .nilsl := rfl
theorem re_own (id sz hw off len : Nat) (ds : List AV) : reA (.own id sz hw off len) ds = ds.headD (.own id sz hw off len) := rfl
theorem re_ptr (id hw i off : Nat) (ds : List AV) : reA (.ptr id hw i off) ds = ds.headD (.ptr id hw i off) := rfl
theorem re_nilptr (ds : List AV) : reA .nilptr ds = ds.headD .nilptr := rfl
theorem re_iface (t : TypeId) (v : AV) (ds : List AV) : reA (.iface t v) ds = ds.headD (.iface t v) := rfl
theorem re_nilIface (ds : List AV) : reA .nilIface ds = ds.headD .nilIface := rfl

/-- What the end of a body says: the variables of the results. -/
def endQ (P : Program) (rs : List ResultVar) (Q : AOut → AH → Prop) : APost := fun e fr σ =>
  match e with
  | .normal | .ret => got ((resL P fr σ rs).map oneA) fun x => Q (.ret x) σ
  | .panic x => Q (.panic x) σ
  | _ => False
theorem endQ_ret (P : Program) (rs : List ResultVar) (Q : AOut → AH → Prop) (fr : List AV) (σ : AH) : endQ P rs Q .ret fr σ = got ((resL P fr σ rs).map oneA) fun x => Q (.ret x) σ := rfl
theorem endQ_normal (P : Program) (rs : List ResultVar) (Q : AOut → AH → Prop) (fr : List AV) (σ : AH) : endQ P rs Q .normal fr σ = got ((resL P fr σ rs).map oneA) fun x => Q (.ret x) σ := rfl
theorem endQ_panic (P : Program) (rs : List ResultVar) (Q : AOut → AH → Prop) (v : AV) (fr : List AV) (σ : AH) : endQ P rs Q (.panic v) fr σ = Q (.panic v) σ := rfl
@[congr] theorem endQ_congr {P : Program} {rs : List ResultVar} {Q : AOut → AH → Prop} {e : AExit} {fr fr' : List AV} {σ σ' : AH} (h1 : fr = fr') (h2 : σ = σ') : endQ P rs Q e fr σ = endQ P rs Q e fr' σ' := by rw [h1, h2]

/-- A function out of its body: `m` more slots. -/
theorem AFun.body {P : Program} {f : FuncId} {fn : Func} {c : Code} {rs : List ResultVar} {args fr : List AV} {σ σ' : AH} {out : AOut} (L : List Nat) (hf : P.funcs[f]? = some fn) (hb : fn.body = some c) (hr : fn.results = List.toArray rs)
    (hok : callOk P f = true) (hfr : args ++ List.replicate (fn.ntmps - args.length) undefA = fr) (h : wpA P L σ.length c fr σ (endQ P rs (Done σ out σ'))) : AFun P f args σ out σ' := by
  subst hfr
  refine AFun.of_body hf hb hok ((wpA_sound h).mono fun e fr' σ₁ hq => ?_)
  cases e with
  | normal =>
    rw [bodyQ_normal, res_eq, hr]
    exact hq
  | ret =>
    rw [bodyQ_ret, res_eq, hr]
    exact hq
  | panic x => exact hq
  | exit id => exact hq
  | goto l => exact hq

theorem open_free : Kd.open .free = true := rfl
theorem open_of (t : TypeId) : Kd.open (.of t) = true := rfl
theorem isOf_of (e t : TypeId) : Kd.isOf e (.of t) = (t == e) := rfl
attribute [go_sem] open_free open_of isOf_of endQ_ret endQ_normal endQ_panic under_true under_false under_pos got_some ev_tmp ev_func ev_int ev_bool ev_str ev_nilsl ev_nilptr ev_nilIface ev_nilFunc ev_agg isCst_const isCst_tmp
  bin_add bin_sub bin_mul bin_eql bin_neq bin_lss bin_leq bin_gtr bin_geq bin_quo bin_rem bin_and bin_or bin_xor bin_andNot bin_shl bin_shr bin_str_add bin_str_eql bin_str_neq bin_str_lss bin_str_geq bin_str_gtr bin_str_leq
  un_not un_neg ix_sl ix_own ix_str len_str len_nil len_zsl len_sl len_own load_elem load_ptr loadAs_one loadAs_agg fieldAddr_eq fAddr_ptr fAddr_elem
  cells_agg cells_int cells_bool cells_str cells_sl cells_nilsl cells_zsl cells_own cells_ptr cells_elem cells_nilptr cells_iface cells_nilIface cells_func cells_nilFunc
  box_free box_held ok_int ok_bool ok_str ok_sl ok_nilsl ok_zsl ok_own ok_ptr ok_elem ok_nilptr ok_iface ok_nilIface ok_func ok_nilFunc evL_nil evL_cons put_some put_none held_some held_none
  bodyQ_ret bodyQ_normal bodyQ_panic fill_nil fill_cons setAll_nil setAll_cons field_eq fGet_one fGet_agg elems_nil elems_cons newSl_free newSl_held buildSlice_eq src_nilsl src_zsl src_sl src_str src_own append_eq appendTo_nil appendTo_zsl appendTo_own
  resL_nil resL_cons resX_tmp resX_cell make_eq store_eq re_agg re_int re_bool re_str re_sl re_nilsl re_own re_ptr re_nilptr re_iface re_nilIface
  gd_some gdV_true gdV_false gdV_undef elemAt_map build_eq plc_st plc_ar res_eq one_0 one_1 one_2 wrap_i64
end Go.Abs
end
