/- What is proved here: regions in each order, code; no condition. -/
import Derived.Orders
import Derived.Test.YtfglckpbconanaaLb
set_option linter.unusedVariables false
set_option linter.unusedSimpArgs false
namespace Go.Ev

namespace Tr
variable {α : Type}
theorem setF_comm : ∀ (f : Nat) (t : Tr α) (i j : Nat) (a b : Option α), i ≠ j → setF f (setF f t i a) j b = setF f (setF f t j b) i a
  | 0, _, _, _, _, _, _ => rfl
  | f + 1, t, i, j, a, b, h => by
    simp only [setF_parts]
    by_cases hi : i = 0
    · subst hi
      have hj : j ≠ 0 := fun e => h e.symm
      by_cases hj2 : j % 2 = 1 <;> simp [hj, hj2, parts]
    · by_cases hj : j = 0
      · subst hj
        by_cases hi2 : i % 2 = 1 <;> simp [hi, hi2, parts]
      · by_cases hi2 : i % 2 = 1 <;> by_cases hj2 : j % 2 = 1 <;> simp only [hi, hj, hi2, hj2, if_true, if_false, parts]
        · rw [setF_comm f _ _ _ _ _ (by omega)]
        · rw [setF_comm f _ _ _ _ _ (by omega)]
theorem set_comm (t : Tr α) {i j : Nat} (a b : Option α) (h : i ≠ j) : (t.set i a).set j b = (t.set j b).set i a := setF_comm 16 t i j a b h

theorem setF_map {β : Type} (g : α → Option β) : ∀ (f : Nat) (t : Tr α) (i : Nat) (v : Option α), (setF f t i v).map g = setF f (t.map g) i (v.bind g)
  | 0, _, _, _ => rfl
  | f + 1, .nil, i, v => by
    simp only [setF, map]
    cases (i == 0)
    · cases (i % 2 == 1)
      · simp only [cond_false, map, setF_map g f, Option.bind_none]
      · simp only [cond_true, cond_false, map, setF_map g f, Option.bind_none]
    · rfl
  | f + 1, .nd w l r, i, v => by
    simp only [setF, map]
    cases (i == 0)
    · cases (i % 2 == 1)
      · simp only [cond_false, map, setF_map g f]
      · simp only [cond_true, cond_false, map, setF_map g f]
    · rfl
theorem set_map {β : Type} (g : α → Option β) (t : Tr α) (i : Nat) (v : Option α) : (t.set i v).map g = (t.map g).set i (v.bind g) := setF_map g 16 t i v
theorem setF_get : ∀ (f : Nat) (t : Tr α) (i : Nat) (v : α), i + 1 < 2 ^ f → t.get i = some v → setF f t i (some v) = t
  | 0, _, i, _, h, _ => by omega
  | f + 1, .nil, i, v, h, e => by simp [get] at e
  | f + 1, .nd w l r, i, v, h, e => by
    simp only [setF]
    by_cases hi : i = 0
    · subst hi; simp [get] at e; simp [e]
    · by_cases hi2 : i % 2 = 1
      · rw [get_odd _ _ _ hi2] at e
        simp only [beq_eq_false_iff_ne.2 hi, hi2, cond_false, beq_self_eq_true, cond_true]
        rw [setF_get f l _ v (by omega) e]
      · rw [get_even _ _ _ hi hi2] at e
        simp only [beq_eq_false_iff_ne.2 hi, beq_eq_false_iff_ne.2 hi2, cond_false]
        rw [setF_get f r _ v (by omega) e]
theorem set_get (t : Tr α) {i : Nat} {v : α} (h : i < 65000) (e : t.get i = some v) : t.set i (some v) = t := setF_get 16 t i v (by omega) e
end Tr

section
variable {P : Program} {ty : Ty} {Γ : FuncId → Option SumX} {st : St} {R : Type} {k : St → Slot → Option R} {r : R} {o : Oper}

/-- What the operation yields hangs on its operands and on what is there. -/
def Calm (ty : Ty) (Γ : FuncId → Option SumX) (o : Oper) (st : St) (s : Slot) : Prop :=
  ∀ {st' : St}, st.Ext st' → (∀ t ∈ tmpsOf o.op.operands.toList, st'.env.get t = st.env.get t) → ∀ {R' : Type} {k' : St → Slot → Option R'} {r' : R'}, k' st' s = some r' → opK ty Γ o st' k' = some r'

theorem ev_same {st st' : St} {l : List Operand} (h : ∀ t ∈ tmpsOf l, st'.env.get t = st.env.get t) : ∀ x ∈ l, st'.ev x = st.ev x := by
  intro x hx
  cases x with
  | tmp t =>
    have : t ∈ tmpsOf l := by
      clear h
      induction l with
      | nil => simp at hx
      | cons y l ih =>
        rcases List.mem_cons.1 hx with rfl | hx
        · simp [tmpsOf]
        · have := ih hx
          cases y <;> simp [tmpsOf, this]
    simp only [St.ev, h t this]
  | _ => rfl
theorem map_ev_same {st st' : St} {l l' : List Operand} (h : ∀ x ∈ l, st'.ev x = st.ev x) (hs : ∀ x ∈ l', x ∈ l) : l'.map st'.ev = l'.map st.ev := List.map_congr_left fun x hx => h x (hs x hx)

theorem cont_ext {st st' : St} (hx : st.Ext st') {e : K} {l : Leaf} {v : List e.T} (h : st.cont e l = some v) : st'.cont e l = some v := by
  unfold St.cont at *
  cases l with
  | own id =>
    obtain ⟨a, h1, h2⟩ := Option.bind_eq_some_iff.1 h
    exact Option.bind_eq_some_iff.2 ⟨a, hx.arr _ _ h1, h2⟩
  | sub id o n =>
    obtain ⟨a, h1, h2⟩ := Option.bind_eq_some_iff.1 h
    exact Option.bind_eq_some_iff.2 ⟨a, hx.arr _ _ h1, h2⟩
  | _ => exact h
theorem leafsAt_ext {st st' : St} (hx : st.Ext st') {n : Nat} {s : Slot} {ls : List Leaf} (h : st.leafsAt n s = some ls) : st'.leafsAt n s = some ls := by
  unfold St.leafsAt at *
  split at h
  · obtain ⟨a, h1, h2⟩ := Option.map_eq_some_iff.1 h
    exact Option.map_eq_some_iff.2 ⟨a, hx.box _ _ h1, h2⟩
  · obtain ⟨a, h1, h2⟩ := Option.map_eq_some_iff.1 h
    exact Option.map_eq_some_iff.2 ⟨a, hx.arr _ _ h1, h2⟩
  · exact h
  · cases h

theorem lenK_calm {l : Leaf} {k' : Nat → Option R} (e : lenK st l k' = some r) : ∃ n, k' n = some r ∧ ∀ {st' : St}, st.Ext st' → ∀ {R' : Type} {k2 : Nat → Option R'} {r' : R'}, k2 n = some r' → lenK st' l k2 = some r' := by
  unfold lenK at e
  split at e
  · exact ⟨_, e, fun _ => id⟩
  · exact ⟨_, e, fun _ => id⟩
  · rename_i id
    split at e
    · rename_i a ha
      exact ⟨_, e, fun hx _ _ _ h2 => by simp only [lenK, hx.arr _ _ ha]; exact h2⟩
    · cases e
  · exact ⟨_, e, fun _ => id⟩
  · cases e

theorem binK_calm {bt : Bool} {op : BinOp} {x y : Leaf} {k' : Leaf → Option R} (e : binK bt op x y k' = some r) : ∃ l, k' l = some r ∧ ∀ {R' : Type} {k2 : Leaf → Option R'} {r' : R'}, k2 l = some r' → binK bt op x y k2 = some r' := by
  unfold binK at e
  split at e
  · rename_i kd p kd' q
    split at e
    · cases hq : decide (q < 0)
      · rw [hq] at e; exact ⟨_, e, fun h => by simp only [binK, hq]; exact h⟩
      · rw [hq] at e; cases e
    · cases hq : decide (q < 0)
      · rw [hq] at e; exact ⟨_, e, fun h => by simp only [binK, hq]; exact h⟩
      · rw [hq] at e; cases e
    · split at e
      · cases e
      · rename_i hkk
        split at e <;> first
          | (exact ⟨_, e, fun h => by simp only [binK, if_neg hkk]; exact h⟩)
          | (cases hq : (q == 0)
             · rw [hq] at e; exact ⟨_, e, fun h => by simp only [binK, if_neg hkk, hq]; exact h⟩
             · rw [hq] at e; cases e)
          | cases e
  · rename_i p q
    split at e
    · exact ⟨_, e, fun h => h⟩
    · exact ⟨_, e, fun h => h⟩
    · cases hq : decide (((p.size + q.size : Nat) : Int) > 9223372036854775807)
      · rw [hq] at e; exact ⟨_, e, fun h => by simp only [binK, hq]; exact h⟩
      · rw [hq] at e; cases e
    · cases e
  · rename_i p q
    split at e
    · cases bt
      · cases e
      · exact ⟨_, e, fun h => h⟩
    · cases bt
      · cases e
      · exact ⟨_, e, fun h => h⟩
    · cases e
  · cases e

theorem minK_calm {g : Int → Int → Int} {kd : IntKind} : ∀ {ss : List Slot} {p : Int} {k' : Leaf → Option R}, minK g kd p ss k' = some r → ∃ l, k' l = some r ∧ ∀ {R' : Type} {k2 : Leaf → Option R'} {r' : R'}, k2 l = some r' → minK g kd p ss k2 = some r'
  | [], p, k', e => ⟨_, e, fun h => h⟩
  | s :: ss, p, k', e => by
    unfold minK at e
    split at e
    · rename_i h; cases h
    · rename_i k2 q ls heq
      simp only [List.cons.injEq] at heq
      obtain ⟨rfl, rfl⟩ := heq
      split at e
      · rename_i hk
        obtain ⟨l, h1, h2⟩ := minK_calm e
        exact ⟨l, h1, fun h => by simp only [minK, if_pos hk]; exact h2 h⟩
      · cases e
    · cases e

theorem fill_same {fs : List (Nat × Nat × Bool)} {st st' : St} : ∀ {ps : List (Nat × Operand)} {ls : List Leaf}, (∀ x ∈ ps.map (·.2), st'.ev x = st.ev x) → fillLeafs fs st' ps ls = fillLeafs fs st ps ls
  | [], _, _ => rfl
  | (i, x) :: ps, ls, h => by
    have h1 := h x (by simp)
    simp only [fillLeafs, h1]
    cases fs[i]? with
    | none => rfl
    | some t => simp only; rw [fill_same (ps := ps) fun y hy => h y (by simp at hy ⊢; exact .inr hy)]

theorem bnd_same {st st' : St} {x : Option Operand} (h : ∀ y, x = some y → st'.ev y = st.ev y) : bnd st' x = bnd st x := by
  cases x with
  | none => rfl
  | some y => simp only [bnd, h y rfl]
end
end Go.Ev

namespace Go.Ev

section
variable {P : Program} {ty : Ty} {Γ : FuncId → Option SumX} {st : St} {R : Type} {k : St → Slot → Option R} {r : R} {o : Oper}

theorem calm_of {s : Slot} (h : ∀ {st' : St}, st.Ext st' → (∀ x ∈ o.op.operands.toList, st'.ev x = st.ev x) → ∀ {R' : Type} {k' : St → Slot → Option R'} {r' : R'}, k' st' s = some r' → opK ty Γ o st' k' = some r') : Calm ty Γ o st s :=
  fun hx hev _ _ _ h2 => h hx (ev_same hev) h2

theorem calm_op (hΓc : ∀ f x, Γ f = some x → x.calm = true → CalmSum x.g) (hc : calmOp Γ o = true) (e : opK ty Γ o st k = some r) : ∃ s, k st s = some r ∧ Calm ty Γ o st s := by
  obtain ⟨dst, op, type, pos, after, guard⟩ := o
  unfold calmOp at hc
  simp only at hc
  split at hc
  · -- binOp
    rename_i op t x y t2
    have hn : isNilC y = false := by simpa using hc
    simp only [opK, hn, cond_false] at e
    split at e
    · rename_i a b h1 h2
      obtain ⟨l, h3, h4⟩ := binK_calm e
      exact ⟨.lf l, h3, calm_of fun hx hev _ _ _ h5 => by simp only [opK, hn, cond_false]; rw [hev x (by simp [Op.operands]), hev y (by simp [Op.operands]), h1, h2]; exact h4 h5⟩
    · cases e
  · rename_i x
    exact ⟨st.ev x, e, calm_of fun hx hev _ _ _ h2 => by simp only [opK]; rw [hev x (by simp [Op.operands])]; exact h2⟩
  · rename_i x
    exact ⟨st.ev x, e, calm_of fun hx hev _ _ _ h2 => by simp only [opK]; rw [hev x (by simp [Op.operands])]; exact h2⟩
  · rename_i c x y
    simp only [opK] at e
    split at e
    · rename_i b hb
      cases b
      · exact ⟨st.ev y, e, calm_of fun hx hev _ _ _ h2 => by simp only [opK]; rw [hev c (by simp [Op.operands]), hb, hev y (by simp [Op.operands])]; exact h2⟩
      · exact ⟨st.ev x, e, calm_of fun hx hev _ _ _ h2 => by simp only [opK]; rw [hev c (by simp [Op.operands]), hb, hev x (by simp [Op.operands])]; exact h2⟩
    · cases e
  · -- load
    rename_i t x
    simp only [opK, loadK] at e
    split at e
    · rename_i ti hti
      split at e
      · rename_i ls hls
        cases hl : (ls.length == ti.size)
        · rw [hl] at e; cases e
        · rw [hl] at e
          simp only [cond_true] at e
          split at e
          · rename_i s hs
            exact ⟨s, e, calm_of fun hx hev _ _ _ h2 => by simp only [opK, loadK]; rw [hev x (by simp [Op.operands]), hti]; simp only [leafsAt_ext hx hls, hl, cond_true, hs]; exact h2⟩
          · cases e
      · cases e
    · cases e
  · -- nilCheck
    rename_i x
    simp only [opK] at e
    unfold nilCheckK at e
    split at e
    all_goals first
      | (rename_i heq; exact ⟨_, e, calm_of fun hx hev _ _ _ h2 => by simp only [opK]; rw [hev x (by simp [Op.operands]), heq]; exact h2⟩)
      | cases e
  · -- unOp
    rename_i op t x
    simp only [opK] at e
    unfold unOpK at e
    split at e
    · rename_i b heq
      exact ⟨_, e, calm_of fun hx hev _ _ _ h2 => by simp only [opK]; rw [hev x (by simp [Op.operands]), heq]; exact h2⟩
    · rename_i kd n heq
      exact ⟨_, e, calm_of fun hx hev _ _ _ h2 => by simp only [opK]; rw [hev x (by simp [Op.operands]), heq]; exact h2⟩
    · cases e
  · -- convert
    rename_i s t x
    simp only [opK] at e
    cases hs : (ty s).isSome
    · rw [hs] at e; cases e
    · rw [hs] at e
      simp only [cond_true] at e
      unfold convertK at e
      split at e
      · rename_i kd n _ _ _ _ _ _ h1 h2
        exact ⟨_, e, calm_of fun hx hev _ _ _ h3 => by simp only [opK, hs, cond_true]; rw [hev x (by simp [Op.operands])]; simp only [convertK, h1, h2]; exact h3⟩
      · cases e
  · -- fieldAddr
    rename_i t x f
    simp only [opK] at e
    unfold fieldAddrK at e
    split at e
    · rename_i hti
      split at e
      all_goals first
        | (rename_i h1 h2; exact ⟨_, e, calm_of fun hx hev _ _ _ h3 => by simp only [opK]; rw [hev x (by simp [Op.operands])]; simp only [fieldAddrK, hti, h1, h2]; exact h3⟩)
        | cases e
    · cases e
  · -- field
    rename_i t x f
    simp only [opK] at e
    unfold fieldK at e
    split at e
    · rename_i fs _ _ _ _ _ ls h1 h2
      split at e
      · rename_i off size agg hf
        cases hl : Nat.ble (off + size) ls.length
        · rw [hl] at e; cases e
        · rw [hl] at e
          simp only [cond_true] at e
          split at e
          · rename_i s hs
            exact ⟨s, e, calm_of fun hx hev _ _ _ h3 => by simp only [opK]; rw [hev x (by simp [Op.operands])]; simp only [fieldK, h1, h2, hf, hl, cond_true, hs]; exact h3⟩
          · cases e
      · cases e
    · cases e
  · -- indexAddr
    rename_i t x y
    simp only [opK] at e
    unfold indexAddrK at e
    split at e
    · rename_i el l b kd i h1 h2
      cases hz : (elemSz ty t == some el.sz)
      · rw [hz] at e; cases e
      · rw [hz] at e
        simp only [cond_true] at e
        cases hi : ib i l.length
        · rw [hi] at e; cases e
        · rw [hi] at e
          exact ⟨_, e, calm_of fun hx hev _ _ _ h3 => by simp only [opK]; rw [hev x (by simp [Op.operands]), hev y (by simp [Op.operands])]; simp only [indexAddrK, h1, h2, hz, cond_true, hi]; exact h3⟩
    · rename_i id kd i h1 h2
      split at e
      · rename_i a ha
        cases hz : (elemSz ty t == some a.e.sz)
        · rw [hz] at e; cases e
        · rw [hz] at e
          simp only [cond_true] at e
          cases hi : ib i a.l.length
          · rw [hi] at e; cases e
          · rw [hi] at e
            exact ⟨_, e, calm_of fun hx hev _ _ _ h3 => by simp only [opK]; rw [hev x (by simp [Op.operands]), hev y (by simp [Op.operands])]; simp only [indexAddrK, h1, h2, hx.arr _ _ ha, hz, cond_true, hi]; exact h3⟩
      · cases e
    · rename_i id off n kd i h1 h2
      split at e
      · rename_i a ha
        cases hz : (elemSz ty t == some a.e.sz)
        · rw [hz] at e; cases e
        · rw [hz] at e
          simp only [cond_true] at e
          cases hi : ib i n
          · rw [hi] at e; cases e
          · rw [hi] at e
            exact ⟨_, e, calm_of fun hx hev _ _ _ h3 => by simp only [opK]; rw [hev x (by simp [Op.operands]), hev y (by simp [Op.operands])]; simp only [indexAddrK, h1, h2, hx.arr _ _ ha, hz, cond_true, hi]; exact h3⟩
      · cases e
    · cases e
  · -- index
    rename_i t x y
    simp only [opK] at e
    unfold indexK at e
    split at e
    · rename_i s kd i h1 h2
      cases hz : isStr ty t
      · rw [hz] at e; cases e
      · rw [hz] at e
        simp only [cond_true] at e
        cases hi : ib i s.size
        · rw [hi] at e; cases e
        · rw [hi] at e
          exact ⟨_, e, calm_of fun hx hev _ _ _ h3 => by simp only [opK]; rw [hev x (by simp [Op.operands]), hev y (by simp [Op.operands])]; simp only [indexK, h1, h2, hz, cond_true, hi]; exact h3⟩
    · cases e
  · -- extract
    rename_i x i
    simp only [opK] at e
    unfold extractK at e
    split at e
    · rename_i vs h1
      split at e
      · rename_i agg ls h2
        split at e
        · rename_i s h3
          exact ⟨s, e, calm_of fun hx hev _ _ _ h4 => by simp only [opK]; rw [hev x (by simp [Op.operands])]; simp only [extractK, h1, h2, h3]; exact h4⟩
        · cases e
      · cases e
    · cases e
  · -- build
    rename_i t ps
    simp only [opK] at e
    unfold buildK at e
    split at e
    · rename_i fs _ _ _ zero _ hti
      split at e
      · rename_i ls hls
        exact ⟨_, e, calm_of fun hx hev _ _ _ h2 => by
          simp only [opK, buildK, hti]
          rw [fill_same fun y hy => hev y (by simpa [Op.operands] using hy)]
          simp only [hls]; exact h2⟩
      · cases e
    · cases e
  · -- slice
    rename_i t x lo hi
    simp only [opK] at e
    split at e
    · rename_i a b h1 h2
      have hb : ∀ st' : St, (∀ z ∈ (Op.slice t x lo hi none).operands.toList, st'.ev z = st.ev z) → bnd st' lo = some a ∧ bnd st' hi = some b ∧ st'.ev x = st.ev x := fun st' hev =>
        ⟨(bnd_same fun y hy => hev y (by simp [Op.operands, hy])).trans h1, (bnd_same fun y hy => hev y (by simp [Op.operands, hy])).trans h2, hev x (by simp [Op.operands])⟩
      unfold sliceK at e
      split at e
      · rename_i s h3
        cases hz : isStr ty t
        · rw [hz] at e; cases e
        · rw [hz] at e
          simp only [cond_true] at e
          cases hq : decide (0 ≤ a.getD 0 ∧ a.getD 0 ≤ b.getD s.size ∧ b.getD s.size ≤ s.size)
          · rw [hq] at e; cases e
          · rw [hq] at e
            exact ⟨_, e, calm_of fun {st2} hx hev _ _ _ h4 => by
              obtain ⟨q1, q2, q3⟩ := hb st2 hev
              simp only [opK, q1, q2]; rw [q3]; simp only [sliceK, h3, hz, cond_true, hq]; exact h4⟩
      · rename_i el l _ h3
        cases hz : (elemSz ty t == some el.sz)
        · rw [hz] at e; cases e
        · rw [hz] at e
          simp only [cond_true] at e
          cases hq : decide (0 ≤ a.getD 0 ∧ a.getD 0 ≤ b.getD l.length ∧ b.getD l.length ≤ l.length)
          · rw [hq] at e; cases e
          · rw [hq] at e
            exact ⟨_, e, calm_of fun {st2} hx hev _ _ _ h4 => by
              obtain ⟨q1, q2, q3⟩ := hb st2 hev
              simp only [opK, q1, q2]; rw [q3]; simp only [sliceK, h3, hz, cond_true, hq]; exact h4⟩
      · rename_i id h3
        split at e
        · rename_i r hr
          cases hz : (elemSz ty t == some r.e.sz)
          · rw [hz] at e; cases e
          · rw [hz] at e
            simp only [cond_true] at e
            cases hq : decide (0 ≤ a.getD 0 ∧ a.getD 0 ≤ b.getD r.l.length ∧ b.getD r.l.length ≤ r.l.length)
            · rw [hq] at e; cases e
            · rw [hq] at e
              exact ⟨_, e, calm_of fun {st2} hx hev _ _ _ h4 => by
                obtain ⟨q1, q2, q3⟩ := hb st2 hev
                simp only [opK, q1, q2]; rw [q3]; simp only [sliceK, h3, hx.arr _ _ hr, hz, cond_true, hq]; exact h4⟩
        · cases e
      · rename_i id off n h3
        split at e
        · rename_i r hr
          cases hz : (elemSz ty t == some r.e.sz)
          · rw [hz] at e; cases e
          · rw [hz] at e
            simp only [cond_true] at e
            cases hq : decide (0 ≤ a.getD 0 ∧ a.getD 0 ≤ b.getD n ∧ b.getD n ≤ n)
            · rw [hq] at e; cases e
            · rw [hq] at e
              exact ⟨_, e, calm_of fun {st2} hx hev _ _ _ h4 => by
                obtain ⟨q1, q2, q3⟩ := hb st2 hev
                simp only [opK, q1, q2]; rw [q3]; simp only [sliceK, h3, hx.arr _ _ hr, hz, cond_true, hq]; exact h4⟩
        · cases e
      · rename_i h3
        cases hz : (elemSz ty t).isSome
        · rw [hz] at e; cases e
        · rw [hz] at e
          simp only [cond_true] at e
          cases hq : decide (0 ≤ a.getD 0 ∧ a.getD 0 ≤ b.getD 0 ∧ b.getD 0 ≤ 0)
          · rw [hq] at e; cases e
          · rw [hq] at e
            exact ⟨_, e, calm_of fun {st2} hx hev _ _ _ h4 => by
              obtain ⟨q1, q2, q3⟩ := hb st2 hev
              simp only [opK, q1, q2]; rw [q3]; simp only [sliceK, h3, hz, cond_true, hq]; exact h4⟩
      · cases e
    · cases e
  · -- call
    rename_i c
    have hargs : ∀ {st' : St}, (∀ x ∈ (Op.call c).operands.toList, st'.ev x = st.ev x) → c.args.toList.map st'.ev = c.args.toList.map st.ev := fun hev =>
      List.map_congr_left fun x hx => hev x (by simp [Op.operands, Call.operands]; exact .inr (by simpa using hx))
    simp only [opK] at e
    unfold callK at e
    split at hc
    · rename_i f hcal
      split at hc
      · rename_i x hx
        rw [hcal] at e
        simp only [St.ev, hx] at e
        obtain ⟨s, h1, h2⟩ := hΓc f x hx hc e
        exact ⟨s, h1, calm_of fun hxt hev _ _ _ h3 => by
          simp only [opK, callK, hcal, St.ev, hx]
          have := hargs hev
          rw [this]
          exact h2 hxt h3⟩
      · cases hc
    · rename_i hcal
      rw [hcal] at e
      simp only at e
      split at e
      · rename_i x t h1 h2
        have hx' : ∀ {st' : St}, (∀ z ∈ (Op.call c).operands.toList, st'.ev z = st.ev z) → st'.ev x = st.ev x := fun hev => hev x (by simp [Op.operands, Call.operands]; exact .inr (by rw [← Array.mem_toList_iff, h1]; simp))
        split at e
        · rename_i s hs
          cases hst : isStr ty t
          · rw [hst] at e; cases e
          · rw [hst] at e
            exact ⟨_, e, calm_of fun hxt hev _ _ _ h3 => by simp only [opK, callK, hcal, h1, h2]; rw [hx' hev, hs]; simp only [hst, cond_true]; exact h3⟩
        · rename_i l hne hs
          cases hsz : (elemSz ty t).isSome
          · rw [hsz] at e; cases e
          · rw [hsz] at e
            obtain ⟨n, h4, h5⟩ := lenK_calm (k' := fun n => k st (.lf (.int .i64 n))) e
            refine ⟨_, h4, calm_of fun hxt hev _ _ _ h3 => ?_⟩
            simp only [opK, callK, hcal, h1, h2]
            rw [hx' hev, hs]
            cases l with
            | str s => exact absurd rfl (hne s)
            | _ => simp only [hsz, cond_true]; exact h5 hxt h3
        · cases e
      · cases e
    · rename_i hcal
      rw [hcal] at e
      simp only at e
      split at e
      · rename_i kd p ss hs
        obtain ⟨l, h4, h5⟩ := minK_calm e
        exact ⟨_, h4, calm_of fun hxt hev _ _ _ h3 => by
          simp only [opK, callK, hcal]
          have := hargs hev
          rw [this, hs]
          exact h5 h3⟩
      · cases e
    · rename_i hcal
      rw [hcal] at e
      simp only at e
      split at e
      · rename_i kd p ss hs
        obtain ⟨l, h4, h5⟩ := minK_calm e
        exact ⟨_, h4, calm_of fun hxt hev _ _ _ h3 => by
          simp only [opK, callK, hcal]
          have := hargs hev
          rw [this, hs]
          exact h5 h3⟩
      · cases e
    · rename_i hcal
      rw [hcal] at e
      simp only at e
      split at e
      · rename_i x t h1 h2
        have hx' : ∀ {st' : St}, (∀ z ∈ (Op.call c).operands.toList, st'.ev z = st.ev z) → st'.ev x = st.ev x := fun hev => hev x (by simp [Op.operands, Call.operands]; exact .inr (by rw [← Array.mem_toList_iff, h1]; simp))
        split at e
        · rename_i hs
          cases hst : (elemSz ty t).isSome
          · rw [hst] at e; cases e
          · rw [hst] at e
            exact ⟨_, e, calm_of fun hxt hev _ _ _ h3 => by simp only [opK, callK, hcal, h1, h2]; rw [hx' hev, hs]; simp only [hst, cond_true]; exact h3⟩
        · cases e
      · cases e
    · cases hc
  · cases hc
end
end Go.Ev

namespace Go.Ev

def St.Low (st : St) : Prop := ∀ t s, st.env.get t = some s → t < 65000

section
variable {P : Program} {ty : Ty} {Γ : FuncId → Option SumX} {st : St} {R : Type} {r : R} {o : Oper} {ops : Array Oper}

theorem St.Ext.refl (st : St) : st.Ext st := ⟨fun _ _ h => h, fun _ _ h => h⟩
theorem put_n (d : Option Tmp) (s : Slot) : (st.put d s).n = st.n := by unfold St.put; split <;> rfl
theorem put_box (d : Option Tmp) (s : Slot) : (st.put d s).box = st.box := by unfold St.put; split <;> rfl
theorem put_arr (d : Option Tmp) (s : Slot) : (st.put d s).arr = st.arr := by unfold St.put; split <;> rfl
theorem put_get {d : Option Tmp} {s : Slot} {t : Tmp} (h : ∀ x, d = some x → t ≠ x) : (st.put d s).env.get t = st.env.get t := by
  cases d with
  | none => rfl
  | some x => exact Tr.get_set_ne _ _ (h x rfl)
theorem Low.put {d : Option Tmp} {s : Slot} (hd : d.getD 0 < 65000) (h : st.Low) : (st.put d s).Low := by
  intro t u ht
  cases d with
  | none => exact h t u ht
  | some x =>
    by_cases e : t = x
    · subst e; exact hd
    · exact h t u (by rw [← ht]; exact (Tr.get_set_ne _ _ e).symm)
theorem Ext.put {st' : St} {d d' : Option Tmp} {s s' : Slot} (h : st.Ext st') : (st.put d s).Ext (st'.put d' s') := by
  refine ⟨fun b ls hb => ?_, fun i r hi => ?_⟩
  · rw [put_box] at hb ⊢; exact h.box b ls hb
  · rw [put_arr] at hi ⊢; exact h.arr i r hi
theorem Ext.unput {d : Option Tmp} {s : Slot} : (st.put d s).Ext st := ⟨fun b ls hb => by rw [put_box] at hb; exact hb, fun i r hi => by rw [put_arr] at hi; exact hi⟩

theorem setEnv_same {g : Nat} {s : Slot} (hl : st.Low) (h : st.env.get g = some s) : st.setEnv g s = st := by
  unfold St.setEnv
  rw [Tr.set_get _ (hl g s h) h]

theorem looks_tmps {t : Tmp} (h : t ∈ tmpsOf o.op.operands.toList) : t ∈ looks ops o := List.mem_append_left _ h
theorem looks_guard {j : Nat} {b : Bool} {g : Tmp} (hg : o.guard = some (j, b)) (hj : (ops[j]?).bind (·.dst) = some g) : g ∈ looks ops o := by
  unfold looks
  rw [hg]
  simp only [hj]
  exact List.mem_append_right _ (by simp)

theorem calm_oper (hΓc : ∀ f x, Γ f = some x → x.calm = true → CalmSum x.g) (hc : calmOp Γ o = true) (hl : st.Low) {K : St → Option R} (e : evOper ty Γ ops o st K = some r) :
    ∃ s, K (st.put o.dst s) = some r ∧ ∀ {st' : St}, st.Ext st' → st'.n = st.n → (∀ t ∈ looks ops o, st'.env.get t = st.env.get t) → st'.Low → ∀ {R' : Type} {K' : St → Option R'} {r' : R'}, K' (st'.put o.dst s) = some r' → evOper ty Γ ops o st' K' = some r' := by
  unfold evOper at e
  cases hd : Nat.blt (o.dst.getD 0) st.n
  · rw [hd] at e; cases e
  · rw [hd] at e
    simp only [cond_true] at e
    split at e
    · rename_i hg
      obtain ⟨s, h1, h2⟩ := calm_op hΓc hc e
      refine ⟨s, h1, fun {st'} hx hn hev hl' _ K' _ h3 => ?_⟩
      unfold evOper
      rw [hn, hd, hg]
      exact h2 hx (fun t ht => hev t (looks_tmps ht)) (k' := fun st s => putK st o.dst s K') h3
    · rename_i j b hg
      split at e
      · cases e
      · rename_i g hj
        split at e
        · rename_i x hx
          have fin : ∀ y : Bool, x = y → (y == b) = true → (opK ty Γ o (st.setEnv g (.lf (.bool y))) fun st s => putK st o.dst s K) = some r → ∃ s, K (st.put o.dst s) = some r ∧ ∀ {st' : St}, st.Ext st' → st'.n = st.n → (∀ t ∈ looks ops o, st'.env.get t = st.env.get t) → st'.Low → ∀ {R' : Type} {K' : St → Option R'} {r' : R'}, K' (st'.put o.dst s) = some r' → evOper ty Γ ops o st' K' = some r' := by
            intro y hxy hyb e
            subst hxy
            rw [setEnv_same hl hx] at e
            obtain ⟨s, h1, h2⟩ := calm_op hΓc hc e
            refine ⟨s, h1, fun {st'} hxt hn hev hl' _ K' _ h3 => ?_⟩
            have hx' : st'.env.get g = some (.lf (.bool x)) := (hev g (looks_guard hg hj)).trans hx
            have h4 := h2 hxt (fun t ht => hev t (looks_tmps ht)) (k' := fun st s => putK st o.dst s K') h3
            unfold evOper
            rw [hn, hd, hg]
            simp only [cond_true, hj, hx']
            rw [← setEnv_same hl' hx'] at h4
            cases x <;> cases b <;> first | exact h4 | cases hyb
          have fin2 : ∀ y : Bool, x = y → (y == b) = false → putK (st.setEnv g (.lf (.bool y))) o.dst (.tp []) K = some r → ∃ s, K (st.put o.dst s) = some r ∧ ∀ {st' : St}, st.Ext st' → st'.n = st.n → (∀ t ∈ looks ops o, st'.env.get t = st.env.get t) → st'.Low → ∀ {R' : Type} {K' : St → Option R'} {r' : R'}, K' (st'.put o.dst s) = some r' → evOper ty Γ ops o st' K' = some r' := by
            intro y hxy hyb e
            subst hxy
            rw [setEnv_same hl hx] at e
            refine ⟨.tp [], e, fun {st'} hxt hn hev hl' _ K' _ h3 => ?_⟩
            have hx' : st'.env.get g = some (.lf (.bool x)) := (hev g (looks_guard hg hj)).trans hx
            unfold evOper
            rw [hn, hd, hg]
            simp only [cond_true, hj, hx']
            have h4 : putK st' o.dst (.tp []) K' = _ := h3
            rw [← setEnv_same hl' hx'] at h4
            cases x <;> cases b <;> first | exact h4 | cases hyb
          cases x <;> cases b <;> simp only [cond_true, cond_false] at e
          · exact fin false rfl rfl e
          · exact fin2 false rfl rfl e
          · exact fin2 true rfl rfl e
          · exact fin true rfl rfl e
        · rename_i hx
          refine ⟨.tp [], e, fun {st'} hxt hn hev hl' _ K' _ h3 => ?_⟩
          have hx' : st'.env.get g = some (.tp []) := (hev g (looks_guard hg hj)).trans hx
          unfold evOper
          rw [hn, hd, hg]
          simp only [cond_true, hj, hx']
          exact h3
        · cases e

theorem addL_ne {α : Type} : ∀ {l : List (Nat × α)} {t : Tr α} {i : Nat}, (∀ p ∈ l, p.1 ≠ i) → (addL l t).get i = t.get i
  | [], _, _, _ => rfl
  | p :: l, t, i, h => by
    simp only [addL]
    rw [Tr.get_set_ne _ _ (Ne.symm (h p (by simp)))]
    exact addL_ne fun q hq => h q (by simp [hq])
theorem addL_comm1 {α : Type} {i : Nat} {v : α} : ∀ {l : List (Nat × α)} {t : Tr α}, (∀ p ∈ l, p.1 ≠ i) → addL l (t.set i (some v)) = (addL l t).set i (some v)
  | [], _, _ => rfl
  | p :: l, t, h => by
    simp only [addL]
    rw [addL_comm1 fun q hq => h q (by simp [hq]), Tr.set_comm _ _ _ (h p (by simp))]
theorem addL_comm {α : Type} : ∀ {l l' : List (Nat × α)} {t : Tr α}, (∀ p ∈ l, ∀ q ∈ l', p.1 ≠ q.1) → addL l (addL l' t) = addL l' (addL l t)
  | l, [], t, _ => rfl
  | l, q :: l', t, h => by
    simp only [addL]
    rw [addL_comm1 fun p hp => h p hp q (by simp), addL_comm fun p hp q' hq' => h p hp q' (by simp [hq'])]
theorem Ext.add {nb : List (Nat × List Leaf)} {na : List (Nat × Arr)} (h : Abs st nb na) : st.Ext (st.add nb na) := by
  refine ⟨fun b ls hb => ?_, fun i r hi => ?_⟩
  · show (addL nb st.box).get b = _
    rw [addL_ne fun p hp hc => by rw [← hc, h.b p hp] at hb; cases hb]; exact hb
  · show (addL na st.arr).get i = _
    rw [addL_ne fun p hp hc => by rw [← hc, h.a p hp] at hi; cases hi]; exact hi
theorem Ext.trans {a b c : St} (h : a.Ext b) (k : b.Ext c) : a.Ext c := ⟨fun i r hi => k.box i r (h.box i r hi), fun i r hi => k.arr i r (h.arr i r hi)⟩
theorem add_put {nb : List (Nat × List Leaf)} {na : List (Nat × Arr)} {d : Option Tmp} {s : Slot} : (st.put d s).add nb na = (st.add nb na).put d s := by cases d <;> rfl

/-- A new box, a new array. -/
theorem fresh_op {k : St → Slot → Option R} (hΓf : ∀ f x, Γ f = some x → x.fresh = true → FreshSum x.g) (hf : freshOp Γ o = true) (hd16 : o.dst.getD 0 < 16000) (e : opK ty Γ o st k = some r) :
    ∃ nb na s, Abs st nb na ∧ k (st.add nb na) s = some r ∧ ∀ {st' : St}, (allocOp o = true ∨ st.Ext st') → Abs st' nb na → (∀ t ∈ tmpsOf o.op.operands.toList, st'.env.get t = st.env.get t) → ∀ {R' : Type} {k' : St → Slot → Option R'} {r' : R'}, k' (st'.add nb na) s = some r' → opK ty Γ o st' k' = some r' := by
  have hsame : ∀ {st' : St}, (∀ t ∈ tmpsOf o.op.operands.toList, st'.env.get t = st.env.get t) → ∀ x ∈ o.op.operands.toList, st'.ev x = st.ev x := fun {st'} h => ev_same (st' := st') h
  obtain ⟨dst, op, type, pos, after, guard⟩ := o
  unfold freshOp at hf
  simp only at hf
  split at hf
  · rename_i t
    simp only [opK, allocK] at e
    split at e
    · rename_i ti hti hb
      refine ⟨[(dst.getD 0, ti.zero)], [], _, ⟨fun p hp => by simp at hp; subst hp; exact hb, fun p hp => by simp at hp, fun p hp => by simp at hp; subst hp; show dst.getD 0 < 65000; exact Nat.lt_of_lt_of_le hd16 (by decide), fun p hp => by simp at hp⟩, e, fun {st'} _ hab hev _ _ _ h2 => ?_⟩
      have hb' := hab.b _ (List.mem_cons_self ..)
      simp only at hb'
      simp only [opK, allocK, hti, hb']; exact h2
    · cases e
  · rename_i t x
    simp only [opK, boxK] at e
    split at e
    · rename_i l hb hs
      refine ⟨[(dst.getD 0, [l])], [], _, ⟨fun p hp => by simp at hp; subst hp; exact hb, fun p hp => by simp at hp, fun p hp => by simp at hp; subst hp; show dst.getD 0 < 65000; exact Nat.lt_of_lt_of_le hd16 (by decide), fun p hp => by simp at hp⟩, e, fun {st'} _ hab hev _ _ _ h2 => ?_⟩
      have hb' := hab.b _ (List.mem_cons_self ..)
      simp only at hb'
      simp only [opK, boxK]; rw [hsame hev x (by simp [Op.operands])]; simp only [hb', hs]; exact h2
    · rename_i l hb hs
      refine ⟨[(dst.getD 0, l)], [], _, ⟨fun p hp => by simp at hp; subst hp; exact hb, fun p hp => by simp at hp, fun p hp => by simp at hp; subst hp; show dst.getD 0 < 65000; exact Nat.lt_of_lt_of_le hd16 (by decide), fun p hp => by simp at hp⟩, e, fun {st'} _ hab hev _ _ _ h2 => ?_⟩
      have hb' := hab.b _ (List.mem_cons_self ..)
      simp only at hb'
      simp only [opK, boxK]; rw [hsame hev x (by simp [Op.operands])]; simp only [hb', hs]; exact h2
    · cases e
  · rename_i t x y
    simp only [opK] at e
    unfold makeSliceK at e
    split at e
    · rename_i et _ _ _ _ _ kl n kc m hti h1 h2
      split at e
      · rename_i _ _ _ bytes _ el hte
        split at e
        · cases e
        · rename_i hb
          cases hc : decide (0 ≤ n ∧ n ≤ m)
          · rw [hc] at e; cases e
          · rw [hc] at e
            simp only [cond_true] at e
            cases hrm : room m.toNat bytes
            · rw [hrm] at e; cases e
            · rw [hrm] at e
              simp only [cond_true] at e
              refine ⟨[], [(dst.getD 0 * 4, ⟨el, List.replicate n.toNat el.zero, true⟩)], _, ⟨fun p hp => by simp at hp, fun p hp => by simp at hp; subst hp; exact hb, fun p hp => by simp at hp, fun p hp => by simp at hp; subst hp; show dst.getD 0 * 4 < 65000; exact Nat.lt_of_lt_of_le (Nat.mul_lt_mul_of_pos_right hd16 (by decide : 0 < 4)) (by decide)⟩, e, fun {st'} _ hab hev _ _ _ h3 => ?_⟩
              have hb' := hab.a _ (List.mem_cons_self ..)
              simp only at hb'
              simp only [opK]; rw [hsame hev x (by simp [Op.operands]), hsame hev y (by simp [Op.operands])]
              simp only [makeSliceK, hti, h1, h2, hte, hb', hc, hrm, cond_true]; exact h3
      · cases e
    · cases e
  · rename_i c
    split at hf
    · rename_i f hcal
      split at hf
      · rename_i x hx
        simp only [opK, callK, hcal, St.ev, hx] at e
        obtain ⟨nb, na, s, h1, h2, h3⟩ := hΓf f x hx hf e
        refine ⟨nb, na, s, h1, h2, fun {st'} hor hab hev R' k' r' h4 => ?_⟩
        have hext : st.Ext st' := by
          rcases hor with hor | hor
          · simp [allocOp] at hor
          · exact hor
        have hargs : c.args.toList.map st'.ev = c.args.toList.map st.ev := map_ev_same (hsame hev) fun y hy => by
          simp only [Op.operands, Call.operands, hcal]
          simp [hy]
        simp only [opK, callK, hcal, St.ev, hx]
        have h5 := h3 hext hab h4
        rw [← hargs] at h5
        exact h5
      · cases hf
    · cases hf
  · cases hf

theorem fresh_oper (hΓf : ∀ f x, Γ f = some x → x.fresh = true → FreshSum x.g) (hf : freshOp Γ o = true) (hd16 : o.dst.getD 0 < 16000) (hl : st.Low) {K : St → Option R} (e : evOper ty Γ ops o st K = some r) :
    ∃ nb na s, Abs st nb na ∧ K ((st.add nb na).put o.dst s) = some r ∧ ∀ {st' : St}, (allocOp o = true ∨ st.Ext st') → st'.n = st.n → Abs st' nb na → (∀ t ∈ looks ops o, st'.env.get t = st.env.get t) → st'.Low → ∀ {R' : Type} {K' : St → Option R'} {r' : R'}, K' ((st'.add nb na).put o.dst s) = some r' → evOper ty Γ ops o st' K' = some r' := by
  unfold evOper at e
  cases hd : Nat.blt (o.dst.getD 0) st.n
  · rw [hd] at e; cases e
  · rw [hd] at e
    simp only [cond_true] at e
    split at e
    · rename_i hg
      obtain ⟨nb, na, s, h0, h1, h2⟩ := fresh_op hΓf hf hd16 e
      refine ⟨nb, na, s, h0, h1, fun {st'} hor hn hab hev hl' _ K' _ h3 => ?_⟩
      unfold evOper
      rw [hn, hd, hg]
      exact h2 hor hab (fun t ht => hev t (looks_tmps ht)) (k' := fun st s => putK st o.dst s K') h3
    · rename_i j b hg
      split at e
      · cases e
      · rename_i g hj
        split at e
        · rename_i x hx
          have fin : ∀ y : Bool, x = y → (y == b) = true → (opK ty Γ o (st.setEnv g (.lf (.bool y))) fun st s => putK st o.dst s K) = some r → ∃ nb na s, Abs st nb na ∧ K ((st.add nb na).put o.dst s) = some r ∧ ∀ {st' : St}, (allocOp o = true ∨ st.Ext st') → st'.n = st.n → Abs st' nb na → (∀ t ∈ looks ops o, st'.env.get t = st.env.get t) → st'.Low → ∀ {R' : Type} {K' : St → Option R'} {r' : R'}, K' ((st'.add nb na).put o.dst s) = some r' → evOper ty Γ ops o st' K' = some r' := by
            intro y hxy hyb e
            subst hxy
            rw [setEnv_same hl hx] at e
            obtain ⟨nb, na, s, h0, h1, h2⟩ := fresh_op hΓf hf hd16 e
            refine ⟨nb, na, s, h0, h1, fun {st'} hor hn hab hev hl' _ K' _ h3 => ?_⟩
            have hx' : st'.env.get g = some (.lf (.bool x)) := (hev g (looks_guard hg hj)).trans hx
            have h4 := h2 hor hab (fun t ht => hev t (looks_tmps ht)) (k' := fun st s => putK st o.dst s K') h3
            unfold evOper
            rw [hn, hd, hg]
            simp only [cond_true, hj, hx']
            rw [← setEnv_same hl' hx'] at h4
            cases x <;> cases b <;> first | exact h4 | cases hyb
          have fin2 : ∀ y : Bool, x = y → (y == b) = false → putK (st.setEnv g (.lf (.bool y))) o.dst (.tp []) K = some r → ∃ nb na s, Abs st nb na ∧ K ((st.add nb na).put o.dst s) = some r ∧ ∀ {st' : St}, (allocOp o = true ∨ st.Ext st') → st'.n = st.n → Abs st' nb na → (∀ t ∈ looks ops o, st'.env.get t = st.env.get t) → st'.Low → ∀ {R' : Type} {K' : St → Option R'} {r' : R'}, K' ((st'.add nb na).put o.dst s) = some r' → evOper ty Γ ops o st' K' = some r' := by
            intro y hxy hyb e
            subst hxy
            rw [setEnv_same hl hx] at e
            refine ⟨[], [], .tp [], ⟨fun p hp => by simp at hp, fun p hp => by simp at hp, fun p hp => by simp at hp, fun p hp => by simp at hp⟩, e, fun {st'} hor hn hab hev hl' _ K' _ h3 => ?_⟩
            have hx' : st'.env.get g = some (.lf (.bool x)) := (hev g (looks_guard hg hj)).trans hx
            unfold evOper
            rw [hn, hd, hg]
            simp only [cond_true, hj, hx']
            have h4 : putK st' o.dst (.tp []) K' = _ := h3
            rw [← setEnv_same hl' hx'] at h4
            cases x <;> cases b <;> first | exact h4 | cases hyb
          cases x <;> cases b <;> simp only [cond_true, cond_false] at e
          · exact fin false rfl rfl e
          · exact fin2 false rfl rfl e
          · exact fin2 true rfl rfl e
          · exact fin true rfl rfl e
        · rename_i hx
          refine ⟨[], [], .tp [], ⟨fun p hp => by simp at hp, fun p hp => by simp at hp, fun p hp => by simp at hp, fun p hp => by simp at hp⟩, e, fun {st'} hor hn hab hev hl' _ K' _ h3 => ?_⟩
          have hx' : st'.env.get g = some (.tp []) := (hev g (looks_guard hg hj)).trans hx
          unfold evOper
          rw [hn, hd, hg]
          simp only [cond_true, hj, hx']
          exact h3
        · cases e

theorem apartD_spec {x : Option Tmp} {l : List Tmp} (h : apartD x l = true) : ∀ t ∈ l, ∀ d, x = some d → t ≠ d := by
  intro t ht d hd e
  subst hd; subst e
  simp only [apartD, Bool.not_eq_true', List.any_eq_false] at h
  exact h t ht (by simp)

theorem put_comm {x y : Option Tmp} {s u : Slot} (h : ∀ d, x = some d → y ≠ some d) : (st.put x s).put y u = (st.put y u).put x s := by
  cases x with
  | none => cases y <;> rfl
  | some d =>
    cases y with
    | none => rfl
    | some e =>
      have hne : d ≠ e := fun he => h d rfl (he ▸ rfl)
      simp only [St.put]
      rw [Tr.set_comm _ _ _ hne]

theorem freeze_put {d : Tmp} {s : Slot} {id : Nat} {a : Arr} : (st.put (some d) s).freeze id a = (st.freeze id a).put (some d) (s.freeze id a) := by
  simp only [St.freeze, St.put, Tr.set_map, Option.bind_some]
theorem constSlot_freeze {v : Value} {id : Nat} {a : Arr} : (constSlot v).freeze id a = constSlot v := by
  have hl : ∀ v : Value, (constLeaf v).freeze id a = constLeaf v := fun v => by
    unfold constLeaf
    split <;> rfl
  have hm : ∀ vs : List Value, (vs.map constLeaf).map (Leaf.freeze id a) = vs.map constLeaf := fun vs => by
    rw [List.map_map]; exact List.map_congr_left fun v _ => hl v
  unfold constSlot
  split
  · rename_i cs
    cases (cs.toList.all fun x => x.oneCell')
    · rfl
    · show Slot.ag ((cs.toList.map constLeaf).map (Leaf.freeze id a)) = Slot.ag (cs.toList.map constLeaf)
      rw [hm]
  · rename_i vs
    first
    | rfl
    | (cases (vs.toList.all fun x => x.oneCell') <;> rfl)
  · show Slot.lf ((constLeaf v).freeze id a) = _
    rw [hl]
theorem ev_freeze {y : Operand} {id : Nat} {a : Arr} : (st.freeze id a).ev y = (st.ev y).freeze id a := by
  cases y with
  | tmp t =>
    show ((st.env.map fun s => some (s.freeze id a)).get t).getD .dead = ((st.env.get t).getD .dead).freeze id a
    rw [Tr.get_map]
    cases st.env.get t <;> rfl
  | const v => exact constSlot_freeze.symm
  | func f => rfl
  | global g => rfl
theorem packN_put {d : Tmp} {y : Operand} : ∀ (n : Nat) (st : St) (ls : List Leaf), packN n (st.put (some d) (st.ev y)) ls = ((packN n st ls).1.put (some d) ((packN n st ls).1.ev y), (packN n st ls).2)
  | 0, _, _ => rfl
  | n + 1, st, [] => rfl
  | n + 1, st, l :: ls => by
    have ih := packN_put (d := d) (y := y) n
    have ha : (st.put (some d) (st.ev y)).arr = st.arr := rfl
    unfold packN
    cases l <;> simp only [ha, ih]
    · rename_i id
      cases st.arr.get id with
      | none => simp only [ih]
      | some a => simp only [freeze_put, ← ev_freeze, ih]
    · rename_i id o k
      cases st.arr.get id with
      | none => simp only [ih]
      | some a => simp only [freeze_put, ← ev_freeze, ih]
theorem packN_n : ∀ (n : Nat) (st : St) (ls : List Leaf), (packN n st ls).1.n = st.n
  | 0, _, _ => rfl
  | n + 1, st, [] => rfl
  | n + 1, st, l :: ls => by
    have ih := packN_n n
    unfold packN
    cases l <;> simp only [ih]
    · rename_i id
      cases st.arr.get id with
      | none => exact ih _ _
      | some a => exact ih _ _
    · rename_i id o k
      cases st.arr.get id with
      | none => exact ih _ _
      | some a => exact ih _ _
theorem partsOf_put {d : Tmp} {y : Operand} {e : K} : ∀ (ps : List (Nat × Operand)) (st : St) (j : Nat), (∀ p ∈ ps, ∀ (st' : St) (s : Slot), (st'.put (some d) s).ev p.2 = st'.ev p.2) →
      partsOf (st.put (some d) (st.ev y)) e ps j = (partsOf st e ps j).map fun r => (r.1.put (some d) (r.1.ev y), r.2)
  | [], _, _, _ => rfl
  | (i, x) :: ps, st, j, h2 => by
    unfold partsOf
    cases (i == j)
    · rfl
    · simp only [cond_true, h2 (i, x) (by simp), pack, packN_put]
      generalize packN (st.ev x).leafs.length st (st.ev x).leafs = q
      cases e.rd q.2.1 with
      | none => rfl
      | some y' =>
        simp only [partsOf_put ps q.1 (j + 1) (fun p hp => h2 p (by simp [hp]))]
        cases partsOf q.1 e ps (j + 1) <;> rfl
theorem partsOf_n {e : K} : ∀ (ps : List (Nat × Operand)) (st : St) (j : Nat) (r : St × List e.T × Bool), partsOf st e ps j = some r → r.1.n = st.n
  | [], _, _, _, h => by cases h; rfl
  | (i, x) :: ps, st, j, r, h => by
    unfold partsOf at h
    cases hb : (i == j)
    · rw [hb] at h; cases h
    · rw [hb] at h
      simp only [cond_true] at h
      have hn : (pack st (st.ev x).leafs).1.n = st.n := packN_n _ _ _
      generalize pack st (st.ev x).leafs = q at h hn
      split at h
      · split at h
        · rename_i hp
          cases h
          exact (partsOf_n ps _ _ _ hp).trans hn
        · cases h
      · cases h
theorem buildSliceK_put {d : Tmp} {y : Operand} {d' : Nat} {t : TypeId} {n : Nat} {ps : List (Nat × Operand)} (h2 : ∀ p ∈ ps, ∀ (st' : St) (s : Slot), (st'.put (some d) s).ev p.2 = st'.ev p.2) {k k' : St → Slot → Option R}
    (hk : ∀ st' u, st'.n = st.n → k (st'.put (some d) (st'.ev y)) u = some r → k' st' u = some r) (e : buildSliceK ty d' t n ps (st.put (some d) (st.ev y)) k = some r) : buildSliceK ty d' t n ps st k' = some r := by
  unfold buildSliceK at e ⊢
  split at e
  · split at e
    · rename_i el he
      cases hb : (ps.length == n && Nat.ble (n * el.sz) 16777216)
      · rw [hb] at e; cases e
      · rw [hb] at e
        simp only [cond_true] at e ⊢
        rw [partsOf_put ps st 0 h2] at e
        cases hp : partsOf st el ps 0 with
        | none => rw [hp] at e; cases e
        | some q =>
          obtain ⟨st', l, dp⟩ := q
          rw [hp] at e
          simp only [Option.map_some] at e ⊢
          have ha : (st'.put (some d) (st'.ev y)).arr = st'.arr := rfl
          rw [ha] at e
          split at e
          · cases e
          · exact hk _ _ (partsOf_n _ _ _ _ hp) e
    · cases e
  · cases e
theorem cont_put1 {d : Tmp} {s : Slot} {e : K} {x : Leaf} : (st.put (some d) s).cont e x = st.cont e x := by cases x <;> rfl
theorem copyK_put {d : Tmp} {y : Operand} {t : TypeId} {s x : Leaf} {k k' : St → Leaf → Option R}
    (hk : ∀ st' u, st'.n = st.n → k (st'.put (some d) (st'.ev y)) u = some r → k' st' u = some r) (e : copyK ty (st.put (some d) (st.ev y)) t s x k = some r) : copyK ty st t s x k' = some r := by
  have hn : ∀ (id : Nat) (a : Arr), (st.put (some d) (st.ev y)).newArr id a = (st.newArr id a).put (some d) ((st.newArr id a).ev y) := fun id a => by cases y <;> rfl
  have ha : (st.put (some d) (st.ev y)).arr = st.arr := rfl
  unfold copyK at e ⊢
  split at e
  · rename_i id
    rw [ha] at e
    split at e
    · rename_i rr hr
      cases hc : (rr.e.flat && elemSz ty t == some rr.e.sz)
      · rw [hc] at e; cases e
      · rw [hc] at e
        simp only [cond_true] at e ⊢
        rw [cont_put1] at e
        split at e
        · rename_i xs hxs
          rw [hn] at e
          exact hk _ _ rfl e
        · cases e
    · cases e
  · rename_i id o n
    rw [ha] at e
    split at e
    · rename_i rr hr
      cases hc : (rr.e.flat && elemSz ty t == some rr.e.sz)
      · rw [hc] at e; cases e
      · rw [hc] at e
        simp only [cond_true] at e ⊢
        rw [cont_put1] at e
        split at e
        · rename_i xs hxs
          rw [hn] at e
          exact hk _ _ rfl e
        · cases e
    · cases e
  · cases e
theorem const_build {x y : Oper} (hx : constOp x = true) (hy : buildOp y = true) (a1 : ∀ t ∈ looks ops y ++ y.dst.toList, ∀ d, x.dst = some d → t ≠ d) (a2 : ∀ t ∈ looks ops x, ∀ d, y.dst = some d → t ≠ d) {K : St → Option R}
    (e : evOper ty Γ ops x st (fun st => evOper ty Γ ops y st K) = some r) : evOper ty Γ ops y st (fun st => evOper ty Γ ops x st K) = some r := by
  obtain ⟨xd, xo, xt, xp, xa, xg⟩ := x
  obtain ⟨yd, yo, yt, yp, ya, yg⟩ := y
  unfold constOp at hx
  unfold buildOp at hy
  dsimp only at hx hy
  split at hx
  · rename_i yo0 d0 yo d
    split at hy
    · rename_i t n ps
      simp only [evOper] at e
      cases hdx : Nat.blt ((some d : Option Tmp).getD 0) st.n
      · rw [hdx] at e; cases e
      · rw [hdx] at e
        simp only [cond_true, opK, putK] at e
        rw [put_n] at e
        simp only [evOper]
        cases hdy : Nat.blt (yd.getD 0) st.n
        · rw [hdy] at e; cases e
        · rw [hdy] at e
          simp only [cond_true, opK, putK] at e ⊢
          have hap : ∀ t ∈ tmpsOf (Op.buildSlice t n ps).operands.toList, t ≠ d := fun t ht => a1 t (List.mem_append_left _ (List.mem_append_left _ ht)) d rfl
          have hne : yd ≠ some d := fun h => a1 d (List.mem_append_right _ (by rw [h]; simp)) d rfl rfl
          refine buildSliceK_put (y := yo) (fun p hp st' s => ?_) (fun st' u hn hk => ?_) e
          · exact ev_same (l := (Op.buildSlice t n ps).operands.toList) (st := st') (st' := st'.put (some d) _) (fun t ht => put_get fun x hx => by cases hx; exact hap t ht) p.2 (by simp [Op.operands]; exact ⟨p.1, by simpa using hp⟩)
          · rw [put_n, hn, hdx]
            simp only [cond_true]
            have hev : (st'.put yd u).ev yo = st'.ev yo := ev_same (l := (Op.move yo).operands.toList) (st := st') (st' := st'.put yd u) (fun t ht => put_get fun x hx => a2 t (List.mem_append_left _ ht) x hx) yo (by simp [Op.operands])
            rw [hev, ← put_comm (x := some d) (y := yd) (fun x hx => by cases hx; exact hne)]
            exact hk
    · rename_i c
      split at hy
      · rename_i hcal
        simp only [evOper] at e
        cases hdx : Nat.blt ((some d : Option Tmp).getD 0) st.n
        · rw [hdx] at e; cases e
        · rw [hdx] at e
          simp only [cond_true, opK, putK] at e
          rw [put_n] at e
          simp only [evOper]
          cases hdy : Nat.blt (yd.getD 0) st.n
          · rw [hdy] at e; cases e
          · rw [hdy] at e
            simp only [cond_true, opK, putK, callK, hcal] at e ⊢
            have hap : ∀ t ∈ tmpsOf (Op.call c).operands.toList, t ≠ d := fun t ht => a1 t (List.mem_append_left _ (List.mem_append_left _ ht)) d rfl
            have hne : yd ≠ some d := fun h => a1 d (List.mem_append_right _ (by rw [h]; simp)) d rfl rfl
            have hargs : c.args.toList.map (st.put (some d) (st.ev yo)).ev = c.args.toList.map st.ev := List.map_congr_left fun p hp =>
              ev_same (l := (Op.call c).operands.toList) (st := st) (st' := st.put (some d) _) (fun t ht => put_get fun x hx => by cases hx; exact hap t ht) p (by simp [Op.operands, Call.operands]; exact .inr (by simpa using hp))
            rw [hargs] at e
            split at e
            · rename_i s x t t' h1 h2
              refine copyK_put (y := yo) (fun st' u hn hk => ?_) e
              rw [put_n, hn, hdx]
              simp only [cond_true]
              have hev : (st'.put yd (.lf u)).ev yo = st'.ev yo := ev_same (l := (Op.move yo).operands.toList) (st := st') (st' := st'.put yd (.lf u)) (fun t ht => put_get fun x hx => a2 t (List.mem_append_left _ ht) x hx) yo (by simp [Op.operands])
              rw [hev, ← put_comm (x := some d) (y := yd) (fun x hx => by cases hx; exact hne)]
              exact hk
            · cases e
      · cases hy
    · cases hy
  · cases hx

theorem swapOk_first {x y : Oper} (hs : swapOk Γ ops x y = true) : calmOp Γ x = true ∨ freshOp Γ x = true := by
  unfold swapOk at hs
  simp only [Bool.and_eq_true, Bool.or_eq_true] at hs
  rcases hs.1 with (h | h) | h
  · exact .inl h.1
  · exact .inr h.1
  · refine .inl ?_
    have := h.1
    unfold constOp at this
    unfold calmOp
    split at this
    · rename_i h1 _ _; rw [h1]
    · cases this
theorem swapOk_lt {x y : Oper} (hs : swapOk Γ ops x y = true) : x.dst.getD 0 < 65000 := by
  unfold swapOk at hs
  simp only [Bool.and_eq_true] at hs
  exact Nat.lt_of_lt_of_le (Nat.le_of_ble_eq_true hs.2.2.2.1 : x.dst.getD 0 < 16000) (by decide)
theorem Low.add {nb : List (Nat × List Leaf)} {na : List (Nat × Arr)} (h : st.Low) : (st.add nb na).Low := h

/-- TWO NEIGHBOURS CHANGE PLACES. -/
theorem swap_ok (hΓc : ∀ f x, Γ f = some x → x.calm = true → CalmSum x.g) (hΓf : ∀ f x, Γ f = some x → x.fresh = true → FreshSum x.g) {x y : Oper} (hs : swapOk Γ ops x y = true) (hl : st.Low) {K : St → Option R}
    (e : evOper ty Γ ops x st (fun st => evOper ty Γ ops y st K) = some r) : evOper ty Γ ops y st (fun st => evOper ty Γ ops x st K) = some r := by
  unfold swapOk at hs
  simp only [Bool.and_eq_true, Bool.or_eq_true] at hs
  obtain ⟨h12, h3, h4, h5, h6⟩ := hs
  have hx16 : x.dst.getD 0 < 16000 := Nat.le_of_ble_eq_true h5
  have hy16 : y.dst.getD 0 < 16000 := Nat.le_of_ble_eq_true h6
  have hx65 : x.dst.getD 0 < 65000 := Nat.lt_of_lt_of_le hx16 (by decide)
  have hy65 : y.dst.getD 0 < 65000 := Nat.lt_of_lt_of_le hy16 (by decide)
  have a1 := apartD_spec h3
  have a2 := apartD_spec h4
  have hne : ∀ d, x.dst = some d → y.dst ≠ some d := fun d hd hy => a1 d (List.mem_append_right _ (by rw [hy]; simp)) d hd rfl
  rcases h12 with (⟨h1, h2⟩ | ⟨h1, h2⟩) | ⟨h1, h2⟩
  · obtain ⟨s, k1, k2⟩ := calm_oper hΓc h1 hl e
    have hl1 := Low.put (s := s) hx65 hl
    have ly : ∀ t ∈ looks ops y, (st.put x.dst s).env.get t = st.env.get t := fun t ht => put_get fun d hd => a1 t (List.mem_append_left _ ht) d hd
    rcases h2 with h2 | h2
    · obtain ⟨u, k3, k4⟩ := calm_oper hΓc h2 hl1 k1
      refine k4 Ext.unput (put_n _ _).symm (fun t ht => (ly t ht).symm) hl ?_
      refine k2 (Ext.put (d := none) (s := s) (St.Ext.refl st)) (put_n _ _) (fun t ht => put_get fun d hd => a2 t ht d hd) (Low.put hy65 hl) ?_
      rw [← put_comm hne]; exact k3
    · obtain ⟨nb, na, u, k5, k3, k4⟩ := fresh_oper hΓf h2 hy16 hl1 k1
      have hab : Abs st nb na := ⟨fun p hp => by have := k5.b p hp; rwa [put_box] at this, fun p hp => by have := k5.a p hp; rwa [put_arr] at this, k5.bl, k5.al⟩
      refine k4 (.inr Ext.unput) (put_n _ _).symm hab (fun t ht => (ly t ht).symm) hl ?_
      refine k2 (st' := (st.add nb na).put y.dst u) (Ext.trans (Ext.add hab) (Ext.put (d := none) (s := u) (St.Ext.refl _))) (by rw [put_n]; rfl) (fun t ht => put_get (st := st.add nb na) fun d hd => a2 t ht d hd) (Low.put hy65 (Low.add hl)) ?_
      rw [add_put] at k3
      rw [← put_comm hne]; exact k3
  · obtain ⟨nx, mx, s, b0, k1, k2⟩ := fresh_oper hΓf h1 hx16 hl e
    have hl1 : ((st.add nx mx).put x.dst s).Low := Low.put hx65 (Low.add hl)
    have hfy : freshOp Γ y = true := by
      unfold allocOp at h2
      unfold freshOp
      split at h2 <;> simp_all
    obtain ⟨ny, my, u, c0, k3, k4⟩ := fresh_oper hΓf hfy hy16 hl1 k1
    have ly : ∀ t ∈ looks ops y, st.env.get t = ((st.add nx mx).put x.dst s).env.get t := fun t ht => (put_get (st := st.add nx mx) fun d hd => a1 t (List.mem_append_left _ ht) d hd).symm
    have cb : ∀ p ∈ ny, (addL nx st.box).get p.1 = none := fun p hp => by have := c0.b p hp; rwa [put_box] at this
    have ca : ∀ p ∈ my, (addL mx st.arr).get p.1 = none := fun p hp => by have := c0.a p hp; rwa [put_arr] at this
    have hin : ∀ {α : Type} {l : List (Nat × α)} {t : Tr α} {i : Nat}, (∀ p ∈ l, p.1 < 65000) → (addL l t).get i = none → ∀ p ∈ l, p.1 ≠ i := by
      intro α l t i hlt h p hp hc
      induction l with
      | nil => simp at hp
      | cons q l ih =>
        simp only [addL] at h
        by_cases hq : i = q.1
        · subst hq
          rw [Tr.get_set_same _ _ (hlt q (by simp))] at h; cases h
        · rw [Tr.get_set_ne _ _ hq] at h
          rcases List.mem_cons.1 hp with rfl | hp
          · exact hq hc.symm
          · exact ih (fun p hp => hlt p (by simp [hp])) h hp
    have db : ∀ p ∈ nx, ∀ q ∈ ny, p.1 ≠ q.1 := fun p hp q hq => hin b0.bl (cb q hq) p hp
    have da : ∀ p ∈ mx, ∀ q ∈ my, p.1 ≠ q.1 := fun p hp q hq => hin b0.al (ca q hq) p hp
    have haby : Abs st ny my := ⟨fun p hp => by
        have := cb p hp
        rwa [addL_ne fun q hq => db q hq p hp] at this, fun p hp => by
        have := ca p hp
        rwa [addL_ne fun q hq => da q hq p hp] at this, c0.bl, c0.al⟩
    refine k4 (.inl h2) (by rw [put_n]; rfl) haby ly hl ?_
    refine k2 (st' := (st.add ny my).put y.dst u) (.inr (Ext.trans (Ext.add haby) (Ext.put (d := none) (s := u) (St.Ext.refl _)))) (by rw [put_n]; rfl) ⟨fun p hp => ?_, fun p hp => ?_, b0.bl, b0.al⟩ (fun t ht => put_get (st := st.add ny my) fun d hd => a2 t ht d hd) (Low.put hy65 (Low.add hl)) ?_
    · rw [put_box]
      show (addL ny st.box).get p.1 = none
      rw [addL_ne fun q hq => Ne.symm (db p hp q hq)]; exact b0.b p hp
    · rw [put_arr]
      show (addL my st.arr).get p.1 = none
      rw [addL_ne fun q hq => Ne.symm (da p hp q hq)]; exact b0.a p hp
    · rw [add_put] at k3 ⊢
      rw [← put_comm hne]
      have : (st.add ny my).add nx mx = (st.add nx mx).add ny my := by
        simp only [St.add]
        rw [addL_comm db, addL_comm da]
      rw [this]; exact k3
  · exact const_build h1 h2 a1 a2 e
end
end Go.Ev

namespace Go.Ev

theorem noOwnL_kill {l : Leaf} {id : Nat} (h : noOwnL l = true) : l.kill id = l := by cases l <;> first | rfl | cases h
theorem noOwnL_freeze {l : Leaf} {id : Nat} {a : Arr} (h : noOwnL l = true) : l.freeze id a = l := by cases l <;> first | rfl | cases h
theorem noOwn_kill {s : Slot} {id : Nat} (h : noOwn s = true) : s.kill id = s := by
  have hm : ∀ ls : List Leaf, ls.all noOwnL = true → ls.map (Leaf.kill id) = ls := fun ls hl => by
    conv => rhs; rw [← List.map_id ls]
    exact List.map_congr_left fun l hl2 => noOwnL_kill (List.all_eq_true.1 hl l hl2)
  cases s with
  | lf l => show Slot.lf (l.kill id) = _; rw [noOwnL_kill h]
  | ag ls => show Slot.ag (ls.map (Leaf.kill id)) = _; rw [hm ls h]
  | rp ls => show Slot.rp (ls.map (Leaf.kill id)) = _; rw [hm ls h]
  | _ => cases h
theorem noOwn_freeze {s : Slot} {id : Nat} {a : Arr} (h : noOwn s = true) : s.freeze id a = s := by
  have hm : ∀ ls : List Leaf, ls.all noOwnL = true → ls.map (Leaf.freeze id a) = ls := fun ls hl => by
    conv => rhs; rw [← List.map_id ls]
    exact List.map_congr_left fun l hl2 => noOwnL_freeze (List.all_eq_true.1 hl l hl2)
  cases s with
  | lf l => show Slot.lf (l.freeze id a) = _; rw [noOwnL_freeze h]
  | ag ls => show Slot.ag (ls.map (Leaf.freeze id a)) = _; rw [hm ls h]
  | rp ls => show Slot.rp (ls.map (Leaf.freeze id a)) = _; rw [hm ls h]
  | _ => cases h

section
variable {P : Program} {ty : Ty} {Γ : FuncId → Option SumX} {st : St} {R : Type} {r : R} {o : Oper} {ops : Array Oper}

theorem all_drop {ls : List Leaf} (h : ls.all noOwnL = true) (n : Nat) : (ls.drop n).all noOwnL = true :=
  List.all_eq_true.2 fun x hx => List.all_eq_true.1 h x (List.mem_of_mem_drop hx)
theorem all_take {ls : List Leaf} (h : ls.all noOwnL = true) (n : Nat) : (ls.take n).all noOwnL = true :=
  List.all_eq_true.2 fun x hx => List.all_eq_true.1 h x (List.mem_of_mem_take hx)

/-- What such an operation does hangs on one slot alone. -/
theorem lone_spec {K : St → Option R} (hk : loneOk st o = true) (e : evOper ty Γ ops o st K = some r) :
    ∃ t d s ls, loneTmp o = some t ∧ o.dst = some d ∧ st.env.get t = some (.rp ls) ∧ ls.all noOwnL = true ∧ noOwn s = true ∧ K (st.put (some d) s) = some r ∧
      ∀ {st' : St}, st'.n = st.n → st'.env.get t = st.env.get t → ∀ {R' : Type} {K' : St → Option R'} {r' : R'}, K' (st'.put (some d) s) = some r' → evOper ty Γ ops o st' K' = some r' := by
  unfold loneOk at hk
  split at hk
  · rename_i t ht
    split at hk
    · rename_i ls hg
      obtain ⟨dst, op, type, pos, after, guard⟩ := o
      unfold loneTmp at ht
      simp only at ht
      split at ht
      · cases ht
        rename_i d
        unfold evOper at e
        cases hd : Nat.blt d st.n
        · simp only [Option.getD_some, hd] at e; cases e
        · simp only [hd, cond_true, opK, putK, St.ev, hg, Option.getD_some] at e
          refine ⟨_, _, .rp ls, ls, rfl, rfl, hg, hk, hk, e, fun {st'} hn hev _ _ _ h => ?_⟩
          unfold evOper
          simp only [hn, hd, cond_true, opK, putK, St.ev, hev, hg, Option.getD_some]
          exact h
      · cases ht
        rename_i d
        unfold evOper at e
        cases hd : Nat.blt d st.n
        · simp only [Option.getD_some, hd] at e; cases e
        · simp only [hd, cond_true, opK, nilCheckK, putK, St.ev, hg, Option.getD_some] at e
          refine ⟨_, _, .rp ls, ls, rfl, rfl, hg, hk, hk, e, fun {st'} hn hev _ _ _ h => ?_⟩
          unfold evOper
          simp only [hn, hd, cond_true, opK, nilCheckK, putK, St.ev, hev, hg, Option.getD_some]
          exact h
      · cases ht
        rename_i d
        unfold evOper at e
        cases hd : Nat.blt d st.n
        · simp only [Option.getD_some, hd] at e; cases e
        · simp only [hd, cond_true, opK, fieldAddrK, St.ev, hg, Option.getD_some] at e
          split at e
          · rename_i hti
            split at e
            · rename_i hc; cases hc
            · rename_i hc; cases hc
            · rename_i off _ _ hf hc
              cases hc
              refine ⟨_, _, .rp (ls.drop off), ls, rfl, rfl, hg, hk, all_drop hk _, e, fun {st'} hn hev _ _ _ h => ?_⟩
              unfold evOper
              simp only [hn, hd, cond_true, opK, fieldAddrK, St.ev, hev, hg, Option.getD_some, hti, hf]
              exact h
            · cases e
          · cases e
      · cases ht
        rename_i d
        unfold evOper at e
        cases hd : Nat.blt d st.n
        · simp only [Option.getD_some, hd] at e; cases e
        · simp only [hd, cond_true, opK, loadK, St.leafsAt, St.ev, hg, Option.getD_some] at e
          split at e
          · rename_i ti hti
            cases hl : ((ls.take ti.size).length == ti.size)
            · rw [hl] at e; cases e
            · rw [hl] at e
              simp only [cond_true] at e
              cases hm : mkSlot ti.agg (ls.take ti.size) with
              | none => rw [hm] at e; cases e
              | some s =>
                rw [hm] at e
                have hs : noOwn s = true := by
                  unfold mkSlot at hm
                  cases hag : ti.agg
                  · rw [hag] at hm
                    simp only [cond_false] at hm
                    split at hm
                    · rename_i l hll
                      cases hm
                      exact List.all_eq_true.1 (all_take hk ti.size) l (by rw [hll]; simp)
                    · cases hm
                  · rw [hag] at hm
                    simp only [cond_true, Option.some.injEq] at hm
                    subst hm
                    exact all_take hk _
                refine ⟨_, _, s, ls, rfl, rfl, hg, hk, hs, e, fun {st'} hn hev _ _ _ h => ?_⟩
                unfold evOper
                simp only [hn, hd, cond_true, opK, loadK, St.leafsAt, St.ev, hev, hg, Option.getD_some, hti, hl, hm]
                exact h
          · cases e
      · cases ht
    · cases hk
  · cases hk

/-- What is kept of the slots by an append. -/
def KeepE (st st' : St) : Prop := st'.n = st.n ∧ ∀ t u, st.env.get t = some u → noOwn u = true → st'.env.get t = some u
theorem KeepE.refl (st : St) : KeepE st st := ⟨rfl, fun _ _ h _ => h⟩
theorem KeepE.trans {a b c : St} (h : KeepE a b) (k : KeepE b c) : KeepE a c := ⟨k.1.trans h.1, fun t u h1 h2 => k.2 t u (h.2 t u h1 h2) h2⟩
theorem KeepE.freeze {id : Nat} {a : Arr} : KeepE st (st.freeze id a) := ⟨rfl, fun t u h1 h2 => by
  show (st.env.map fun s => some (s.freeze id a)).get t = _
  rw [Tr.get_map, h1]
  show some (u.freeze id a) = _
  rw [noOwn_freeze h2]⟩
theorem KeepE.renew {id : Nat} {a : Arr} : KeepE st (st.renew id a) := ⟨rfl, fun t u h1 h2 => by
  show (st.env.map fun s => some (s.kill id)).get t = _
  rw [Tr.get_map, h1]
  show some (u.kill id) = _
  rw [noOwn_kill h2]⟩
theorem KeepE.newArr {id : Nat} {a : Arr} : KeepE st (st.newArr id a) := ⟨rfl, fun _ _ h _ => h⟩
theorem cont_put {d : Tmp} {s : Slot} {e : K} {l : Leaf} : (st.put (some d) s).cont e l = st.cont e l := by cases l <;> rfl
theorem renew_put {d : Tmp} {s : Slot} (hs : noOwn s = true) {id : Nat} {a : Arr} : (st.put (some d) s).renew id a = (st.renew id a).put (some d) s := by
  simp only [St.renew, St.kill, St.put, Tr.set_map, Option.bind_some, noOwn_kill hs]
theorem srcOf_put {d : Tmp} {s : Slot} (hs : noOwn s = true) {e : K} {x : Leaf} : srcOf (st.put (some d) s) e x = (srcOf st e x).map fun q => (q.1, q.2.1, q.2.2.put (some d) s) := by
  unfold srcOf
  rw [cont_put]
  cases st.cont e x with
  | none => rfl
  | some xs =>
    simp only
    cases e.flat
    · simp only [cond_false]
      cases x <;> first | rfl | skip
      rename_i id
      show (match st.arr.get id with | some a => some (xs, a.deep, (st.put (some d) s).freeze id a) | none => none) = _
      cases hg : st.arr.get id with
      | none => simp only [hg]; rfl
      | some a => simp only [hg, freeze_put, noOwn_freeze hs]; rfl
    · rfl
theorem srcOf_keep {e : K} {x : Leaf} {q : List e.T × Bool × St} (h : srcOf st e x = some q) : KeepE st q.2.2 := by
  unfold srcOf at h
  split at h
  · cases h
  · cases hf : e.flat
    · rw [hf] at h
      simp only [cond_false] at h
      split at h
      · split at h
        · cases h; exact KeepE.freeze
        · cases h
      · cases h; exact KeepE.refl _
      · cases h; exact KeepE.refl _
    · rw [hf] at h
      cases h; exact KeepE.refl _
theorem app_put {d : Tmp} {s : Slot} (hs : noOwn s = true) {d' : Nat} {t : TypeId} {sl x : Leaf} {k k' : St → Leaf → Option R}
    (hk : ∀ st' l, KeepE st st' → k (st'.put (some d) s) l = some r → k' st' l = some r) (e : appK ty (st.put (some d) s) d' t sl x k = some r) : appK ty st d' t sl x k' = some r := by
  unfold appK at e ⊢
  split at e
  · split at e
    · rename_i bytes _ el _
      rw [cont_put, srcOf_put hs] at e
      cases hc : st.cont el sl with
      | none => rw [hc] at e; cases e
      | some l =>
        cases hq : srcOf st el x with
        | none => rw [hc, hq] at e; cases e
        | some q =>
          obtain ⟨xs, dx, st1⟩ := q
          have hkp : KeepE st st1 := srcOf_keep hq
          rw [hc, hq] at e
          simp only [Option.map_some] at e ⊢
          have ha : (st1.put (some d) s).arr = st1.arr := rfl
          rw [ha] at e
          cases sl with
          | own id =>
            simp only at e ⊢
            cases hr : st1.arr.get id with
            | none => rw [hr] at e; cases e
            | some a =>
              rw [hr] at e
              simp only at e ⊢
              cases h1 : Nat.blt id 64000
              · rw [h1] at e; cases e
              · cases h2 : room (l ++ xs).length bytes
                · rw [h1, h2] at e; cases e
                · rw [h1, h2] at e
                  simp only [cond_true, renew_put hs] at e ⊢
                  exact hk _ _ (hkp.trans KeepE.renew) e
          | sub id o n =>
            simp only at e ⊢
            cases hr : st1.arr.get id with
            | none => rw [hr] at e; cases e
            | some a =>
              rw [hr] at e
              simp only at e ⊢
              cases h1 : Nat.blt id 64000
              · rw [h1] at e; cases e
              · cases h2 : room (l ++ xs).length bytes
                · rw [h1, h2] at e; cases e
                · rw [h1, h2] at e
                  simp only [cond_true, renew_put hs] at e ⊢
                  exact hk _ _ (hkp.trans KeepE.renew) e
          | nil =>
            simp only at e ⊢
            cases hr : st1.arr.get (d' * 4) with
            | some a => rw [hr] at e; cases e
            | none =>
              rw [hr] at e
              simp only at e ⊢
              cases h2 : room xs.length bytes
              · rw [h2] at e; cases e
              · rw [h2] at e
                exact hk _ _ (hkp.trans KeepE.newArr) e
          | sl e1 l1 b =>
            cases b with
            | no => cases e
            | ec _ _ => cases e
            | cap =>
              simp only at e ⊢
              cases hr : st1.arr.get (d' * 4) with
              | some a => rw [hr] at e; cases e
              | none =>
                rw [hr] at e
                simp only at e ⊢
                cases h1 : (l.isEmpty || !xs.isEmpty)
                · rw [h1] at e; cases e
                · cases h2 : room (l ++ xs).length bytes
                  · rw [h1, h2] at e; cases e
                  · rw [h1, h2] at e
                    exact hk _ _ (hkp.trans KeepE.newArr) e
          | _ => cases e
    · cases e
  · cases e

theorem appZ_put {d : Tmp} {s : Slot} {d' : Nat} {t t' : TypeId} {sl x : Leaf} {k k' : St → Leaf → Option R}
    (hk : ∀ st' l, KeepE st st' → k (st'.put (some d) s) l = some r → k' st' l = some r) (e : appZK ty (st.put (some d) s) d' t t' sl x k = some r) : appZK ty st d' t t' sl x k' = some r := by
  unfold appZK at e ⊢
  have ha : (st.put (some d) s).arr = st.arr := rfl
  rw [ha] at e
  split at e
  · split at e
    · rename_i bytes _ el _
      split at e
      · split at e
        · rename_i n
          cases hr : st.arr.get (d' * 4) with
          | some a => rw [hr] at e; cases e
          | none =>
            rw [hr] at e
            simp only at e ⊢
            cases h1 : decide (0 ≤ n)
            · rw [h1] at e; cases e
            · rw [h1] at e
              simp only [cond_true] at e ⊢
              cases h2 : room n.toNat bytes
              · rw [h2] at e; cases e
              · rw [h2] at e
                exact hk _ _ KeepE.newArr e
        · cases e
      · cases e
    · cases e
  · cases e
theorem lone_app {x y : Oper} (hk : loneOk st x = true) (hy : appOp y = true) (a1 : ∀ t ∈ looks ops y ++ y.dst.toList, ∀ d, x.dst = some d → t ≠ d) (a2 : ∀ t ∈ looks ops x, ∀ d, y.dst = some d → t ≠ d) {K : St → Option R}
    (e : evOper ty Γ ops x st (fun st => evOper ty Γ ops y st K) = some r) : evOper ty Γ ops y st (fun st => bif loneOk st x then evOper ty Γ ops x st K else none) = some r := by
  obtain ⟨t, d, s, ls, h1, h2, h3, h4, h5, h6, h7⟩ := lone_spec hk e
  have htx : t ∈ looks ops x := by
    obtain ⟨dst, op, type, pos, after, guard⟩ := x
    unfold loneTmp at h1
    simp only at h1
    refine List.mem_append_left _ ?_
    split at h1 <;> first | (cases h1; simp [Op.operands, tmpsOf]) | cases h1
  obtain ⟨yd, yo, yt, yp, ya, yg⟩ := y
  unfold appOp at hy
  simp only at hy
  split at hy
  · rename_i c
    split at hy
    · rename_i hcal
      unfold evOper at h6 ⊢
      rw [put_n] at h6
      cases hd : Nat.blt (yd.getD 0) st.n
      · simp only [hd] at h6; cases h6
      · simp only [hd, cond_true, opK, callK, hcal] at h6 ⊢
        have hargs : c.args.toList.map (st.put (some d) s).ev = c.args.toList.map st.ev := List.map_congr_left fun z hz =>
          ev_same (l := (Op.call c).operands.toList) (st := st) (st' := st.put (some d) s) (fun t ht => put_get fun x hx => by cases hx; exact a1 t (List.mem_append_left _ (List.mem_append_left _ ht)) d h2) z (by simp [Op.operands, Call.operands]; exact .inr (by simpa using hz))
        rw [hargs] at h6
        have fin : ∀ (st' : St) (l : Leaf), KeepE st st' → putK (st'.put (some d) s) yd (.lf l) K = some r → putK st' yd (.lf l) (fun st => bif loneOk st x then evOper ty Γ ops x st K else none) = some r := fun st' l hkp hp => by
          have hget : (st'.put yd (.lf l)).env.get t = some (.rp ls) := by
            rw [put_get fun z hz => a2 t htx z hz]
            exact hkp.2 t _ h3 h4
          have hlo : loneOk (st'.put yd (.lf l)) x = true := by
            unfold loneOk
            rw [h1]
            simp only [hget]
            exact h4
          show (bif loneOk (st'.put yd (.lf l)) x then evOper ty Γ ops x (st'.put yd (.lf l)) K else none) = some r
          rw [hlo]
          refine h7 (by rw [put_n]; exact hkp.1) (by rw [hget, h3]) ?_
          have hne : yd ≠ some d := fun hh => a1 d (List.mem_append_right _ (by rw [hh]; simp)) d h2 rfl
          rw [← put_comm (x := some d) (y := yd) (fun z hz => by cases hz; exact hne)]
          exact hp
        split at h6
        · rename_i sl xl tt tt' _ _
          cases htt : (tt == tt')
          · rw [htt] at h6
            simp only [cond_false] at h6 ⊢
            exact appZ_put (fun st' l hkp hp => fin st' l hkp hp) h6
          · rw [htt] at h6
            simp only [cond_true] at h6 ⊢
            exact app_put h5 (fun st' l hkp hp => fin st' l hkp hp) h6
        · cases h6
    · cases hy
  · cases hy

theorem lone_looks {o : Oper} {t : Tmp} (h1 : loneTmp o = some t) : t ∈ looks ops o := by
  obtain ⟨dst, op, type, pos, after, guard⟩ := o
  unfold loneTmp at h1
  simp only at h1
  refine List.mem_append_left _ ?_
  split at h1 <;> first | (cases h1; simp [Op.operands, tmpsOf]) | cases h1
theorem loneOk_same {o : Oper} {st' : St} (h : ∀ t ∈ looks ops o, st'.env.get t = st.env.get t) : loneOk st' o = loneOk st o := by
  unfold loneOk
  cases h1 : loneTmp o with
  | none => rfl
  | some t => simp only [h t (lone_looks h1)]
theorem evOpL_spec {o : Oper} {K : St → Option R} (e : evOpL ty Γ ops o st K = some r) : evOper ty Γ ops o st K = some r ∧ (loneNeed ops o = true → loneOk st o = true) := by
  unfold evOpL at e
  cases hn : loneNeed ops o
  · rw [hn] at e; exact ⟨e, fun h => by cases h⟩
  · rw [hn] at e
    cases hk : loneOk st o
    · rw [hk] at e; cases e
    · rw [hk] at e; exact ⟨e, fun _ => rfl⟩
theorem evOpL_of {o : Oper} {K : St → Option R} (e : evOper ty Γ ops o st K = some r) (h : loneNeed ops o = true → loneOk st o = true) : evOpL ty Γ ops o st K = some r := by
  unfold evOpL
  cases hn : loneNeed ops o
  · exact e
  · rw [h hn]; exact e
theorem app_notlone {y : Oper} (hy : appOp y = true) : loneNeed ops y = false := by
  have : loneTmp y = none := by
    obtain ⟨dst, op, type, pos, after, guard⟩ := y
    unfold appOp at hy
    simp only at hy
    split at hy
    · rfl
    · cases hy
  simp [loneNeed, this]
theorem oper_mono (hΓc : ∀ f x, Γ f = some x → x.calm = true → CalmSum x.g) (hΓf : ∀ f x, Γ f = some x → x.fresh = true → FreshSum x.g) {x : Oper} (hx : calmOp Γ x = true ∨ freshOp Γ x = true) (hx16 : x.dst.getD 0 < 16000) (hl : st.Low) {K K' : St → Option R}
    (hK : ∀ st1 : St, (∀ t, (∀ d, x.dst = some d → t ≠ d) → st1.env.get t = st.env.get t) → K st1 = some r → K' st1 = some r) (e : evOper ty Γ ops x st K = some r) : evOper ty Γ ops x st K' = some r := by
  rcases hx with hc | hf
  · obtain ⟨s, h1, h2⟩ := calm_oper hΓc hc hl e
    exact h2 (St.Ext.refl st) rfl (fun _ _ => rfl) hl (hK _ (fun t ht => put_get ht) h1)
  · obtain ⟨nb, na, s, h0, h1, h2⟩ := fresh_oper hΓf hf hx16 hl e
    exact h2 (.inr (St.Ext.refl st)) rfl h0 (fun _ _ => rfl) hl (hK _ (fun t ht => put_get (st := st.add nb na) ht) h1)
theorem swapL_ok (hΓc : ∀ f x, Γ f = some x → x.calm = true → CalmSum x.g) (hΓf : ∀ f x, Γ f = some x → x.fresh = true → FreshSum x.g) {x y : Oper} (hs : swapOkL Γ ops x y = true) (hl : st.Low) {K : St → Option R}
    (e : evOpL ty Γ ops x st (fun st => evOpL ty Γ ops y st K) = some r) : evOpL ty Γ ops y st (fun st => evOpL ty Γ ops x st K) = some r := by
  unfold swapOkL at hs
  simp only [Bool.or_eq_true, Bool.and_eq_true] at hs
  obtain ⟨e1, hx⟩ := evOpL_spec e
  rcases hs with ⟨hs, hb⟩ | ⟨⟨h1, h2⟩, h3, h4, h5⟩
  · have hs' := hs
    unfold swapOk at hs'
    simp only [Bool.and_eq_true, Bool.or_eq_true] at hs'
    obtain ⟨h12, h3, h4, h5, h6⟩ := hs'
    have hx16 : x.dst.getD 0 < 16000 := Nat.le_of_ble_eq_true h5
    have hy16 : y.dst.getD 0 < 16000 := Nat.le_of_ble_eq_true h6
    have a1 := apartD_spec h3
    have a2 := apartD_spec h4
    -- y's check holds at once
    have hy : loneNeed ops y = true → loneOk st y = true := by
      intro hn
      rcases swapOk_first hs with hc | hf
      · obtain ⟨s, k1, _⟩ := calm_oper hΓc hc hl e1
        have := (evOpL_spec k1).2 hn
        rwa [loneOk_same fun t ht => put_get fun d hd => a1 t (List.mem_append_left _ ht) d hd] at this
      · obtain ⟨nb, na, s, _, k1, _⟩ := fresh_oper hΓf hf hx16 hl e1
        have := (evOpL_spec k1).2 hn
        rwa [loneOk_same fun t ht => put_get (st := st.add nb na) fun d hd => a1 t (List.mem_append_left _ ht) d hd] at this
    have e2 : evOper ty Γ ops x st (fun st => evOper ty Γ ops y st K) = some r := oper_mono hΓc hΓf (swapOk_first hs) hx16 hl (fun st1 _ h => (evOpL_spec h).1) e1
    have e3 := swap_ok hΓc hΓf hs hl e2
    refine evOpL_of ?_ hy
    by_cases hn : loneNeed ops x = true
    · have hyk : calmOp Γ y = true ∨ freshOp Γ y = true := by
        rcases h12 with (⟨_, h⟩ | ⟨_, h⟩) | ⟨c1, c2⟩
        · exact h
        · refine .inr ?_
          unfold allocOp at h
          unfold freshOp
          split at h <;> simp_all
        · exfalso
          rw [c1, c2, hn] at hb
          cases hb
      exact oper_mono hΓc hΓf hyk hy16 hl (fun st1 hst h => evOpL_of h fun _ => by
        rw [loneOk_same fun t ht => hst t fun d hd => a2 t ht d hd]; exact hx hn) e3
    · have : ∀ K' : St → Option R, (fun st => evOpL ty Γ ops x st K') = fun st => evOper ty Γ ops x st K' := fun K' => by
        funext st
        unfold evOpL
        have hn' : loneNeed ops x = false := by simpa using hn
        rw [hn']; rfl
      rw [this]; exact e3
  · have a1 := apartD_spec h3
    have a2 := apartD_spec h4
    have hyl := app_notlone (ops := ops) h2
    have e2 : evOper ty Γ ops x st (fun st => evOper ty Γ ops y st K) = some r := by
      have : (fun st => evOpL ty Γ ops y st K) = fun st => evOper ty Γ ops y st K := by
        funext st
        unfold evOpL
        rw [hyl]; rfl
      rw [this] at e1; exact e1
    have e3 := lone_app (hx h1) h2 a1 a2 e2
    refine evOpL_of ?_ fun h => by rw [hyl] at h; cases h
    have : (fun st => evOpL ty Γ ops x st K) = fun st => bif loneOk st x then evOper ty Γ ops x st K else none := by
      funext st
      unfold evOpL
      rw [h1]; rfl
    rw [this]; exact e3
theorem swapOkL_lt {x y : Oper} (hs : swapOkL Γ ops x y = true) : x.dst.getD 0 < 16000 := by
  unfold swapOkL at hs
  simp only [Bool.or_eq_true, Bool.and_eq_true] at hs
  rcases hs with ⟨hs, _⟩ | ⟨_, _, _, h5⟩
  · unfold swapOk at hs
    simp only [Bool.and_eq_true] at hs
    exact Nat.le_of_ble_eq_true hs.2.2.2.1
  · exact Nat.le_of_ble_eq_true h5
theorem swapOkL_first {x y : Oper} (hs : swapOkL Γ ops x y = true) : calmOp Γ x = true ∨ freshOp Γ x = true := by
  unfold swapOkL at hs
  simp only [Bool.or_eq_true, Bool.and_eq_true] at hs
  rcases hs with ⟨hs, _⟩ | ⟨⟨h1, _⟩, _⟩
  · exact swapOk_first hs
  · refine .inl ?_
    have : (loneTmp x).isSome = true := by
      unfold loneNeed at h1
      simp only [Bool.and_eq_true] at h1
      exact h1.1
    unfold loneTmp at this
    unfold calmOp
    split at this <;> first | (rename_i h _ _; rw [h]) | cases this
end
end Go.Ev

namespace Go.Ev

section
variable {P : Program} {ty : Ty} {C : Cx} {G : Gh} {st : St} {a : Act} {w : World} {R : Type} {r : R} {Γ : FuncId → Option SumX} {ops : Array Oper} {Q : Exit → Act → World → Prop}

theorem Rel.low (h : Rel C G st a w) : st.Low := fun t s ht => by have := (h.env t s ht).1; have := h.n; omega

theorem bindsOn_of {i j : Nat} {o : Oper} (hj : ops[j]? = some o) {e : Edge} (he : e ∈ o.after) (hb : Region.binds .any e = true) (hon : e.on = i) : bindsOn ops i j = true := by
  simp only [bindsOn, hj, List.any_eq_true, Bool.and_eq_true, beq_iff_eq]
  exact ⟨e, by simpa using he, hb, hon⟩
theorem of_bindsOn {i j : Nat} (h : bindsOn ops i j = true) : ∃ o, ops[j]? = some o ∧ ∃ e ∈ o.after, Region.binds .any e = true ∧ e.on = i := by
  unfold bindsOn at h
  split at h
  · rename_i o ho
    simp only [List.any_eq_true, Bool.and_eq_true, beq_iff_eq] at h
    obtain ⟨e, he, h1, h2⟩ := h
    exact ⟨o, ho, e, by simpa using he, h1, h2⟩
  · cases h

/-- What is listed has all listed that it stands behind. -/
def Closed (ops : Array Oper) (listed : Array Bool) : Prop := ∀ i j, bindsOn ops i j = true → listed.getD j false = true → listed.getD i false = true

theorem ordd_closed {listed : Array Bool} (hc : Closed ops listed) : ∀ {f i j : Nat}, ordd ops f i j = true → (∀ k, bindsOn ops k j = true → listed.getD k false = true) → listed.getD i false = true
  | 0, i, j, h, _ => by simp [ordd] at h
  | f + 1, i, j, h, hj => by
    simp only [ordd, Bool.or_eq_true, List.any_eq_true, Bool.and_eq_true] at h
    rcases h with h | ⟨k, _, h1, h2⟩
    · exact hj i h
    · exact hc i k h1 (ordd_closed hc h2 hj)

structure PairOk (Γ : FuncId → Option SumX) (ops : Array Oper) (i j : Nat) : Prop where
  ne : i ≠ j
  no : bindsOn ops j i = false
  sw : ordd ops 14 i j = true ∨ ∃ oi oj, ops[i]? = some oi ∧ ops[j]? = some oj ∧ swapOk Γ ops oi oj = true
theorem pairOk_spec {i j : Nat} (h : pairOk Γ ops i j = true) : PairOk Γ ops i j := by
  unfold pairOk at h
  simp only [Bool.and_eq_true, Bool.not_eq_true', Bool.or_eq_true, beq_eq_false_iff_ne] at h
  refine ⟨h.1.1, h.1.2, h.2.symm.imp id fun h => ?_⟩
  split at h
  · rename_i oi oj h1 h2; exact ⟨oi, oj, h1, h2, h⟩
  · cases h
theorem pairsOk_spec : ∀ {l : List Nat}, pairsOk Γ ops l = true → l.Pairwise (PairOk Γ ops)
  | [], _ => .nil
  | i :: l, h => by
    simp only [pairsOk, Bool.and_eq_true] at h
    exact .cons (fun j hj => pairOk_spec (List.all_eq_true.1 h.1 j hj)) (pairsOk_spec h.2)
theorem before_spec {j i : Nat} {o : Oper} (ho : ops[j]? = some o) {e : Edge} (he : e ∈ o.after) (hb : Region.binds .any e = true) (hon : e.on = i) : i ∈ beforeOf ops j := by
  unfold beforeOf
  rw [ho]
  simp only [List.mem_map, List.mem_filter]
  exact ⟨e, ⟨by simpa using he, hb⟩, hon⟩
theorem drawOk_spec {ord : List Nat} (h : drawOk Γ ops ord = true) : ord.Pairwise (PairOk Γ ops) ∧ ord.length = ops.size ∧ (∀ i, i ∈ ord ↔ i < ops.size) ∧ ∀ j o e, ops[j]? = some o → e ∈ o.after → Region.binds .any e = true → e.on < ops.size ∧ e.on ≠ j := by
  unfold drawOk at h
  simp only [Bool.and_eq_true, beq_iff_eq] at h
  obtain ⟨⟨⟨h1, h0⟩, h2⟩, h3, h4⟩ := h
  refine ⟨pairsOk_spec h4, h1, fun i => ⟨fun hi => Nat.le_of_ble_eq_true (List.all_eq_true.1 h0 i hi), fun hi => ?_⟩, fun j o e ho he hb => ?_⟩
  · have := List.all_eq_true.1 h2 i (by simpa using hi)
    exact List.contains_iff_mem.1 this
  · have hjs := (Array.getElem?_eq_some_iff.1 ho).1
    have h5 := List.all_eq_true.1 h3 (o, j) (by
      rw [List.mem_zipIdx_iff_getElem?]
      simpa using ho)
    have h6 := List.all_eq_true.1 h5 e.on (before_spec ho he hb rfl)
    simp only [Bool.and_eq_true, Bool.not_eq_true', beq_eq_false_iff_ne] at h6
    exact ⟨Nat.le_of_ble_eq_true h6.1, h6.2⟩

theorem bubble (hΓc : ∀ f x, Γ f = some x → x.calm = true → CalmSum x.g) (hΓf : ∀ f x, Γ f = some x → x.fresh = true → FreshSum x.g) {oi : Oper} : ∀ {pre : List Oper} {post : List Oper} {st : St} {K : St → Option R}, (∀ x ∈ pre, swapOk Γ ops x oi = true) → (∀ x ∈ pre, x.dst.getD 0 < 65000) → st.Low →
    evOps ty Γ ops (pre ++ oi :: post) st K = some r → evOps ty Γ ops (oi :: (pre ++ post)) st K = some r
  | [], post, st, K, _, _, _, e => e
  | x :: pre, post, st, K, hs, hd, hl, e => by
    -- x first, then the others: oi comes ahead of them behind x
    have hsx := hs x (by simp)
    have e1 : evOper ty Γ ops x st (fun st => evOper ty Γ ops oi st fun st => evOps ty Γ ops (pre ++ post) st K) = some r := by
      have e0 : evOper ty Γ ops x st (fun st => evOps ty Γ ops (pre ++ oi :: post) st K) = some r := e
      rcases swapOk_first hsx with hcx | hcx
      · obtain ⟨s, h1, h2⟩ := calm_oper hΓc hcx hl e0
        refine h2 (St.Ext.refl st) rfl (fun _ _ => rfl) hl ?_
        exact bubble hΓc hΓf (fun y hy => hs y (by simp [hy])) (fun y hy => hd y (by simp [hy])) (Low.put (hd x (by simp)) hl) h1
      · have hx16 : x.dst.getD 0 < 16000 := by
          have := hsx
          unfold swapOk at this
          simp only [Bool.and_eq_true] at this
          exact Nat.le_of_ble_eq_true this.2.2.2.1
        obtain ⟨nb, na, s, h0, h1, h2⟩ := fresh_oper hΓf hcx hx16 hl e0
        refine h2 (.inr (St.Ext.refl st)) rfl h0 (fun _ _ => rfl) hl ?_
        exact bubble hΓc hΓf (fun y hy => hs y (by simp [hy])) (fun y hy => hd y (by simp [hy])) (Low.put (hd x (by simp)) (Low.add hl)) h1
    exact swap_ok hΓc hΓf hsx hl e1

/-- EACH ORDER DOES AS THE TEXT'S DOES. -/
theorem ok_any (hty : TyOk P ty) (hΓ : GOk P Γ) (hdr : ∀ j o e, ops[j]? = some o → e ∈ o.after → Region.binds .any e = true → e.on < ops.size ∧ e.on ≠ j) {K : St → Option R} : ∀ (fuel : Nat) {listed : Array Bool} {rest : List Nat} {G : Gh} {st : St} {a : Act} {w : World}, listed.size = ops.size → rest.length ≤ fuel →
    (∀ i, i ∈ rest ↔ i < ops.size ∧ listed.getD i true = false) → rest.Pairwise (PairOk Γ ops) → Closed ops listed → Rel C G st a w → evOps ty Γ ops (atL ops rest) st K = some r →
    (∀ G' st' a' w', Rel C G' st' a' w' → st'.n = st.n → K st' = some r → Q .normal a' w') → wpAny P .any ops Q fuel listed a w := by
  intro fuel
  have hΓc : ∀ f x, Γ f = some x → x.calm = true → CalmSum x.g := fun f x h => (hΓ f x h).2.1
  have hΓf : ∀ f x, Γ f = some x → x.fresh = true → FreshSum x.g := fun f x h => (hΓ f x h).2.2
  have hnil : ∀ {listed : Array Bool} {rest : List Nat}, listed.size = ops.size → (∀ i, i ∈ rest ↔ i < ops.size ∧ listed.getD i true = false) → rest.Pairwise (PairOk Γ ops) → Region.ready .any ops listed = [] → rest = [] := by
    intro listed rest hsz hmem hsrt hr
    cases rest with
    | nil => rfl
    | cons i l =>
      exfalso
      obtain ⟨hi, hli⟩ := (hmem i).1 (by simp)
      have hoi : ops[i]? = some ops[i] := Array.getElem?_eq_getElem hi
      have : i ∈ Region.ready .any ops listed := mem_ready.2 ⟨hli, ops[i], hoi, fun e he hb => by
        obtain ⟨h1, h1'⟩ := hdr i _ e hoi he hb
        by_cases hq : listed.getD e.on true = false
        · have h2 : e.on ∈ i :: l := (hmem e.on).2 ⟨h1, hq⟩
          rcases List.mem_cons.1 h2 with h2 | h2
          · exact absurd h2 h1'
          · have := (List.rel_of_pairwise_cons hsrt h2).no
            rw [bindsOn_of hoi he hb rfl] at this; cases this
        · have hlt : e.on < listed.size := by omega
          simp only [Array.getD_eq_getD_getElem?, Array.getElem?_eq_getElem hlt, Option.getD_some] at hq ⊢
          simpa using hq⟩
      rw [hr] at this; cases this
  induction fuel with
  | zero =>
    intro listed rest G st a w hsz hlen hmem hsrt hcl h e hK
    have : rest = [] := List.eq_nil_of_length_eq_zero (by omega)
    subst this
    refine ⟨?_, hK G st a w h rfl e⟩
    cases hr : Region.ready .any ops listed with
    | nil => rfl
    | cons i l =>
      have : i ∈ Region.ready .any ops listed := by rw [hr]; simp
      obtain ⟨h1, o, h2, _⟩ := mem_ready.1 this
      have := (hmem i).2 ⟨(Array.getElem?_eq_some_iff.1 h2).1, h1⟩
      cases this
  | succ fuel ih =>
    intro listed rest G st a w hsz hlen hmem hsrt hcl h e hK
    refine ⟨fun hr => ?_, fun i hi => ?_⟩
    · have := hnil hsz hmem hsrt hr
      subst this
      exact hK G st a w h rfl e
    · obtain ⟨hli, oi, hoi, hall⟩ := mem_ready.1 hi
      have hin : i ∈ rest := (hmem i).2 ⟨(Array.getElem?_eq_some_iff.1 hoi).1, hli⟩
      have hisz := (Array.getElem?_eq_some_iff.1 hoi).1
      obtain ⟨pre, post, rfl⟩ := List.append_of_mem hin
      have hpw := List.pairwise_append.1 hsrt
      have hpre : ∀ j ∈ pre, PairOk Γ ops j i := fun j hj => hpw.2.2 j hj i (by simp)
      have hat : atL ops (pre ++ i :: post) = atL ops pre ++ oi :: atL ops post := by
        simp [atL, List.filterMap_append, hoi]
      have hat2 : atL ops (pre ++ post) = atL ops pre ++ atL ops post := by simp [atL]
      rw [hat] at e
      have hpres : ∀ x ∈ atL ops pre, swapOk Γ ops x oi = true := fun x hx => by
        obtain ⟨j, hj, hxj⟩ := List.mem_filterMap.1 hx
        rcases (hpre j hj).sw with hh | ⟨oj, oi', hoj, hoi', hh⟩
        rotate_left
        · rw [hoi] at hoi'; cases hoi'
          rw [hoj] at hxj; cases hxj
          exact hh
        · exfalso
          have := ordd_closed hcl hh (fun k hk => by
            obtain ⟨o', ho', e', he', hb', hon'⟩ := of_bindsOn hk
            rw [hoi] at ho'; cases ho'
            rw [← hon']; exact hall e' he' hb')
          have hj2 := ((hmem j).1 (by simp [hj]))
          have hlt : j < listed.size := by omega
          simp only [Array.getD_eq_getD_getElem?, Array.getElem?_eq_getElem hlt, Option.getD_some] at this hj2
          rw [this] at hj2; cases hj2.2
      have hd65 : ∀ x ∈ atL ops pre, x.dst.getD 0 < 65000 := fun x hx => by
        exact swapOk_lt (hpres x hx)
      have e2 := bubble hΓc hΓf hpres hd65 h.low e
      rw [← hat2] at e2
      have e3 : evOper ty Γ ops oi st (fun st => evOps ty Γ ops (atL ops (pre ++ post)) st K) = some r := e2
      have := ok_oper (Q := Q) hty hΓ (next := wpAny P .any ops Q fuel (listed.setIfInBounds i true)) h (fun G' st' a' w' h1 h2 h3 => by
        refine ih (listed := listed.setIfInBounds i true) (rest := pre ++ post) (by simpa using hsz) (by simp at hlen ⊢; omega) (fun j => ?_) ?_ (fun p q hb hq => ?_) h1 h3 (fun G2 st2 a2 w2 h4 h5 h6 => hK G2 st2 a2 w2 h4 (h5.trans h2) h6)
        · by_cases hji : j = i
          · subst hji
            have : (listed.setIfInBounds j true).getD j true = true := by
              have : j < listed.size := by omega
              simp [Array.getD_eq_getD_getElem?, this]
            rw [this]
            constructor
            · intro hm
              exfalso
              rcases List.mem_append.1 hm with hm | hm
              · exact (hpre j hm).ne rfl
              · exact (List.rel_of_pairwise_cons hpw.2.1 hm).ne rfl
            · rintro ⟨_, hh⟩; cases hh
          · have : (listed.setIfInBounds i true).getD j true = listed.getD j true := getD_set_ne true (Ne.symm hji)
            rw [this, ← hmem j]
            simp [hji]
        · rw [List.pairwise_append]
          exact ⟨hpw.1, (List.pairwise_cons.1 hpw.2.1).2, fun x hx y hy => hpw.2.2 x hx y (by simp [hy])⟩
        · by_cases hpi : p = i
          · subst hpi
            have : p < listed.size := by omega
            simp [Array.getD_eq_getD_getElem?, this]
          · rw [getD_set_ne false (Ne.symm hpi)]
            by_cases hqi : q = i
            · subst hqi
              obtain ⟨o', ho', e', he', hb', hon'⟩ := of_bindsOn hb
              rw [hoi] at ho'; cases ho'
              rw [← hon']; exact hall e' he' hb'
            · rw [getD_set_ne false (Ne.symm hqi)] at hq
              exact hcl p q hb hq) e3
      unfold wpOp
      rw [hoi]
      exact this
structure PairOkL (Γ : FuncId → Option SumX) (ops : Array Oper) (i j : Nat) : Prop where
  ne : i ≠ j
  no : bindsOn ops j i = false
  sw : ordd ops 14 i j = true ∨ ∃ oi oj, ops[i]? = some oi ∧ ops[j]? = some oj ∧ swapOkL Γ ops oi oj = true
theorem pairOkL_spec {i j : Nat} (h : pairOkL Γ ops i j = true) : PairOkL Γ ops i j := by
  unfold pairOkL at h
  simp only [Bool.and_eq_true, Bool.not_eq_true', Bool.or_eq_true, beq_eq_false_iff_ne] at h
  refine ⟨h.1.1, h.1.2, h.2.symm.imp id fun h => ?_⟩
  split at h
  · rename_i oi oj h1 h2; exact ⟨oi, oj, h1, h2, h⟩
  · cases h
theorem pairsOkL_spec : ∀ {l : List Nat}, pairsOkL Γ ops l = true → l.Pairwise (PairOkL Γ ops)
  | [], _ => .nil
  | i :: l, h => by
    simp only [pairsOkL, Bool.and_eq_true] at h
    exact .cons (fun j hj => pairOkL_spec (List.all_eq_true.1 h.1 j hj)) (pairsOkL_spec h.2)
theorem drawOkL_spec {ord : List Nat} (h : drawOkL Γ ops ord = true) : ord.Pairwise (PairOkL Γ ops) ∧ ord.length = ops.size ∧ (∀ i, i ∈ ord ↔ i < ops.size) ∧ ∀ j o e, ops[j]? = some o → e ∈ o.after → Region.binds .any e = true → e.on < ops.size ∧ e.on ≠ j := by
  unfold drawOkL at h
  simp only [Bool.and_eq_true, beq_iff_eq] at h
  obtain ⟨⟨⟨h1, h0⟩, h2⟩, h3, h4⟩ := h
  refine ⟨pairsOkL_spec h4, h1, fun i => ⟨fun hi => Nat.le_of_ble_eq_true (List.all_eq_true.1 h0 i hi), fun hi => ?_⟩, fun j o e ho he hb => ?_⟩
  · have := List.all_eq_true.1 h2 i (by simpa using hi)
    exact List.contains_iff_mem.1 this
  · have hjs := (Array.getElem?_eq_some_iff.1 ho).1
    have h5 := List.all_eq_true.1 h3 (o, j) (by
      rw [List.mem_zipIdx_iff_getElem?]
      simpa using ho)
    have h6 := List.all_eq_true.1 h5 e.on (before_spec ho he hb rfl)
    simp only [Bool.and_eq_true, Bool.not_eq_true', beq_eq_false_iff_ne] at h6
    exact ⟨Nat.le_of_ble_eq_true h6.1, h6.2⟩

theorem bubbleL (hΓc : ∀ f x, Γ f = some x → x.calm = true → CalmSum x.g) (hΓf : ∀ f x, Γ f = some x → x.fresh = true → FreshSum x.g) {oi : Oper} : ∀ {pre : List Oper} {post : List Oper} {st : St} {K : St → Option R}, (∀ x ∈ pre, swapOkL Γ ops x oi = true) → (∀ x ∈ pre, x.dst.getD 0 < 65000) → st.Low →
    evOpsL ty Γ ops (pre ++ oi :: post) st K = some r → evOpsL ty Γ ops (oi :: (pre ++ post)) st K = some r
  | [], post, st, K, _, _, _, e => e
  | x :: pre, post, st, K, hs, hd, hl, e => by
    have hsx := hs x (by simp)
    have hx16 := swapOkL_lt hsx
    have e0 : evOpL ty Γ ops x st (fun st => evOpsL ty Γ ops (pre ++ oi :: post) st K) = some r := e
    obtain ⟨e1, hx⟩ := evOpL_spec e0
    have e2 : evOper ty Γ ops x st (fun st => evOpL ty Γ ops oi st fun st => evOpsL ty Γ ops (pre ++ post) st K) = some r :=
      oper_mono hΓc hΓf (swapOkL_first hsx) hx16 hl (fun st1 hst h => by
        have hl1 : st1.Low := fun t s ht => by
          by_cases hxt : x.dst = some t
          · rw [hxt] at hx16
            have : t < 16000 := hx16
            omega
          · exact hl t s (by rw [← hst t fun d hd he => hxt (he ▸ hd)]; exact ht)
        exact bubbleL hΓc hΓf (fun y hy => hs y (by simp [hy])) (fun y hy => hd y (by simp [hy])) hl1 h) e1
    exact swapL_ok hΓc hΓf hsx hl (evOpL_of e2 hx)

/-- EACH ORDER DOES AS THE TEXT'S DOES. -/
theorem ok_anyL (hty : TyOk P ty) (hΓ : GOk P Γ) (hdr : ∀ j o e, ops[j]? = some o → e ∈ o.after → Region.binds .any e = true → e.on < ops.size ∧ e.on ≠ j) {K : St → Option R} : ∀ (fuel : Nat) {listed : Array Bool} {rest : List Nat} {G : Gh} {st : St} {a : Act} {w : World}, listed.size = ops.size → rest.length ≤ fuel →
    (∀ i, i ∈ rest ↔ i < ops.size ∧ listed.getD i true = false) → rest.Pairwise (PairOkL Γ ops) → Closed ops listed → Rel C G st a w → evOpsL ty Γ ops (atL ops rest) st K = some r →
    (∀ G' st' a' w', Rel C G' st' a' w' → st'.n = st.n → K st' = some r → Q .normal a' w') → wpAny P .any ops Q fuel listed a w := by
  intro fuel
  have hΓc : ∀ f x, Γ f = some x → x.calm = true → CalmSum x.g := fun f x h => (hΓ f x h).2.1
  have hΓf : ∀ f x, Γ f = some x → x.fresh = true → FreshSum x.g := fun f x h => (hΓ f x h).2.2
  have hnil : ∀ {listed : Array Bool} {rest : List Nat}, listed.size = ops.size → (∀ i, i ∈ rest ↔ i < ops.size ∧ listed.getD i true = false) → rest.Pairwise (PairOkL Γ ops) → Region.ready .any ops listed = [] → rest = [] := by
    intro listed rest hsz hmem hsrt hr
    cases rest with
    | nil => rfl
    | cons i l =>
      exfalso
      obtain ⟨hi, hli⟩ := (hmem i).1 (by simp)
      have hoi : ops[i]? = some ops[i] := Array.getElem?_eq_getElem hi
      have : i ∈ Region.ready .any ops listed := mem_ready.2 ⟨hli, ops[i], hoi, fun e he hb => by
        obtain ⟨h1, h1'⟩ := hdr i _ e hoi he hb
        by_cases hq : listed.getD e.on true = false
        · have h2 : e.on ∈ i :: l := (hmem e.on).2 ⟨h1, hq⟩
          rcases List.mem_cons.1 h2 with h2 | h2
          · exact absurd h2 h1'
          · have := (List.rel_of_pairwise_cons hsrt h2).no
            rw [bindsOn_of hoi he hb rfl] at this; cases this
        · have hlt : e.on < listed.size := by omega
          simp only [Array.getD_eq_getD_getElem?, Array.getElem?_eq_getElem hlt, Option.getD_some] at hq ⊢
          simpa using hq⟩
      rw [hr] at this; cases this
  induction fuel with
  | zero =>
    intro listed rest G st a w hsz hlen hmem hsrt hcl h e hK
    have : rest = [] := List.eq_nil_of_length_eq_zero (by omega)
    subst this
    refine ⟨?_, hK G st a w h rfl e⟩
    cases hr : Region.ready .any ops listed with
    | nil => rfl
    | cons i l =>
      have : i ∈ Region.ready .any ops listed := by rw [hr]; simp
      obtain ⟨h1, o, h2, _⟩ := mem_ready.1 this
      have := (hmem i).2 ⟨(Array.getElem?_eq_some_iff.1 h2).1, h1⟩
      cases this
  | succ fuel ih =>
    intro listed rest G st a w hsz hlen hmem hsrt hcl h e hK
    refine ⟨fun hr => ?_, fun i hi => ?_⟩
    · have := hnil hsz hmem hsrt hr
      subst this
      exact hK G st a w h rfl e
    · obtain ⟨hli, oi, hoi, hall⟩ := mem_ready.1 hi
      have hin : i ∈ rest := (hmem i).2 ⟨(Array.getElem?_eq_some_iff.1 hoi).1, hli⟩
      have hisz := (Array.getElem?_eq_some_iff.1 hoi).1
      obtain ⟨pre, post, rfl⟩ := List.append_of_mem hin
      have hpw := List.pairwise_append.1 hsrt
      have hpre : ∀ j ∈ pre, PairOkL Γ ops j i := fun j hj => hpw.2.2 j hj i (by simp)
      have hat : atL ops (pre ++ i :: post) = atL ops pre ++ oi :: atL ops post := by
        simp [atL, List.filterMap_append, hoi]
      have hat2 : atL ops (pre ++ post) = atL ops pre ++ atL ops post := by simp [atL]
      rw [hat] at e
      have hpres : ∀ x ∈ atL ops pre, swapOkL Γ ops x oi = true := fun x hx => by
        obtain ⟨j, hj, hxj⟩ := List.mem_filterMap.1 hx
        rcases (hpre j hj).sw with hh | ⟨oj, oi', hoj, hoi', hh⟩
        rotate_left
        · rw [hoi] at hoi'; cases hoi'
          rw [hoj] at hxj; cases hxj
          exact hh
        · exfalso
          have := ordd_closed hcl hh (fun k hk => by
            obtain ⟨o', ho', e', he', hb', hon'⟩ := of_bindsOn hk
            rw [hoi] at ho'; cases ho'
            rw [← hon']; exact hall e' he' hb')
          have hj2 := ((hmem j).1 (by simp [hj]))
          have hlt : j < listed.size := by omega
          simp only [Array.getD_eq_getD_getElem?, Array.getElem?_eq_getElem hlt, Option.getD_some] at this hj2
          rw [this] at hj2; cases hj2.2
      have hd65 : ∀ x ∈ atL ops pre, x.dst.getD 0 < 65000 := fun x hx => by
        exact Nat.lt_of_lt_of_le (swapOkL_lt (hpres x hx)) (by decide)
      have e2 := bubbleL hΓc hΓf hpres hd65 h.low e
      rw [← hat2] at e2
      have e3 : evOper ty Γ ops oi st (fun st => evOpsL ty Γ ops (atL ops (pre ++ post)) st K) = some r := (evOpL_spec e2).1
      have := ok_oper (Q := Q) hty hΓ (next := wpAny P .any ops Q fuel (listed.setIfInBounds i true)) h (fun G' st' a' w' h1 h2 h3 => by
        refine ih (listed := listed.setIfInBounds i true) (rest := pre ++ post) (by simpa using hsz) (by simp at hlen ⊢; omega) (fun j => ?_) ?_ (fun p q hb hq => ?_) h1 h3 (fun G2 st2 a2 w2 h4 h5 h6 => hK G2 st2 a2 w2 h4 (h5.trans h2) h6)
        · by_cases hji : j = i
          · subst hji
            have : (listed.setIfInBounds j true).getD j true = true := by
              have : j < listed.size := by omega
              simp [Array.getD_eq_getD_getElem?, this]
            rw [this]
            constructor
            · intro hm
              exfalso
              rcases List.mem_append.1 hm with hm | hm
              · exact (hpre j hm).ne rfl
              · exact (List.rel_of_pairwise_cons hpw.2.1 hm).ne rfl
            · rintro ⟨_, hh⟩; cases hh
          · have : (listed.setIfInBounds i true).getD j true = listed.getD j true := getD_set_ne true (Ne.symm hji)
            rw [this, ← hmem j]
            simp [hji]
        · rw [List.pairwise_append]
          exact ⟨hpw.1, (List.pairwise_cons.1 hpw.2.1).2, fun x hx y hy => hpw.2.2 x hx y (by simp [hy])⟩
        · by_cases hpi : p = i
          · subst hpi
            have : p < listed.size := by omega
            simp [Array.getD_eq_getD_getElem?, this]
          · rw [getD_set_ne false (Ne.symm hpi)]
            by_cases hqi : q = i
            · subst hqi
              obtain ⟨o', ho', e', he', hb', hon'⟩ := of_bindsOn hb
              rw [hoi] at ho'; cases ho'
              rw [← hon']; exact hall e' he' hb'
            · rw [getD_set_ne false (Ne.symm hqi)] at hq
              exact hcl p q hb hq) e3
      unfold wpOp
      rw [hoi]
      exact this
end
end Go.Ev

namespace Go.Ev

def RepV (w : World) (ok : Nat → Prop) (g : Bool) (k : K) (x : k.T) (v : Value) : Prop := ∃ cs, RepT w ok k x cs ∧ ((g = true ∧ v = .agg cs.toArray) ∨ (g = false ∧ cs = [v]))


section
variable {P : Program} {C : Cx} {G : Gh} {st : St} {a : Act} {w w' : World} {ok ok' : Nat → Prop}

theorem RepV.trans {g : Bool} {k : K} {x : k.T} {v : Value} (H : Keeps w w' ok ok') (h : RepV w ok g k x v) : RepV w' ok' g k x v := by
  obtain ⟨cs, h1, h2⟩ := h; exact ⟨cs, h1.trans H, h2⟩

theorem RepT.flat {k : K} {x : k.T} {cs : List Value} (hf : k.flat = true) (h : RepT w ok k x cs) : RepT w ok' k x cs := (h.own hf).rep (by simp)
theorem RepV.flat {g : Bool} {k : K} {x : k.T} {v : Value} (hf : k.flat = true) (h : RepV w ok g k x v) : RepV w ok' g k x v := by
  obtain ⟨cs, h1, h2⟩ := h; exact ⟨cs, h1.flat hf, h2⟩

theorem leaf1_rep {k : K} {x : k.T} {v : Value} (h : RepT w ok k x [v]) : RepLeaf w ok G (leaf1 (k.lv x)) v := by
  have h1 : RepLeafs w ok G (k.lv x) [v] := h.lv
  have hl := K.lv_length k x
  have h2 := h1.length
  cases hls : k.lv x with
  | nil => rw [hls] at h2; simp at h2
  | cons l ls =>
    cases ls with
    | nil => rw [hls] at h1; exact h1.1
    | cons l' ls => rw [hls] at h2; simp at h2

theorem mkS_rep {g : Bool} {k : K} {x : k.T} {v : Value} (h : RepV w ok g k x v) : RepSlot w ok G (mkS g k x) v := by
  obtain ⟨cs, h1, ⟨rfl, rfl⟩ | ⟨rfl, rfl⟩⟩ := h
  · exact ⟨cs, rfl, h1.lv⟩
  · exact leaf1_rep h1

theorem rep_agg {s : Slot} {v : Value} (hs : RepSlot w ok G s v) (hne : s.leafs ≠ []) {k : K} {x : k.T} (hr : RepT w ok' k x v.cells.toList) : RepV w ok' s.isAg k x v := by
  refine ⟨_, hr, ?_⟩
  cases s with
  | lf l =>
    right
    exact ⟨rfl, cells_one (RepLeaf.one (show RepLeaf w ok G l v from hs))⟩
  | ag ls =>
    left
    obtain ⟨vs, rfl, _⟩ := hs
    exact ⟨rfl, by simp [Value.cells]⟩
  | _ => simp [Slot.leafs] at hne

theorem fixLeaf_rep (h : Rel C G st a w) {f l : Leaf} {v : Value} (hl : RepLeaf w (G.ok C) G l v) (e : fixLeaf st f l = true) : RepLeaf w (G.ok C) G f v := by
  unfold fixLeaf at e
  split at e
  · rename_i i j
    have hij : i = j := by simpa using e
    subst hij; exact hl
  · rename_i i
    split at e
    · rename_i re rd hr
      obtain ⟨ai, hA, ha⟩ := h.mem.arrR i _ hr
      have hn : ai.n = 0 := by have := ha.n; simpa using this
      have hv : v = .slice none 0 0 := hl
      exact ⟨ai, none, 0, hA, by rw [hv, hn], by omega, fun h0 => by omega⟩
    · cases e
  · simp only [Bool.and_eq_true, beq_iff_eq] at e
    obtain ⟨rfl, rfl⟩ := e; exact hl
  · simp only [Bool.and_eq_true, beq_iff_eq] at e
    obtain ⟨rfl, rfl⟩ := e; exact hl
  · simp only [Bool.and_eq_true, beq_iff_eq] at e
    obtain ⟨⟨rfl, rfl⟩, rfl, rfl⟩ := e; exact hl
  · exact hl
  · exact hl
  · exact hl
  · exact hl
  · exact hl
  · obtain ⟨p, _, hp⟩ := hl; exact ⟨_, _, hp⟩
  · exact hl.one
  · cases e

theorem fixLeaf_no_sl {st : St} {f l : Leaf} (e : fixLeaf st f l = true) : ∀ k x b, f ≠ .sl k x b := by
  intro k x b hf
  subst hf
  simp [fixLeaf] at e


theorem rdSS_rep0 (h : Rel C G st a w) {s : SS} {sl : Slot} {v : Value} {x : s.T} (hs : RepSlot w (G.ok C) G sl v) (e : rdSS st s sl = some x) : RepSlot w (G.ok C) G (mkSS s x) v := by
  cases s with
  | val g k =>
    simp only [rdSS] at e
    cases hg : (sl.isAg == g)
    · rw [hg] at e; cases e
    · rw [hg] at e
      simp only [cond_true] at e
      have hg' : sl.isAg = g := by simpa using hg
      have hne : sl.leafs ≠ [] := fun hc => by rw [hc, K.rd_nil] at e; cases e
      have hr := rep_agg hs hne ((leafs_rep' hs hne).rd e)
      rw [hg'] at hr
      exact mkS_rep hr
  | rp k =>
    simp only [rdSS] at e
    split at e
    · rename_i ls
      obtain ⟨ad, h3, h4, cs, h5, h6⟩ := hs
      have hrt := (h5.take k.sz).rd e
      have hne : ls ≠ [] := fun hc => by rw [hc, List.take_nil, K.rd_nil] at e; cases e
      refine ⟨ad, h3, fun _ => h4 hne, cs.take k.sz, hrt.lv, fun j c hj => h6 j c ?_⟩
      rw [List.getElem?_take] at hj; split at hj
      · exact hj
      · cases hj
    · cases e
  | fix f =>
    simp only [rdSS] at e
    cases hfx : fixSlot st f sl
    · rw [hfx] at e; cases e
    · unfold fixSlot at hfx
      split at hfx
      · exact fixLeaf_rep h hs hfx
      · trivial
      · cases hfx
end

section
variable {P : Program} {ty : Ty} {C : Cx} {G : Gh} {st : St} {a : Act} {w : World} {R : Type} {r : R} {Γ : FuncId → Option SumX} {ops : Array Oper} {Q : Exit → Act → World → Prop}

theorem calm_ops (hΓc : ∀ f x, Γ f = some x → x.calm = true → CalmSum x.g) : ∀ {os : List Oper} {st : St} {K : St → Option R}, (∀ o ∈ os, calmOp Γ o = true ∧ o.dst.getD 0 < 65000) → st.Low → evOps ty Γ ops os st K = some r →
    ∃ st', K st' = some r ∧ st'.n = st.n ∧ st'.box = st.box ∧ st'.arr = st.arr ∧ (∀ t, (∀ o ∈ os, o.dst ≠ some t) → st'.env.get t = st.env.get t) ∧ ∀ {R' : Type} {K' : St → Option R'} {r' : R'}, K' st' = some r' → evOps ty Γ ops os st K' = some r'
  | [], st, K, _, _, e => ⟨st, e, rfl, rfl, rfl, fun _ _ => rfl, fun h => h⟩
  | o :: os, st, K, ho, hl, e => by
    have e0 : evOper ty Γ ops o st (fun st => evOps ty Γ ops os st K) = some r := e
    obtain ⟨hc, hd⟩ := ho o (by simp)
    obtain ⟨s, h1, h2⟩ := calm_oper hΓc hc hl e0
    obtain ⟨st', g1, g2, g3, g4, g5, g6⟩ := calm_ops hΓc (fun x hx => ho x (by simp [hx])) (Low.put hd hl) h1
    refine ⟨st', g1, g2.trans (put_n _ _), g3.trans (put_box _ _), g4.trans (put_arr _ _), fun t ht => ?_, fun h3 => ?_⟩
    · rw [g5 t fun x hx => ht x (by simp [hx])]
      exact put_get fun x hx e => ht o (by simp) (e ▸ hx)
    · exact h2 (St.Ext.refl st) rfl (fun _ _ => rfl) hl (K' := fun st => evOps ty Γ ops os st _) (g6 h3)

theorem dropEnv_get : ∀ {os : List Oper} {t : Tr Slot} {i : Nat} {s : Slot}, (∀ o ∈ os, o.dst.getD 0 < 65000) → (dropEnv os t).get i = some s → (∀ o ∈ os, o.dst ≠ some i) ∧ t.get i = some s
  | [], t, i, s, _, h => ⟨fun _ h => (by cases h), h⟩
  | o :: os, t, i, s, hd, h => by
    unfold dropEnv at h
    split at h
    · rename_i d hdst
      have hd0 : d < 65000 := by have := hd o (by simp); rw [hdst] at this; exact this
      by_cases e : i = d
      · subst e; rw [Tr.get_set_same _ _ hd0] at h; cases h
      · rw [Tr.get_set_ne _ _ e] at h
        obtain ⟨h1, h2⟩ := dropEnv_get (fun x hx => hd x (by simp [hx])) h
        refine ⟨fun x hx => ?_, h2⟩
        rcases List.mem_cons.1 hx with rfl | hx
        · rw [hdst]; exact fun hc => e (Option.some.inj hc).symm
        · exact h1 x hx
    · rename_i hdst
      obtain ⟨h1, h2⟩ := dropEnv_get (fun x hx => hd x (by simp [hx])) h
      refine ⟨fun x hx => ?_, h2⟩
      rcases List.mem_cons.1 hx with rfl | hx
      · rw [hdst]; exact fun hc => by cases hc
      · exact h1 x hx

theorem addEnv_get {st : St} : ∀ {l : List (Nat × SS)} {x : EArgs l} {t0 : Tr Slot} {t : Nat} {s' : Slot}, l.all (fun q => Nat.blt q.1 65000) = true → rdEnv st l = some x → (addEnv l x t0).get t = some s' →
    (∃ q ∈ l, ∃ sl y, q.1 = t ∧ st.env.get t = some sl ∧ rdSS st q.2 sl = some y ∧ s' = mkSS q.2 y) ∨ t0.get t = some s'
  | [], x, t0, t, s', _, _, e => .inr e
  | p :: l, x, t0, t, s', hl, hr, e => by
    simp only [List.all_cons, Bool.and_eq_true] at hl
    simp only [rdEnv] at hr
    split at hr
    · rename_i sl hsl
      split at hr
      · rename_i y hy
        split at hr
        · rename_i ys h2
          cases hr
          simp only [addEnv] at e
          by_cases et : t = p.1
          · subst et
            rw [Tr.get_set_same _ _ (Nat.le_of_ble_eq_true hl.1)] at e; cases e
            exact .inl ⟨p, by simp, sl, y, rfl, hsl, hy, rfl⟩
          · rw [Tr.get_set_ne _ _ et] at e
            rcases addEnv_get hl.2 h2 e with ⟨q, h3, h4⟩ | h3
            · exact .inl ⟨q, by simp [h3], h4⟩
            · exact .inr h3
        · cases hr
      · cases hr
    · cases hr

theorem atL_range : atL ops (List.range ops.size) = ops.toList := by
  have h1 : ∀ (l : List Oper) (k : Nat), (∀ j, l[j]? = ops[k + j]?) → atL ops (List.range' k l.length) = l := by
    intro l
    induction l with
    | nil => intro k _; rfl
    | cons o l ih =>
      intro k hk
      have h0 : ops[k]? = some o := by simpa using (hk 0).symm
      have := ih (k + 1) (fun j => by have := hk (j + 1); simpa [Nat.add_assoc, Nat.add_comm 1 j] using this)
      simp only [atL, List.length_cons, List.range'_succ, List.filterMap_cons, h0] at this ⊢
      rw [this]
  have := h1 ops.toList 0 (by simp)
  rwa [← List.range_eq_range', Array.length_toList] at this

theorem wpReg (hty : TyOk P ty) (hΓ : GOk P Γ) {id : Nat} {K : St → Option R} (h : Rel C G st a w)
    (hK : ∀ G' st' a' w', Rel C G' st' a' w' → st'.n = st.n → K st' = some r → Q .normal a' w') (e : evOps ty Γ ops ops.toList st K = some r) : (Code.region id ops false).wp P Q a w :=
  wp_region_list (ok_ops hty hΓ h hK e)
theorem wpRegD (hty : TyOk P ty) (hm : P.follows .mixedOrders = true) (hΓ : GOk P Γ) {id : Nat} {ord : List Nat} (hdr : drawOk Γ ops ord = true) {K : St → Option R} (h : Rel C G st a w)
    (hK : ∀ G' st' a' w', Rel C G' st' a' w' → st'.n = st.n → K st' = some r → Q .normal a' w') (e : evOps ty Γ ops (atL ops ord) st K = some r) : (Code.region id ops true).wp P Q a w := by
  obtain ⟨h1, h2, h3, h4⟩ := drawOk_spec hdr
  refine wp_region_any hm ?_
  refine ok_any (st := st) hty hΓ h4 ops.size (rest := ord) (by simp) (by omega) (fun i => ?_) h1 (fun i j _ hj => ?_) (h.drawn (w.drawn + 1)) e hK
  · rw [h3]
    constructor
    · intro hi; exact ⟨hi, by simp [hi]⟩
    · exact fun h => h.1
  · exfalso
    by_cases hjs : j < ops.size
    · simp [hjs] at hj
    · simp [hjs] at hj

theorem wpRegDL (hty : TyOk P ty) (hm : P.follows .mixedOrders = true) (hΓ : GOk P Γ) {id : Nat} {ord : List Nat} (hdr : drawOkL Γ ops ord = true) {K : St → Option R} (h : Rel C G st a w)
    (hK : ∀ G' st' a' w', Rel C G' st' a' w' → st'.n = st.n → K st' = some r → Q .normal a' w') (e : evOpsL ty Γ ops (atL ops ord) st K = some r) : (Code.region id ops true).wp P Q a w := by
  obtain ⟨h1, h2, h3, h4⟩ := drawOkL_spec hdr
  refine wp_region_any hm ?_
  refine ok_anyL (st := st) hty hΓ h4 ops.size (rest := ord) (by simp) (by omega) (fun i => ?_) h1 (fun i j _ hj => ?_) (h.drawn (w.drawn + 1)) e hK
  · rw [h3]
    constructor
    · intro hi; exact ⟨hi, by simp [hi]⟩
    · exact fun h => h.1
  · exfalso
    by_cases hjs : j < ops.size
    · simp [hjs] at hj
    · simp [hjs] at hj

/-- A region all of whose ways are brought together. -/
theorem ok_join (hΓ : GOk P Γ) {ds : List (Nat × SS)} {K : St → Option R} {c : Code} (hwp : ∀ {R' : Type} {r' : R'} {K' : St → Option R'} {Q : Exit → Act → World → Prop}, (∀ G' st' a' w', Rel C G' st' a' w' → st'.n = st.n → K' st' = some r' → Q .normal a' w') → evOps ty Γ ops ops.toList st K' = some r' → c.wp P Q a w) (h : Rel C G st a w)
    (hK : ∀ G' st' a' w', Rel C G' st' a' w' → st'.n = st.n → K st' = some r → Q .normal a' w') (e : evJoin ty Γ ds ops st K = some r) : c.wp P Q a w := by
  unfold evJoin at e
  cases hc : (ops.toList.all (fun o => calmOp Γ o && Nat.blt (o.dst.getD 0) 65000) && ds.all (fun p => Nat.blt p.1 65000))
  · rw [hc] at e; cases e
  · rw [hc] at e
    simp only [cond_true] at e
    simp only [Bool.and_eq_true] at hc
    obtain ⟨y, e1, e2⟩ := Option.bind_eq_some_iff.1 e
    have hall : ∀ o ∈ ops.toList, calmOp Γ o = true ∧ o.dst.getD 0 < 65000 := fun o ho => by
      have := List.all_eq_true.1 hc.1 o ho
      simp only [Bool.and_eq_true] at this
      exact ⟨this.1, Nat.le_of_ble_eq_true this.2⟩
    obtain ⟨st1, g1, g2, g3, g4, g5, g6⟩ := calm_ops (fun f x h => (hΓ f x h).2.1) hall h.low e1
    have key := g6 (R' := Unit) (K' := fun s => open Classical in if s = st1 then some () else none) (r' := ()) (by simp)
    refine hwp (fun G' st' a' w' h1 h2 h3 => ?_) key
    have hst : st' = st1 := by
      by_cases hh : st' = st1
      · exact hh
      · simp [hh] at h3
    subst hst
    refine hK G' { st with env := addEnv ds y (dropEnv ops.toList st.env) } a' w' ⟨h1.size.trans h2, h.n, h1.dfr, fun t s ht => ?_, ?_, h1.fr⟩ rfl e2
    · rcases addEnv_get hc.2 g1 ht with ⟨q, hq, sl, u, rfl, q1, q2, rfl⟩ | hh
      · obtain ⟨hlt, hs⟩ := h1.env _ _ q1
        exact ⟨by show q.1 < st.n; rw [← h2]; exact hlt, rdSS_rep0 h1 hs q2⟩
      · obtain ⟨q1, q2⟩ := dropEnv_get (fun o ho => (hall o ho).2) hh
        rw [← g5 t q1] at q2
        obtain ⟨hlt, hs⟩ := h1.env _ _ q2
        exact ⟨by show t < st.n; rw [← h2]; exact hlt, hs⟩
    · have := h1.mem
      rw [g3, g4] at this
      exact this

def Ex.exit' : Ex → Exit
  | .normal => .normal
  | .exit i => .exit i
  | .ret => .ret

/-- What a summary says of a loop is so. -/
def LSumOk (P : Program) (b : Code) (L : LSum) : Prop :=
  ∀ {C : Cx} {G : Gh} {st : St} {a : Act} {w : World} {R : Type} {K : Ex → St → Option R} {r : R} {Q : Exit → Act → World → Prop}, Rel C G st a w →
    (∀ ex G' st' a' w', Rel C G' st' a' w' → st'.n = st.n → K ex st' = some r → Q ex.exit' a' w') → L st R K = some r → (Code.loop b).wp P Q a w

/-- The loops of a code that lie in no other. -/
def loops : Code → List Code
  | .seq a b | .cond _ a b => loops a ++ loops b
  | .block _ a => loops a
  | .loop a => [a]
  | _ => []

theorem ok_code (hty : TyOk P ty) (hm : P.follows .mixedOrders = true) {J : Nat → Option (List (Nat × SS))} {Γ : FuncId → Option SumX} (hΓ : GOk P Γ) {Λ : Nat → Option LSum} : ∀ {c : Code} {G : Gh} {st : St} {a : Act} {w : World} {R : Type} {K : Ex → St → Option R} {r : R} {Q : Exit → Act → World → Prop},
    (∀ b ∈ loops c, ∀ L, (firstRegion b).bind Λ = some L → LSumOk P b L) → Rel C G st a w →
    (∀ ex G' st' a' w', Rel C G' st' a' w' → st'.n = st.n → K ex st' = some r → Q ex.exit' a' w') → evCode ty Γ J Λ c st K = some r → c.wp P Q a w
  | .skip, G, st, a, w, R, K, r, Q, hΛ, h, hK, e => wp_skip (hK .normal G st a w h rfl e)
  | .region id ops draw, G, st, a, w, R, K, r, Q, hΛ, h, hK, e => by
    unfold evCode at e
    have hK' : ∀ G' st' a' w', Rel C G' st' a' w' → st'.n = st.n → K .normal st' = some r → Q .normal a' w' := fun G' st' a' w' h1 h2 h3 => hK .normal G' st' a' w' h1 h2 h3
    cases draw with
    | false =>
      simp only [cond_false] at e
      unfold evReg at e
      split at e
      · exact ok_join hΓ (fun hK e => wpReg hty hΓ h hK e) h hK' e
      · exact wpReg hty hΓ h hK' e
    | true =>
      simp only [cond_true] at e
      split at e
      · rename_i ds _
        cases hdr : drawOk Γ ops (List.range ops.size)
        · rw [hdr] at e; cases e
        · rw [hdr] at e
          exact ok_join hΓ (fun hK e => wpRegD hty hm hΓ hdr h hK (by rw [atL_range]; exact e)) h hK' e
      · cases hdr : drawOkL Γ ops (ordOf Γ ops)
        · rw [hdr] at e; cases e
        · rw [hdr] at e
          exact wpRegDL hty hm hΓ hdr h hK' e
  | .seq x y, G, st, a, w, R, K, r, Q, hΛ, h, hK, e => by
    unfold evCode at e
    refine wp_seq (ok_code hty hm hΓ (fun b hb => hΛ b (by simp [loops, hb])) h (fun ex G' st' a' w' h1 h2 h3 => ?_) e)
    cases ex with
    | normal => exact ok_code hty hm hΓ (fun b hb => hΛ b (by simp [loops, hb])) h1 (fun ex G2 st2 a2 w2 h4 h5 h6 => hK ex G2 st2 a2 w2 h4 (h5.trans h2) h6) h3
    | exit i => exact hK (.exit i) G' st' a' w' h1 h2 h3
    | ret => exact hK .ret G' st' a' w' h1 h2 h3
  | .cond c x y, G, st, a, w, R, K, r, Q, hΛ, h, hK, e => by
    unfold evCode at e
    split at e
    · rename_i t
      split at e
      · rename_i b hb
        obtain ⟨hlt, hv⟩ := h.env t _ hb
        have hv' : a.eval (.tmp t) = .bool b := hv
        have hst : Rel C G (st.setEnv t (.lf (.bool b))) a w := h.setEnv hlt hv
        cases b
        · exact wp_cond_false hv' (ok_code hty hm hΓ (fun b hb => hΛ b (by simp [loops, hb])) hst hK e)
        · exact wp_cond_true hv' (ok_code hty hm hΓ (fun b hb => hΛ b (by simp [loops, hb])) hst hK e)
      · cases e
    · rename_i b
      cases b
      · exact wp_cond_false rfl (ok_code hty hm hΓ (fun b hb => hΛ b (by simp [loops, hb])) h hK e)
      · exact wp_cond_true rfl (ok_code hty hm hΓ (fun b hb => hΛ b (by simp [loops, hb])) h hK e)
    · cases e
  | .block id x, G, st, a, w, R, K, r, Q, hΛ, h, hK, e => by
    unfold evCode at e
    refine wp_block (ok_code hty hm hΓ (fun b hb => hΛ b (by simpa [loops] using hb)) h (fun ex G' st' a' w' h1 h2 h3 => ?_) e)
    cases ex with
    | normal => exact hK .normal G' st' a' w' h1 h2 h3
    | exit i =>
      show if i = id then Q .normal a' w' else Q (.exit i) a' w'
      cases hi : (i == id)
      · simp only [hi, cond_false] at h3
        rw [if_neg (by simpa using hi)]
        exact hK (.exit i) G' st' a' w' h1 h2 h3
      · simp only [hi, cond_true] at h3
        rw [if_pos (by simpa using hi)]
        exact hK .normal G' st' a' w' h1 h2 h3
    | ret => exact hK .ret G' st' a' w' h1 h2 h3
  | .loop x, G, st, a, w, R, K, r, Q, hΛ, h, hK, e => by
    unfold evCode at e
    split at e
    · rename_i L hL
      exact hΛ x (by simp [loops]) L hL h hK e
    · cases e
  | .exit id, G, st, a, w, R, K, r, Q, hΛ, h, hK, e => wp_exit (hK (.exit id) G st a w h rfl e)
  | .ret, G, st, a, w, R, K, r, Q, hΛ, h, hK, e => wp_ret (hK .ret G st a w h rfl e)
  | .rangeFunc .., G, st, a, w, R, K, r, Q, hΛ, h, hK, e | .scope _, G, st, a, w, R, K, r, Q, hΛ, h, hK, e | .label _, G, st, a, w, R, K, r, Q, hΛ, h, hK, e | .goto _, G, st, a, w, R, K, r, Q, hΛ, h, hK, e | .refuse _, G, st, a, w, R, K, r, Q, hΛ, h, hK, e => by
    unfold evCode at e; cases e
end
end Go.Ev

namespace Go.Ev

/-- As K.rd, but arrays of one's own may be looked at. -/
def K.rdS (st : St) : (k : K) → List Leaf → Option k.T
  | .int k, ls => K.rd (.int k) ls
  | .bool, ls => K.rd .bool ls
  | .str, ls => K.rd .str ls
  | .sl e, ls => match ls with
    | [l] => st.cont e l
    | _ => none
  | .pr a b, ls =>
    match a.rdS st (ls.take a.sz), b.rdS st (ls.drop a.sz) with
    | some x, some y => some (x, y)
    | _, _ => none

def Leaf.owns : Leaf → List Nat
  | .own id => [id]
  | .sub id _ _ => [id]
  | _ => []
def Slot.owns : Slot → List Nat
  | .lf l => l.owns
  | .ag ls => ls.flatMap Leaf.owns
  | .ep id _ _ => [id]
  | _ => []
/-- Own arrays are given up. -/
def frz : List Nat → St → List Slot → St × List Slot
  | [], st, ss => (st, ss)
  | id :: ids, st, ss => match st.arr.get id with
    | some a => frz ids (st.freeze id a) (ss.map (Slot.freeze id a))
    | none => frz ids st ss

section
variable {P : Program} {C : Cx} {G : Gh} {st : St} {a : Act} {w w' : World} {ok ok' : Nat → Prop}

/-- Memory that no box lies in, or memory that never turns. -/
theorem rdS_rep (h : Rel C G st a w) : ∀ {k : K} {ls : List Leaf} {vs : List Value} {x : k.T}, RepLeafs w (G.ok C) G ls vs → k.rdS st ls = some x → RepT w (fun _ => True) k x vs
  | .int k, ls, vs, x, hr, e => (hr.rd (k := .int k) e).trans fun _ _ _ h => ⟨trivial, h⟩
  | .bool, ls, vs, x, hr, e => (hr.rd (k := .bool) e).trans fun _ _ _ h => ⟨trivial, h⟩
  | .str, ls, vs, x, hr, e => (hr.rd (k := .str) e).trans fun _ _ _ h => ⟨trivial, h⟩
  | .sl el, ls, vs, x, hr, e => by
    simp only [K.rdS] at e
    split at e
    · rename_i l
      cases vs with
      | nil => exact hr.elim
      | cons v vs =>
        cases vs with
        | cons _ _ => exact hr.2.elim
        | nil =>
          obtain ⟨A, c, h1, h2, h3⟩ := cont_rep h hr.1 e
          refine ⟨A, c, by rw [h1], h2, fun i hi => ?_⟩
          obtain ⟨ad, h4, cs, h5, h6⟩ := h3 i hi
          exact ⟨ad, h4, trivial, cs, h5.trans fun _ _ _ h => ⟨trivial, h⟩, h6⟩
    · cases e
  | .pr p q, ls, vs, x, hr, e => by
    simp only [K.rdS] at e
    split at e
    · rename_i y z h1 h2
      cases e
      exact ⟨vs.take p.sz, vs.drop p.sz, (List.take_append_drop _ _).symm, rdS_rep h (hr.take _) h1, rdS_rep h (hr.drop _) h2⟩
    · cases e

theorem rdS_nil : ∀ k : K, k.rdS st [] = none
  | .int _ | .bool | .str | .sl _ => rfl
  | .pr a b => by simp [K.rdS, rdS_nil a]

theorem frz_rep : ∀ {ids : List Nat} {G : Gh} {st : St} {ss : List Slot} {vals : List Value}, Rel C G st a w → RepSlots w (G.ok C) G ss vals →
    ∃ G', Rel C G' (frz ids st ss).1 a w ∧ (frz ids st ss).1.n = st.n ∧ RepSlots w (G'.ok C) G' (frz ids st ss).2 vals
  | [], G, st, ss, vals, h, hs => ⟨G, h, rfl, hs⟩
  | id :: ids, G, st, ss, vals, h, hs => by
    unfold frz
    cases hr : st.arr.get id with
    | none => exact frz_rep h hs
    | some r =>
      obtain ⟨ai0, hA0, _⟩ := h.mem.arrR id r hr
      obtain ⟨g1, H, ai, hA, ha, hblk⟩ := h.freeze (h.mem.ia id _ hA0) hr
      obtain ⟨G', g2, g3, g4⟩ := frz_rep (ids := ids) g1 (ss := ss.map (Slot.freeze id r)) (vals := vals) (by
        clear g1
        induction ss generalizing vals with
        | nil => cases vals with
          | nil => trivial
          | cons _ _ => exact hs.elim
        | cons s ss ih => cases vals with
          | nil => exact hs.elim
          | cons v vals => exact ⟨Slot.freeze_rep hA ha H hblk hs.1, ih _ hs.2⟩)
      exact ⟨G', g2, g3, g4⟩

end
end Go.Ev

namespace Go.Ev

/-- What is told of a part of cells: data; a leaf as it stands. -/
inductive BS where
  | val (k : K) | fix (l : Leaf)
@[reducible] def BArgs : List BS → Type
  | [] => Unit
  | .val k :: l => k.T × BArgs l
  | .fix _ :: l => BArgs l
/-- What is told of a slot: data; a pointer to data that never turn; cells; a leaf as it stands. -/
inductive ES where
  | val (g : Bool) (k : K) | rp (k : K) | mix (g : Bool) (l : List BS) | fix (l : Leaf)
@[reducible] def EArgs2 : List (Nat × ES) → Type
  | [] => Unit
  | (_, .val _ k) :: l => k.T × EArgs2 l
  | (_, .rp k) :: l => k.T × EArgs2 l
  | (_, .mix _ b) :: l => BArgs b × EArgs2 l
  | (_, .fix _) :: l => EArgs2 l
@[reducible] def BsArgs : List (Nat × List BS) → Type
  | [] => Unit
  | p :: l => BArgs p.2 × BsArgs l
@[reducible] def AArgs : List (Nat × K × Bool) → Type
  | [] => Unit
  | p :: l => List p.2.1.T × AArgs l

/-- A small state: its size; slots, boxes, arrays. -/
structure Sp where
  n : Nat
  env : List (Nat × ES)
  box : List (Nat × List BS)
  arr : List (Nat × K × Bool)
@[reducible] def Sp.T (p : Sp) : Type := EArgs2 p.env × BsArgs p.box × AArgs p.arr

def mkBox : (l : List BS) → BArgs l → List Leaf
  | [], _ => []
  | .val k :: l, x => k.lv x.1 ++ mkBox l x.2
  | .fix f :: l, x => f :: mkBox l x
def mkSl : (l : List (Nat × ES)) → EArgs2 l → List Slot
  | [], _ => []
  | (_, .val g k) :: l, x => mkS g k x.1 :: mkSl l x.2
  | (_, .rp k) :: l, x => .rp (k.lv x.1) :: mkSl l x.2
  | (_, .mix g b) :: l, x => (bif g then .ag (mkBox b x.1) else .lf (leaf1 (mkBox b x.1))) :: mkSl l x.2
  | (_, .fix f) :: l, x => .lf f :: mkSl l x
def mkEnv : List (Nat × ES) → List Slot → Tr Slot
  | p :: l, s :: ss => (mkEnv l ss).set p.1 (some s)
  | _, _ => .nil
def mkBoxs : (l : List (Nat × List BS)) → BsArgs l → Tr (List Leaf)
  | [], _ => .nil
  | p :: l, x => (mkBoxs l x.2).set p.1 (some (mkBox p.2 x.1))
def mkArrs : (l : List (Nat × K × Bool)) → AArgs l → Tr Arr
  | [], _ => .nil
  | p :: l, x => (mkArrs l x.2).set p.1 (some ⟨p.2.1, x.1, p.2.2⟩)
def Sp.hd (p : Sp) (x : p.T) : St := ⟨p.n, mkEnv p.env (mkSl p.env x.1), mkBoxs p.box x.2.1, mkArrs p.arr x.2.2⟩

def BS.sz : BS → Nat
  | .val k => k.sz
  | .fix _ => 1
def bsz : List BS → Nat
  | [] => 0
  | b :: l => b.sz + bsz l

/-- Where the boxes and arrays of a small state lie in a large one: box ↦ box, offset; array ↦ array, or none. -/
structure Ren where
  b : List (Nat × Nat × Nat)
  a : List (Nat × Option Nat)

def look {α : Type} : List (Nat × α) → Nat → Option α
  | [], _ => none
  | p :: l, i => bif p.1 == i then some p.2 else look l i

/-! finding the names -/
def disP (R : Ren) (b o b' o' : Nat) : Ren := match look R.b b with | some _ => R | none => ⟨(b, b', o' - o) :: R.b, R.a⟩
def disCaps : Ren → List (Nat × Nat) → List (Nat × Nat) → Ren
  | R, c :: cs, c' :: cs' => disCaps (disP R c.1 c.2 c'.1 c'.2) cs cs'
  | R, _, _ => R
def disLeaf (R : Ren) : Leaf → Leaf → Ren
  | .own j, .own i => match look R.a j with | some _ => R | none => ⟨R.b, (j, some i) :: R.a⟩
  | .own j, .nil => match look R.a j with | some _ => R | none => ⟨R.b, (j, none) :: R.a⟩
  | .ptr b o, .ptr b' o' => disP R b o b' o'
  | .ifp _ _ b o, .ifp _ _ b' o' => disP R b o b' o'
  | .fn _ cs, .fn _ cs' => disCaps R cs cs'
  | _, _ => R
def disBox (R : Ren) : List BS → List Leaf → Ren
  | .val k :: l, ls => disBox R l (ls.drop k.sz)
  | .fix f :: l, y :: ls => disBox (disLeaf R f y) l ls
  | _, _ => R
def disEnv : Ren → List (Nat × ES) → List Slot → Ren
  | R, (_, .fix f) :: l, .lf y :: ss => disEnv (disLeaf R f y) l ss
  | R, (_, .mix _ b) :: l, s :: ss => disEnv (disBox R b s.leafs) l ss
  | R, _ :: l, _ :: ss => disEnv R l ss
  | R, _, _ => R
def disBoxs (st : St) : Ren → List (Nat × List BS) → Ren
  | R, [] => R
  | R, p :: l => disBoxs st (match look R.b p.1 with
    | some (c, d) => match st.box.get c with
      | some ls => disBox R p.2 (ls.drop d)
      | none => R
    | none => R) l
def dis (p : Sp) (st : St) (ss : List Slot) : Ren := disBoxs st (disEnv ⟨[], []⟩ p.env ss) p.box

/-! looking whether they fit -/
def chkP (R : Ren) (b o b' o' : Nat) : Bool := match look R.b b with | some (c, d) => c == b' && o' == d + o | none => false
def chkCaps (R : Ren) : List (Nat × Nat) → List (Nat × Nat) → Bool
  | [], [] => true
  | c :: cs, c' :: cs' => chkP R c.1 c.2 c'.1 c'.2 && chkCaps R cs cs'
  | _, _ => false
def chkLeaf (R : Ren) : Leaf → Leaf → Bool
  | .own j, .own i => match look R.a j with | some (some i') => i' == i | _ => false
  | .own j, .nil => match look R.a j with | some none => true | _ => false
  | .ptr b o, .ptr b' o' => chkP R b o b' o'
  | .fn f cs, .fn f' cs' => f == f' && chkCaps R cs cs'
  | .ifp t g b o, .ifp t' g' b' o' => (t == t' && g == g') && chkP R b o b' o'
  | .nilp, .nilp | .nilf, .nilf | .nili, .nili | .nil, .nil | .ifx, .ifx | .ifx, .ifp .. | .dead, _ => true
  | _, _ => false

/-- Which arrays may be lent: those that are not handed over. -/
def lentL (R : Ren) : Leaf → Bool
  | .own i => !R.a.any fun p => p.2 == some i
  | .sub i _ _ => !R.a.any fun p => p.2 == some i
  | _ => true
def lentS (R : Ren) : Slot → Bool
  | .ep i _ _ => !R.a.any fun p => p.2 == some i
  | .lf (.ptr _ _) => R.b.isEmpty
  | _ => true
/-- Data of leafs; 'fl': arrays may be lent. -/
def rdV (fl : Bool) (R : Ren) (st : St) (k : K) (ls : List Leaf) : Option k.T :=
  bif fl then (bif ls.all (lentL R) then k.rdS st ls else none) else k.rd ls
def rdBx (fl : Bool) (R : Ren) (st : St) : (l : List BS) → List Leaf → Option (BArgs l)
  | [], _ => some ()
  | .val k :: l, ls => match rdV fl R st k (ls.take k.sz) with
    | some x => match rdBx fl R st l (ls.drop k.sz) with
      | some xs => some (x, xs)
      | none => none
    | none => none
  | .fix f :: l, y :: ls => bif chkLeaf R f y then rdBx fl R st l ls else none
  | .fix _ :: _, [] => none
def rdSl (fl : Bool) (R : Ren) (st : St) : (l : List (Nat × ES)) → List Slot → Option (EArgs2 l)
  | [], [] => some ()
  | (_, .val g k) :: l, s :: ss => bif s.isAg == g then (match rdV fl R st k s.leafs with
    | some x => match rdSl fl R st l ss with
      | some xs => some (x, xs)
      | none => none
    | none => none) else none
  | (_, .rp k) :: l, s :: ss => match s with
    | .rp ls => match k.rd (ls.take k.sz) with
      | some x => match rdSl fl R st l ss with
        | some xs => some (x, xs)
        | none => none
      | none => none
    | s => bif fl && lentS R s then
        match st.leafsAt k.sz s with
        | some ls => match rdV true R st k ls with
          | some x => match rdSl fl R st l ss with
            | some xs => some (x, xs)
            | none => none
          | none => none
        | none => none
      else none
  | (_, .mix g b) :: l, s :: ss => bif s.isAg == g && s.leafs.length == bsz b then (match rdBx fl R st b s.leafs with
    | some x => match rdSl fl R st l ss with
      | some xs => some (x, xs)
      | none => none
    | none => none) else none
  | (_, .fix f) :: l, s :: ss => match s with
    | .lf y => bif chkLeaf R f y then rdSl fl R st l ss else none
    | _ => none
  | _, _ => none
def rdBxs (fl : Bool) (R : Ren) (st : St) : (l : List (Nat × List BS)) → Option (BsArgs l)
  | [] => some ()
  | p :: l => match look R.b p.1 with
    | some (c, d) => match st.box.get c with
      | some ls => match rdBx fl R st p.2 (ls.drop d) with
        | some x => match rdBxs fl R st l with
          | some xs => some (x, xs)
          | none => none
        | none => none
      | none => none
    | none => none
def rdA1 (st : St) (id : Nat) (e : K) (dp : Bool) : Option (List e.T) :=
  match st.arr.get id with
  | some r => bif !dp || r.deep then (if h : r.e = e then some (h ▸ r.l) else none) else none
  | none => none
def rdAs (R : Ren) (st : St) : (l : List (Nat × K × Bool)) → Option (AArgs l)
  | [] => some ()
  | p :: l => match look R.a p.1 with
    | some (some i) => match rdA1 st i p.2.1 p.2.2 with
      | some x => match rdAs R st l with
        | some xs => some (x, xs)
        | none => none
      | none => none
    | some none => match rdAs R st l with
      | some xs => some ([], xs)
      | none => none
    | none => none

/-! the names are apart -/
def ndA : List (Nat × Option Nat) → Bool
  | [] => true
  | p :: l => (match p.2 with
    | some i => !l.any fun q => q.2 == some i
    | none => true) && ndA l
def ndK {α : Type} : List (Nat × α) → Bool
  | [] => true
  | p :: l => (!l.any fun q => q.1 == p.1) && ndK l
/-- The range of a box. -/
def rng (R : Ren) (p : Nat × List BS) : Option (Nat × Nat × Nat) := match look R.b p.1 with
  | some (c, d) => some (c, d, d + bsz p.2)
  | none => none
def apR : Option (Nat × Nat × Nat) → Option (Nat × Nat × Nat) → Bool
  | some (c, l, h), some (c', l', h') => !(c == c') || (Nat.ble h l' || Nat.ble h' l)
  | _, _ => false
def ndB (R : Ren) : List (Nat × List BS) → Bool
  | [] => true
  | p :: l => l.all (fun q => apR (rng R p) (rng R q)) && ndB R l
def fitB (R : Ren) (st : St) (p : Nat × List BS) : Bool := match rng R p with
  | some (c, _, h) => match st.box.get c with
    | some ls => Nat.ble h ls.length && !p.2.isEmpty
    | none => false
  | none => false
def okRen (p : Sp) (st : St) (R : Ren) : Bool :=
  ((ndA R.a && ndK R.a) && ndB R p.box) && (p.box.all (fitB R st) && (R.b.all (fun q => p.box.any fun r => r.1 == q.1) && R.a.all (fun q => p.arr.any fun r => r.1 == q.1)))

def mat (fl : Bool) (p : Sp) (R : Ren) (st : St) (ss : List Slot) : Option p.T :=
  bif okRen p st R then
    match rdSl fl R st p.env ss with
    | some x => match rdBxs fl R st p.box with
      | some y => match rdAs R st p.arr with
        | some z => some (x, y, z)
        | none => none
      | none => none
    | none => none
  else none

/-- Own arrays that lie where data are wanted. -/
def valB : List BS → List Leaf → List Nat
  | .val k :: l, ls => (ls.take k.sz).flatMap Leaf.owns ++ valB l (ls.drop k.sz)
  | .fix _ :: l, _ :: ls => valB l ls
  | _, _ => []
def valE : List (Nat × ES) → List Slot → List Nat
  | (_, .val _ _) :: l, s :: ss => s.owns ++ valE l ss
  | (_, .rp _) :: l, s :: ss => s.owns ++ valE l ss
  | (_, .mix _ b) :: l, s :: ss => valB b s.leafs ++ valE l ss
  | _ :: l, _ :: ss => valE l ss
  | _, _ => []
def valBs (R : Ren) (st : St) : List (Nat × List BS) → List Nat
  | [] => []
  | p :: l => (match look R.b p.1 with
    | some (c, d) => match st.box.get c with
      | some ls => valB p.2 (ls.drop d)
      | none => []
    | none => []) ++ valBs R st l
/-- Before data are handed out, the arrays in them are given up. -/
def preM (fl : Bool) (p : Sp) (R : Ren) (st : St) (ss : List Slot) : St × List Slot :=
  bif fl then (st, ss) else frz (valE p.env ss ++ valBs R st p.box) st ss

/-- The names of a small state that is well made. -/
def Leaf.inP (p : Sp) : Leaf → Bool
  | .own i => p.arr.any fun q => q.1 == i
  | .ptr b _ => p.box.any fun q => q.1 == b
  | .ifp _ _ b _ => p.box.any fun q => q.1 == b
  | .fn _ cs => cs.all fun c => p.box.any fun q => q.1 == c.1
  | .sub .. => false
  | .sl .. => false
  | _ => true
def BS.inP (p : Sp) : BS → Bool
  | .fix l => l.inP p
  | _ => true
def ES.inP (p : Sp) : ES → Bool
  | .fix l => l.inP p
  | .mix g b => (b.all fun x => x.inP p) && (g || bsz b == 1) && !b.isEmpty
  | _ => true
def Sp.ok (p : Sp) : Bool :=
  ((p.env.all fun q => q.2.inP p) && p.box.all fun q => q.2.all fun b => b.inP p) && ((p.arr.all (fun q => Nat.blt q.1 65000) && (p.box.all (fun q => Nat.blt q.1 65000) && p.env.all (fun q => Nat.blt q.1 65000))) && (ndK p.box && (ndK p.arr && ndK p.env)))
def BS.flat : BS → Bool
  | .val k => k.flat
  | _ => true
def ES.flat : ES → Bool
  | .val _ k => k.flat
  | .rp _ => false
  | .mix _ b => b.all BS.flat
  | _ => true
def Sp.flat (p : Sp) : Bool := (p.env.all fun q => q.2.flat) && ((p.box.all fun q => q.2.all BS.flat) && p.arr.all fun q => q.2.1.flat || q.2.2)
end Go.Ev
