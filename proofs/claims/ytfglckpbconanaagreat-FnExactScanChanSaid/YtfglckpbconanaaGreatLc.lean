/- What is proved here: regions in each order, code; no condition. -/
import Derived.Orders
import Derived.Test.YtfglckpbconanaaGreatLb
set_option linter.unusedVariables false
set_option linter.unusedSimpArgs false
namespace Go.Ev
namespace Tr
variable {α : Type}
theorem setF_comm : ∀ (f : Nat) (t : Tr α) (i j : Nat) (a b : Option α), i ≠ j → setF f (setF f t i a) j b = setF f (setF f t j b) i a
  | 0, _, _, _, _, _, _ => rfl
  | f + 1, t, i, j, a, b, h => by
    simp only [setF_parts]
    by_cases hi : i = 0
    · subst hi
      have hj : j ≠ 0 := fun e => h e.symm
      by_cases hj2 : j % 2 = 1 <;> simp [hj, hj2, parts]
    · by_cases hj : j = 0
      · subst hj
        by_cases hi2 : i % 2 = 1 <;> simp [hi, hi2, parts]
      · by_cases hi2 : i % 2 = 1 <;> by_cases hj2 : j % 2 = 1 <;> simp only [hi, hj, hi2, hj2, if_true, if_false, parts]
        · rw [setF_comm f _ _ _ _ _ (by omega)]
        · rw [setF_comm f _ _ _ _ _ (by omega)]
theorem set_comm (t : Tr α) {i j : Nat} (a b : Option α) (h : i ≠ j) : (t.set i a).set j b = (t.set j b).set i a := setF_comm 16 t i j a b h
theorem setF_map {β : Type} (g : α → Option β) : ∀ (f : Nat) (t : Tr α) (i : Nat) (v : Option α), (setF f t i v).map g = setF f (t.map g) i (v.bind g)
  | 0, _, _, _ => rfl
  | f + 1, .nil, i, v => by
    simp only [setF, map]
    cases (i == 0)
    · cases (i % 2 == 1)
      · simp only [cond_false, map, setF_map g f, Option.bind_none]
      · simp only [cond_true, cond_false, map, setF_map g f, Option.bind_none]
    · rfl
  | f + 1, .nd w l r, i, v => by
    simp only [setF, map]
    cases (i == 0)
    · cases (i % 2 == 1)
      · simp only [cond_false, map, setF_map g f]
      · simp only [cond_true, cond_false, map, setF_map g f]
    · rfl
theorem set_map {β : Type} (g : α → Option β) (t : Tr α) (i : Nat) (v : Option α) : (t.set i v).map g = (t.map g).set i (v.bind g) := setF_map g 16 t i v
theorem setF_get : ∀ (f : Nat) (t : Tr α) (i : Nat) (v : α), i + 1 < 2 ^ f → t.get i = some v → setF f t i (some v) = t
  | 0, _, i, _, h, _ => by omega
  | f + 1, .nil, i, v, h, e => by simp [get] at e
  | f + 1, .nd w l r, i, v, h, e => by
    simp only [setF]
    by_cases hi : i = 0
    · subst hi; simp [get] at e; simp [e]
    · by_cases hi2 : i % 2 = 1
      · rw [get_odd _ _ _ hi2] at e
        simp only [beq_eq_false_iff_ne.2 hi, hi2, cond_false, beq_self_eq_true, cond_true]
        rw [setF_get f l _ v (by omega) e]
      · rw [get_even _ _ _ hi hi2] at e
        simp only [beq_eq_false_iff_ne.2 hi, beq_eq_false_iff_ne.2 hi2, cond_false]
        rw [setF_get f r _ v (by omega) e]
theorem set_get (t : Tr α) {i : Nat} {v : α} (h : i < 65000) (e : t.get i = some v) : t.set i (some v) = t := setF_get 16 t i v (by omega) e
end Tr
section
variable {P : Program} {ty : Ty} {Γ : FuncId → Option SumX} {st : St} {R : Type} {k : St → Slot → Option R} {r : R} {o : Oper}
def Calm (ty : Ty) (Γ : FuncId → Option SumX) (o : Oper) (st : St) (s : Slot) : Prop :=
  ∀ {st' : St}, st.Ext st' → (∀ t ∈ tmpsOf o.op.operands.toList, st'.env.get t = st.env.get t) → ∀ {R' : Type} {k' : St → Slot → Option R'} {r' : R'}, k' st' s = some r' → opK ty Γ o st' k' = some r'
theorem ev_same {st st' : St} {l : List Operand} (h : ∀ t ∈ tmpsOf l, st'.env.get t = st.env.get t) : ∀ x ∈ l, st'.ev x = st.ev x := by
  intro x hx
  cases x with
  | tmp t =>
    have : t ∈ tmpsOf l := by
      clear h
      induction l with
      | nil => simp at hx
      | cons y l ih =>
        rcases List.mem_cons.1 hx with rfl | hx
        · simp [tmpsOf]
        · have := ih hx
          cases y <;> simp [tmpsOf, this]
    simp only [St.ev, h t this]
  | _ => rfl
theorem map_ev_same {st st' : St} {l l' : List Operand} (h : ∀ x ∈ l, st'.ev x = st.ev x) (hs : ∀ x ∈ l', x ∈ l) : l'.map st'.ev = l'.map st.ev := List.map_congr_left fun x hx => h x (hs x hx)
theorem cont_ext {st st' : St} (hx : st.Ext st') {e : K} {l : Leaf} {v : List e.T} (h : st.cont e l = some v) : st'.cont e l = some v := by
  unfold St.cont at *
  cases l with
  | own id =>
    obtain ⟨a, h1, h2⟩ := Option.bind_eq_some_iff.1 h
    exact Option.bind_eq_some_iff.2 ⟨a, hx.arr _ _ h1, h2⟩
  | sub id o n =>
    obtain ⟨a, h1, h2⟩ := Option.bind_eq_some_iff.1 h
    exact Option.bind_eq_some_iff.2 ⟨a, hx.arr _ _ h1, h2⟩
  | _ => exact h
theorem leafsAt_ext {st st' : St} (hx : st.Ext st') {n : Nat} {s : Slot} {ls : List Leaf} (h : st.leafsAt n s = some ls) : st'.leafsAt n s = some ls := by
  unfold St.leafsAt at *
  split at h
  · obtain ⟨a, h1, h2⟩ := Option.map_eq_some_iff.1 h
    exact Option.map_eq_some_iff.2 ⟨a, hx.box _ _ h1, h2⟩
  · obtain ⟨a, h1, h2⟩ := Option.map_eq_some_iff.1 h
    exact Option.map_eq_some_iff.2 ⟨a, hx.arr _ _ h1, h2⟩
  · exact h
  · cases h
theorem lenK_calm {l : Leaf} {k' : Nat → Option R} (e : lenK st l k' = some r) : ∃ n, k' n = some r ∧ ∀ {st' : St}, st.Ext st' → ∀ {R' : Type} {k2 : Nat → Option R'} {r' : R'}, k2 n = some r' → lenK st' l k2 = some r' := by
  unfold lenK at e
  split at e
  · exact ⟨_, e, fun _ => id⟩
  · exact ⟨_, e, fun _ => id⟩
  · rename_i id
    split at e
    · rename_i a ha
      exact ⟨_, e, fun hx _ _ _ h2 => by simp only [lenK, hx.arr _ _ ha]; exact h2⟩
    · cases e
  · exact ⟨_, e, fun _ => id⟩
  · cases e
theorem binK_calm {bt : Bool} {op : BinOp} {x y : Leaf} {k' : Leaf → Option R} (e : binK bt op x y k' = some r) : ∃ l, k' l = some r ∧ ∀ {R' : Type} {k2 : Leaf → Option R'} {r' : R'}, k2 l = some r' → binK bt op x y k2 = some r' := by
  unfold binK at e
  split at e
  · rename_i kd p kd' q
    split at e
    · cases hq : decide (q < 0)
      · rw [hq] at e; exact ⟨_, e, fun h => by simp only [binK, hq]; exact h⟩
      · rw [hq] at e; cases e
    · cases hq : decide (q < 0)
      · rw [hq] at e; exact ⟨_, e, fun h => by simp only [binK, hq]; exact h⟩
      · rw [hq] at e; cases e
    · split at e
      · cases e
      · rename_i hkk
        split at e <;> first
          | (exact ⟨_, e, fun h => by simp only [binK, if_neg hkk]; exact h⟩)
          | (cases hq : (q == 0)
             · rw [hq] at e; exact ⟨_, e, fun h => by simp only [binK, if_neg hkk, hq]; exact h⟩
             · rw [hq] at e; cases e)
          | cases e
  · rename_i p q
    split at e
    · exact ⟨_, e, fun h => h⟩
    · exact ⟨_, e, fun h => h⟩
    · cases hq : decide (((p.size + q.size : Nat) : Int) > 9223372036854775807)
      · rw [hq] at e; exact ⟨_, e, fun h => by simp only [binK, hq]; exact h⟩
      · rw [hq] at e; cases e
    · cases e
  · rename_i p q
    split at e
    · cases bt
      · cases e
      · exact ⟨_, e, fun h => h⟩
    · cases bt
      · cases e
      · exact ⟨_, e, fun h => h⟩
    · cases e
  · cases e
theorem minK_calm {g : Int → Int → Int} {kd : IntKind} : ∀ {ss : List Slot} {p : Int} {k' : Leaf → Option R}, minK g kd p ss k' = some r → ∃ l, k' l = some r ∧ ∀ {R' : Type} {k2 : Leaf → Option R'} {r' : R'}, k2 l = some r' → minK g kd p ss k2 = some r'
  | [], p, k', e => ⟨_, e, fun h => h⟩
  | s :: ss, p, k', e => by
    unfold minK at e
    split at e
    · rename_i h; cases h
    · rename_i k2 q ls heq
      simp only [List.cons.injEq] at heq
      obtain ⟨rfl, rfl⟩ := heq
      split at e
      · rename_i hk
        obtain ⟨l, h1, h2⟩ := minK_calm e
        exact ⟨l, h1, fun h => by simp only [minK, if_pos hk]; exact h2 h⟩
      · cases e
    · cases e
theorem fill_same {fs : List (Nat × Nat × Bool)} {st st' : St} : ∀ {ps : List (Nat × Operand)} {ls : List Leaf}, (∀ x ∈ ps.map (·.2), st'.ev x = st.ev x) → fillLeafs fs st' ps ls = fillLeafs fs st ps ls
  | [], _, _ => rfl
  | (i, x) :: ps, ls, h => by
    have h1 := h x (by simp)
    simp only [fillLeafs, h1]
    cases fs[i]? with
    | none => rfl
    | some t => simp only; rw [fill_same (ps := ps) fun y hy => h y (by simp at hy ⊢; exact .inr hy)]
theorem bnd_same {st st' : St} {x : Option Operand} (h : ∀ y, x = some y → st'.ev y = st.ev y) : bnd st' x = bnd st x := by
  cases x with
  | none => rfl
  | some y => simp only [bnd, h y rfl]
end
end Go.Ev

namespace Go.Ev
section
variable {P : Program} {ty : Ty} {Γ : FuncId → Option SumX} {st : St} {R : Type} {k : St → Slot → Option R} {r : R} {o : Oper}
theorem calm_of {s : Slot} (h : ∀ {st' : St}, st.Ext st' → (∀ x ∈ o.op.operands.toList, st'.ev x = st.ev x) → ∀ {R' : Type} {k' : St → Slot → Option R'} {r' : R'}, k' st' s = some r' → opK ty Γ o st' k' = some r') : Calm ty Γ o st s :=
  fun hx hev _ _ _ h2 => h hx (ev_same hev) h2
theorem calm_op (hΓc : ∀ f x, Γ f = some x → x.calm = true → CalmSum x.g) (hc : calmOp Γ o = true) (e : opK ty Γ o st k = some r) : ∃ s, k st s = some r ∧ Calm ty Γ o st s := by
  obtain ⟨dst, op, type, pos, after, guard⟩ := o
  unfold calmOp at hc
  simp only at hc
  split at hc
  · -- binOp
    rename_i op t x y t2
    have hn : isNilC y = false := by simpa using hc
    simp only [opK, hn, cond_false] at e
    split at e
    · rename_i a b h1 h2
      obtain ⟨l, h3, h4⟩ := binK_calm e
      exact ⟨.lf l, h3, calm_of fun hx hev _ _ _ h5 => by simp only [opK, hn, cond_false]; rw [hev x (by simp [Op.operands]), hev y (by simp [Op.operands]), h1, h2]; exact h4 h5⟩
    · cases e
  · rename_i x
    exact ⟨st.ev x, e, calm_of fun hx hev _ _ _ h2 => by simp only [opK]; rw [hev x (by simp [Op.operands])]; exact h2⟩
  · rename_i x
    exact ⟨st.ev x, e, calm_of fun hx hev _ _ _ h2 => by simp only [opK]; rw [hev x (by simp [Op.operands])]; exact h2⟩
  · rename_i c x y
    simp only [opK] at e
    split at e
    · rename_i b hb
      cases b
      · exact ⟨st.ev y, e, calm_of fun hx hev _ _ _ h2 => by simp only [opK]; rw [hev c (by simp [Op.operands]), hb, hev y (by simp [Op.operands])]; exact h2⟩
      · exact ⟨st.ev x, e, calm_of fun hx hev _ _ _ h2 => by simp only [opK]; rw [hev c (by simp [Op.operands]), hb, hev x (by simp [Op.operands])]; exact h2⟩
    · cases e
  · -- load
    rename_i t x
    simp only [opK, loadK] at e
    split at e
    · rename_i ti hti
      split at e
      · rename_i ls hls
        cases hl : (ls.length == ti.size)
        · rw [hl] at e; cases e
        · rw [hl] at e
          simp only [cond_true] at e
          split at e
          · rename_i s hs
            exact ⟨s, e, calm_of fun hx hev _ _ _ h2 => by simp only [opK, loadK]; rw [hev x (by simp [Op.operands]), hti]; simp only [leafsAt_ext hx hls, hl, cond_true, hs]; exact h2⟩
          · cases e
      · cases e
    · cases e
  · -- nilCheck
    rename_i x
    simp only [opK] at e
    unfold nilCheckK at e
    split at e
    all_goals first
      | (rename_i heq; exact ⟨_, e, calm_of fun hx hev _ _ _ h2 => by simp only [opK]; rw [hev x (by simp [Op.operands]), heq]; exact h2⟩)
      | cases e
  · -- unOp
    rename_i op t x
    simp only [opK] at e
    unfold unOpK at e
    split at e
    · rename_i b heq
      exact ⟨_, e, calm_of fun hx hev _ _ _ h2 => by simp only [opK]; rw [hev x (by simp [Op.operands]), heq]; exact h2⟩
    · rename_i kd n heq
      exact ⟨_, e, calm_of fun hx hev _ _ _ h2 => by simp only [opK]; rw [hev x (by simp [Op.operands]), heq]; exact h2⟩
    · cases e
  · -- convert
    rename_i s t x
    simp only [opK] at e
    cases hs : (ty s).isSome
    · rw [hs] at e; cases e
    · rw [hs] at e
      simp only [cond_true] at e
      unfold convertK at e
      split at e
      · rename_i kd n _ _ _ _ _ _ h1 h2
        exact ⟨_, e, calm_of fun hx hev _ _ _ h3 => by simp only [opK, hs, cond_true]; rw [hev x (by simp [Op.operands])]; simp only [convertK, h1, h2]; exact h3⟩
      · cases e
  · -- fieldAddr
    rename_i t x f
    simp only [opK] at e
    unfold fieldAddrK at e
    split at e
    · rename_i hti
      split at e
      all_goals first
        | (rename_i h1 h2; exact ⟨_, e, calm_of fun hx hev _ _ _ h3 => by simp only [opK]; rw [hev x (by simp [Op.operands])]; simp only [fieldAddrK, hti, h1, h2]; exact h3⟩)
        | cases e
    · cases e
  · -- field
    rename_i t x f
    simp only [opK] at e
    unfold fieldK at e
    split at e
    · rename_i fs _ _ _ _ _ ls h1 h2
      split at e
      · rename_i off size agg hf
        cases hl : Nat.ble (off + size) ls.length
        · rw [hl] at e; cases e
        · rw [hl] at e
          simp only [cond_true] at e
          split at e
          · rename_i s hs
            exact ⟨s, e, calm_of fun hx hev _ _ _ h3 => by simp only [opK]; rw [hev x (by simp [Op.operands])]; simp only [fieldK, h1, h2, hf, hl, cond_true, hs]; exact h3⟩
          · cases e
      · cases e
    · cases e
  · -- indexAddr
    rename_i t x y
    simp only [opK] at e
    unfold indexAddrK at e
    split at e
    · rename_i el l b kd i h1 h2
      cases hz : (elemSz ty t == some el.sz)
      · rw [hz] at e; cases e
      · rw [hz] at e
        simp only [cond_true] at e
        cases hi : ib i l.length
        · rw [hi] at e; cases e
        · rw [hi] at e
          exact ⟨_, e, calm_of fun hx hev _ _ _ h3 => by simp only [opK]; rw [hev x (by simp [Op.operands]), hev y (by simp [Op.operands])]; simp only [indexAddrK, h1, h2, hz, cond_true, hi]; exact h3⟩
    · rename_i id kd i h1 h2
      split at e
      · rename_i a ha
        cases hz : (elemSz ty t == some a.e.sz)
        · rw [hz] at e; cases e
        · rw [hz] at e
          simp only [cond_true] at e
          cases hi : ib i a.l.length
          · rw [hi] at e; cases e
          · rw [hi] at e
            exact ⟨_, e, calm_of fun hx hev _ _ _ h3 => by simp only [opK]; rw [hev x (by simp [Op.operands]), hev y (by simp [Op.operands])]; simp only [indexAddrK, h1, h2, hx.arr _ _ ha, hz, cond_true, hi]; exact h3⟩
      · cases e
    · rename_i id off n kd i h1 h2
      split at e
      · rename_i a ha
        cases hz : (elemSz ty t == some a.e.sz)
        · rw [hz] at e; cases e
        · rw [hz] at e
          simp only [cond_true] at e
          cases hi : ib i n
          · rw [hi] at e; cases e
          · rw [hi] at e
            exact ⟨_, e, calm_of fun hx hev _ _ _ h3 => by simp only [opK]; rw [hev x (by simp [Op.operands]), hev y (by simp [Op.operands])]; simp only [indexAddrK, h1, h2, hx.arr _ _ ha, hz, cond_true, hi]; exact h3⟩
      · cases e
    · cases e
  · -- index
    rename_i t x y
    simp only [opK] at e
    unfold indexK at e
    split at e
    · rename_i s kd i h1 h2
      cases hz : isStr ty t
      · rw [hz] at e; cases e
      · rw [hz] at e
        simp only [cond_true] at e
        cases hi : ib i s.size
        · rw [hi] at e; cases e
        · rw [hi] at e
          exact ⟨_, e, calm_of fun hx hev _ _ _ h3 => by simp only [opK]; rw [hev x (by simp [Op.operands]), hev y (by simp [Op.operands])]; simp only [indexK, h1, h2, hz, cond_true, hi]; exact h3⟩
    · cases e
  · -- extract
    rename_i x i
    simp only [opK] at e
    unfold extractK at e
    split at e
    · rename_i vs h1
      split at e
      · rename_i agg ls h2
        split at e
        · rename_i s h3
          exact ⟨s, e, calm_of fun hx hev _ _ _ h4 => by simp only [opK]; rw [hev x (by simp [Op.operands])]; simp only [extractK, h1, h2, h3]; exact h4⟩
        · cases e
      · cases e
    · cases e
  · -- build
    rename_i t ps
    simp only [opK] at e
    unfold buildK at e
    split at e
    · rename_i fs _ _ _ zero _ hti
      split at e
      · rename_i ls hls
        exact ⟨_, e, calm_of fun hx hev _ _ _ h2 => by
          simp only [opK, buildK, hti]
          rw [fill_same fun y hy => hev y (by simpa [Op.operands] using hy)]
          simp only [hls]; exact h2⟩
      · cases e
    · cases e
  · -- slice
    rename_i t x lo hi
    simp only [opK] at e
    split at e
    · rename_i a b h1 h2
      have hb : ∀ st' : St, (∀ z ∈ (Op.slice t x lo hi none).operands.toList, st'.ev z = st.ev z) → bnd st' lo = some a ∧ bnd st' hi = some b ∧ st'.ev x = st.ev x := fun st' hev =>
        ⟨(bnd_same fun y hy => hev y (by simp [Op.operands, hy])).trans h1, (bnd_same fun y hy => hev y (by simp [Op.operands, hy])).trans h2, hev x (by simp [Op.operands])⟩
      unfold sliceK at e
      split at e
      · rename_i s h3
        cases hz : isStr ty t
        · rw [hz] at e; cases e
        · rw [hz] at e
          simp only [cond_true] at e
          cases hq : decide (0 ≤ a.getD 0 ∧ a.getD 0 ≤ b.getD s.size ∧ b.getD s.size ≤ s.size)
          · rw [hq] at e; cases e
          · rw [hq] at e
            exact ⟨_, e, calm_of fun {st2} hx hev _ _ _ h4 => by
              obtain ⟨q1, q2, q3⟩ := hb st2 hev
              simp only [opK, q1, q2]; rw [q3]; simp only [sliceK, h3, hz, cond_true, hq]; exact h4⟩
      · rename_i el l _ h3
        cases hz : (elemSz ty t == some el.sz)
        · rw [hz] at e; cases e
        · rw [hz] at e
          simp only [cond_true] at e
          cases hq : decide (0 ≤ a.getD 0 ∧ a.getD 0 ≤ b.getD l.length ∧ b.getD l.length ≤ l.length)
          · rw [hq] at e; cases e
          · rw [hq] at e
            exact ⟨_, e, calm_of fun {st2} hx hev _ _ _ h4 => by
              obtain ⟨q1, q2, q3⟩ := hb st2 hev
              simp only [opK, q1, q2]; rw [q3]; simp only [sliceK, h3, hz, cond_true, hq]; exact h4⟩
      · rename_i id h3
        split at e
        · rename_i r hr
          cases hz : (elemSz ty t == some r.e.sz)
          · rw [hz] at e; cases e
          · rw [hz] at e
            simp only [cond_true] at e
            cases hq : decide (0 ≤ a.getD 0 ∧ a.getD 0 ≤ b.getD r.l.length ∧ b.getD r.l.length ≤ r.l.length)
            · rw [hq] at e; cases e
            · rw [hq] at e
              exact ⟨_, e, calm_of fun {st2} hx hev _ _ _ h4 => by
                obtain ⟨q1, q2, q3⟩ := hb st2 hev
                simp only [opK, q1, q2]; rw [q3]; simp only [sliceK, h3, hx.arr _ _ hr, hz, cond_true, hq]; exact h4⟩
        · cases e
      · rename_i id off n h3
        split at e
        · rename_i r hr
          cases hz : (elemSz ty t == some r.e.sz)
          · rw [hz] at e; cases e
          · rw [hz] at e
            simp only [cond_true] at e
            cases hq : decide (0 ≤ a.getD 0 ∧ a.getD 0 ≤ b.getD n ∧ b.getD n ≤ n)
            · rw [hq] at e; cases e
            · rw [hq] at e
              exact ⟨_, e, calm_of fun {st2} hx hev _ _ _ h4 => by
                obtain ⟨q1, q2, q3⟩ := hb st2 hev
                simp only [opK, q1, q2]; rw [q3]; simp only [sliceK, h3, hx.arr _ _ hr, hz, cond_true, hq]; exact h4⟩
        · cases e
      · rename_i h3
        cases hz : (elemSz ty t).isSome
        · rw [hz] at e; cases e
        · rw [hz] at e
          simp only [cond_true] at e
          cases hq : decide (0 ≤ a.getD 0 ∧ a.getD 0 ≤ b.getD 0 ∧ b.getD 0 ≤ 0)
          · rw [hq] at e; cases e
          · rw [hq] at e
            exact ⟨_, e, calm_of fun {st2} hx hev _ _ _ h4 => by
              obtain ⟨q1, q2, q3⟩ := hb st2 hev
              simp only [opK, q1, q2]; rw [q3]; simp only [sliceK, h3, hz, cond_true, hq]; exact h4⟩
      · cases e
    · cases e
  · -- call
    rename_i c
    have hargs : ∀ {st' : St}, (∀ x ∈ (Op.call c).operands.toList, st'.ev x = st.ev x) → c.args.toList.map st'.ev = c.args.toList.map st.ev := fun hev =>
      List.map_congr_left fun x hx => hev x (by simp [Op.operands, Call.operands]; exact .inr (by simpa using hx))
    simp only [opK] at e
    unfold callK at e
    split at hc
    · rename_i f hcal
      split at hc
      · rename_i x hx
        rw [hcal] at e
        simp only [St.ev, hx] at e
        obtain ⟨s, h1, h2⟩ := hΓc f x hx hc e
        exact ⟨s, h1, calm_of fun hxt hev _ _ _ h3 => by
          simp only [opK, callK, hcal, St.ev, hx]
          have := hargs hev
          rw [this]
          exact h2 hxt h3⟩
      · cases hc
    · rename_i hcal
      rw [hcal] at e
      simp only at e
      split at e
      · rename_i x t h1 h2
        have hx' : ∀ {st' : St}, (∀ z ∈ (Op.call c).operands.toList, st'.ev z = st.ev z) → st'.ev x = st.ev x := fun hev => hev x (by simp [Op.operands, Call.operands]; exact .inr (by rw [← Array.mem_toList_iff, h1]; simp))
        split at e
        · rename_i s hs
          cases hst : isStr ty t
          · rw [hst] at e; cases e
          · rw [hst] at e
            exact ⟨_, e, calm_of fun hxt hev _ _ _ h3 => by simp only [opK, callK, hcal, h1, h2]; rw [hx' hev, hs]; simp only [hst, cond_true]; exact h3⟩
        · rename_i l hne hs
          cases hsz : (elemSz ty t).isSome
          · rw [hsz] at e; cases e
          · rw [hsz] at e
            obtain ⟨n, h4, h5⟩ := lenK_calm (k' := fun n => k st (.lf (.int .i64 n))) e
            refine ⟨_, h4, calm_of fun hxt hev _ _ _ h3 => ?_⟩
            simp only [opK, callK, hcal, h1, h2]
            rw [hx' hev, hs]
            cases l with
            | str s => exact absurd rfl (hne s)
            | _ => simp only [hsz, cond_true]; exact h5 hxt h3
        · cases e
      · cases e
    · rename_i hcal
      rw [hcal] at e
      simp only at e
      split at e
      · rename_i kd p ss hs
        obtain ⟨l, h4, h5⟩ := minK_calm e
        exact ⟨_, h4, calm_of fun hxt hev _ _ _ h3 => by
          simp only [opK, callK, hcal]
          have := hargs hev
          rw [this, hs]
          exact h5 h3⟩
      · cases e
    · rename_i hcal
      rw [hcal] at e
      simp only at e
      split at e
      · rename_i kd p ss hs
        obtain ⟨l, h4, h5⟩ := minK_calm e
        exact ⟨_, h4, calm_of fun hxt hev _ _ _ h3 => by
          simp only [opK, callK, hcal]
          have := hargs hev
          rw [this, hs]
          exact h5 h3⟩
      · cases e
    · rename_i hcal
      rw [hcal] at e
      simp only at e
      split at e
      · rename_i x t h1 h2
        have hx' : ∀ {st' : St}, (∀ z ∈ (Op.call c).operands.toList, st'.ev z = st.ev z) → st'.ev x = st.ev x := fun hev => hev x (by simp [Op.operands, Call.operands]; exact .inr (by rw [← Array.mem_toList_iff, h1]; simp))
        split at e
        · rename_i hs
          cases hst : (elemSz ty t).isSome
          · rw [hst] at e; cases e
          · rw [hst] at e
            exact ⟨_, e, calm_of fun hxt hev _ _ _ h3 => by simp only [opK, callK, hcal, h1, h2]; rw [hx' hev, hs]; simp only [hst, cond_true]; exact h3⟩
        · cases e
      · cases e
    · cases hc
  · cases hc
end
end Go.Ev

namespace Go.Ev
def St.Low (st : St) : Prop := ∀ t s, st.env.get t = some s → t < 65000
section
variable {P : Program} {ty : Ty} {Γ : FuncId → Option SumX} {st : St} {R : Type} {r : R} {o : Oper} {ops : Array Oper}
theorem St.Ext.refl (st : St) : st.Ext st := ⟨fun _ _ h => h, fun _ _ h => h⟩
theorem put_n (d : Option Tmp) (s : Slot) : (st.put d s).n = st.n := by unfold St.put; split <;> rfl
theorem put_box (d : Option Tmp) (s : Slot) : (st.put d s).box = st.box := by unfold St.put; split <;> rfl
theorem put_arr (d : Option Tmp) (s : Slot) : (st.put d s).arr = st.arr := by unfold St.put; split <;> rfl
theorem put_get {d : Option Tmp} {s : Slot} {t : Tmp} (h : ∀ x, d = some x → t ≠ x) : (st.put d s).env.get t = st.env.get t := by
  cases d with
  | none => rfl
  | some x => exact Tr.get_set_ne _ _ (h x rfl)
theorem Low.put {d : Option Tmp} {s : Slot} (hd : d.getD 0 < 65000) (h : st.Low) : (st.put d s).Low := by
  intro t u ht
  cases d with
  | none => exact h t u ht
  | some x =>
    by_cases e : t = x
    · subst e; exact hd
    · exact h t u (by rw [← ht]; exact (Tr.get_set_ne _ _ e).symm)
theorem Ext.put {st' : St} {d d' : Option Tmp} {s s' : Slot} (h : st.Ext st') : (st.put d s).Ext (st'.put d' s') := by
  refine ⟨fun b ls hb => ?_, fun i r hi => ?_⟩
  · rw [put_box] at hb ⊢; exact h.box b ls hb
  · rw [put_arr] at hi ⊢; exact h.arr i r hi
theorem Ext.unput {d : Option Tmp} {s : Slot} : (st.put d s).Ext st := ⟨fun b ls hb => by rw [put_box] at hb; exact hb, fun i r hi => by rw [put_arr] at hi; exact hi⟩
theorem setEnv_same {g : Nat} {s : Slot} (hl : st.Low) (h : st.env.get g = some s) : st.setEnv g s = st := by
  unfold St.setEnv
  rw [Tr.set_get _ (hl g s h) h]
theorem looks_tmps {t : Tmp} (h : t ∈ tmpsOf o.op.operands.toList) : t ∈ looks ops o := List.mem_append_left _ h
theorem looks_guard {j : Nat} {b : Bool} {g : Tmp} (hg : o.guard = some (j, b)) (hj : (ops[j]?).bind (·.dst) = some g) : g ∈ looks ops o := by
  unfold looks
  rw [hg]
  simp only [hj]
  exact List.mem_append_right _ (by simp)
theorem calm_oper (hΓc : ∀ f x, Γ f = some x → x.calm = true → CalmSum x.g) (hc : calmOp Γ o = true) (hl : st.Low) {K : St → Option R} (e : evOper ty Γ ops o st K = some r) :
    ∃ s, K (st.put o.dst s) = some r ∧ ∀ {st' : St}, st.Ext st' → st'.n = st.n → (∀ t ∈ looks ops o, st'.env.get t = st.env.get t) → st'.Low → ∀ {R' : Type} {K' : St → Option R'} {r' : R'}, K' (st'.put o.dst s) = some r' → evOper ty Γ ops o st' K' = some r' := by
  unfold evOper at e
  cases hd : Nat.blt (o.dst.getD 0) st.n
  · rw [hd] at e; cases e
  · rw [hd] at e
    simp only [cond_true] at e
    split at e
    · rename_i hg
      obtain ⟨s, h1, h2⟩ := calm_op hΓc hc e
      refine ⟨s, h1, fun {st'} hx hn hev hl' _ K' _ h3 => ?_⟩
      unfold evOper
      rw [hn, hd, hg]
      exact h2 hx (fun t ht => hev t (looks_tmps ht)) (k' := fun st s => putK st o.dst s K') h3
    · rename_i j b hg
      split at e
      · cases e
      · rename_i g hj
        split at e
        · rename_i x hx
          have fin : ∀ y : Bool, x = y → (y == b) = true → (opK ty Γ o (st.setEnv g (.lf (.bool y))) fun st s => putK st o.dst s K) = some r → ∃ s, K (st.put o.dst s) = some r ∧ ∀ {st' : St}, st.Ext st' → st'.n = st.n → (∀ t ∈ looks ops o, st'.env.get t = st.env.get t) → st'.Low → ∀ {R' : Type} {K' : St → Option R'} {r' : R'}, K' (st'.put o.dst s) = some r' → evOper ty Γ ops o st' K' = some r' := by
            intro y hxy hyb e
            subst hxy
            rw [setEnv_same hl hx] at e
            obtain ⟨s, h1, h2⟩ := calm_op hΓc hc e
            refine ⟨s, h1, fun {st'} hxt hn hev hl' _ K' _ h3 => ?_⟩
            have hx' : st'.env.get g = some (.lf (.bool x)) := (hev g (looks_guard hg hj)).trans hx
            have h4 := h2 hxt (fun t ht => hev t (looks_tmps ht)) (k' := fun st s => putK st o.dst s K') h3
            unfold evOper
            rw [hn, hd, hg]
            simp only [cond_true, hj, hx']
            rw [← setEnv_same hl' hx'] at h4
            cases x <;> cases b <;> first | exact h4 | cases hyb
          have fin2 : ∀ y : Bool, x = y → (y == b) = false → putK (st.setEnv g (.lf (.bool y))) o.dst (.tp []) K = some r → ∃ s, K (st.put o.dst s) = some r ∧ ∀ {st' : St}, st.Ext st' → st'.n = st.n → (∀ t ∈ looks ops o, st'.env.get t = st.env.get t) → st'.Low → ∀ {R' : Type} {K' : St → Option R'} {r' : R'}, K' (st'.put o.dst s) = some r' → evOper ty Γ ops o st' K' = some r' := by
            intro y hxy hyb e
            subst hxy
            rw [setEnv_same hl hx] at e
            refine ⟨.tp [], e, fun {st'} hxt hn hev hl' _ K' _ h3 => ?_⟩
            have hx' : st'.env.get g = some (.lf (.bool x)) := (hev g (looks_guard hg hj)).trans hx
            unfold evOper
            rw [hn, hd, hg]
            simp only [cond_true, hj, hx']
            have h4 : putK st' o.dst (.tp []) K' = _ := h3
            rw [← setEnv_same hl' hx'] at h4
            cases x <;> cases b <;> first | exact h4 | cases hyb
          cases x <;> cases b <;> simp only [cond_true, cond_false] at e
          · exact fin false rfl rfl e
          · exact fin2 false rfl rfl e
          · exact fin2 true rfl rfl e
          · exact fin true rfl rfl e
        · rename_i hx
          refine ⟨.tp [], e, fun {st'} hxt hn hev hl' _ K' _ h3 => ?_⟩
          have hx' : st'.env.get g = some (.tp []) := (hev g (looks_guard hg hj)).trans hx
          unfold evOper
          rw [hn, hd, hg]
          simp only [cond_true, hj, hx']
          exact h3
        · cases e
theorem addL_ne {α : Type} : ∀ {l : List (Nat × α)} {t : Tr α} {i : Nat}, (∀ p ∈ l, p.1 ≠ i) → (addL l t).get i = t.get i
  | [], _, _, _ => rfl
  | p :: l, t, i, h => by
    simp only [addL]
    rw [Tr.get_set_ne _ _ (Ne.symm (h p (by simp)))]
    exact addL_ne fun q hq => h q (by simp [hq])
theorem addL_comm1 {α : Type} {i : Nat} {v : α} : ∀ {l : List (Nat × α)} {t : Tr α}, (∀ p ∈ l, p.1 ≠ i) → addL l (t.set i (some v)) = (addL l t).set i (some v)
  | [], _, _ => rfl
  | p :: l, t, h => by
    simp only [addL]
    rw [addL_comm1 fun q hq => h q (by simp [hq]), Tr.set_comm _ _ _ (h p (by simp))]
theorem addL_comm {α : Type} : ∀ {l l' : List (Nat × α)} {t : Tr α}, (∀ p ∈ l, ∀ q ∈ l', p.1 ≠ q.1) → addL l (addL l' t) = addL l' (addL l t)
  | l, [], t, _ => rfl
  | l, q :: l', t, h => by
    simp only [addL]
    rw [addL_comm1 fun p hp => h p hp q (by simp), addL_comm fun p hp q' hq' => h p hp q' (by simp [hq'])]
theorem Ext.add {nb : List (Nat × List Leaf)} {na : List (Nat × Arr)} (h : Abs st nb na) : st.Ext (st.add nb na) := by
  refine ⟨fun b ls hb => ?_, fun i r hi => ?_⟩
  · show (addL nb st.box).get b = _
    rw [addL_ne fun p hp hc => by rw [← hc, h.b p hp] at hb; cases hb]; exact hb
  · show (addL na st.arr).get i = _
    rw [addL_ne fun p hp hc => by rw [← hc, h.a p hp] at hi; cases hi]; exact hi
theorem Ext.trans {a b c : St} (h : a.Ext b) (k : b.Ext c) : a.Ext c := ⟨fun i r hi => k.box i r (h.box i r hi), fun i r hi => k.arr i r (h.arr i r hi)⟩
theorem add_put {nb : List (Nat × List Leaf)} {na : List (Nat × Arr)} {d : Option Tmp} {s : Slot} : (st.put d s).add nb na = (st.add nb na).put d s := by cases d <;> rfl
theorem fresh_op {k : St → Slot → Option R} (hΓf : ∀ f x, Γ f = some x → x.fresh = true → FreshSum x.g) (hf : freshOp Γ o = true) (hd16 : o.dst.getD 0 < 16000) (e : opK ty Γ o st k = some r) :
    ∃ nb na s, Abs st nb na ∧ k (st.add nb na) s = some r ∧ ∀ {st' : St}, (allocOp o = true ∨ st.Ext st') → Abs st' nb na → (∀ t ∈ tmpsOf o.op.operands.toList, st'.env.get t = st.env.get t) → ∀ {R' : Type} {k' : St → Slot → Option R'} {r' : R'}, k' (st'.add nb na) s = some r' → opK ty Γ o st' k' = some r' := by
  have hsame : ∀ {st' : St}, (∀ t ∈ tmpsOf o.op.operands.toList, st'.env.get t = st.env.get t) → ∀ x ∈ o.op.operands.toList, st'.ev x = st.ev x := fun {st'} h => ev_same (st' := st') h
  obtain ⟨dst, op, type, pos, after, guard⟩ := o
  unfold freshOp at hf
  simp only at hf
  split at hf
  · rename_i t
    simp only [opK, allocK] at e
    split at e
    · rename_i ti hti hb
      refine ⟨[(dst.getD 0, ti.zero)], [], _, ⟨fun p hp => by simp at hp; subst hp; exact hb, fun p hp => by simp at hp, fun p hp => by simp at hp; subst hp; show dst.getD 0 < 65000; exact Nat.lt_of_lt_of_le hd16 (by decide), fun p hp => by simp at hp⟩, e, fun {st'} _ hab hev _ _ _ h2 => ?_⟩
      have hb' := hab.b _ (List.mem_cons_self ..)
      simp only at hb'
      simp only [opK, allocK, hti, hb']; exact h2
    · cases e
  · rename_i t x
    simp only [opK, boxK] at e
    split at e
    · rename_i l hb hs
      refine ⟨[(dst.getD 0, [l])], [], _, ⟨fun p hp => by simp at hp; subst hp; exact hb, fun p hp => by simp at hp, fun p hp => by simp at hp; subst hp; show dst.getD 0 < 65000; exact Nat.lt_of_lt_of_le hd16 (by decide), fun p hp => by simp at hp⟩, e, fun {st'} _ hab hev _ _ _ h2 => ?_⟩
      have hb' := hab.b _ (List.mem_cons_self ..)
      simp only at hb'
      simp only [opK, boxK]; rw [hsame hev x (by simp [Op.operands])]; simp only [hb', hs]; exact h2
    · rename_i l hb hs
      refine ⟨[(dst.getD 0, l)], [], _, ⟨fun p hp => by simp at hp; subst hp; exact hb, fun p hp => by simp at hp, fun p hp => by simp at hp; subst hp; show dst.getD 0 < 65000; exact Nat.lt_of_lt_of_le hd16 (by decide), fun p hp => by simp at hp⟩, e, fun {st'} _ hab hev _ _ _ h2 => ?_⟩
      have hb' := hab.b _ (List.mem_cons_self ..)
      simp only at hb'
      simp only [opK, boxK]; rw [hsame hev x (by simp [Op.operands])]; simp only [hb', hs]; exact h2
    · cases e
  · rename_i t x y
    simp only [opK] at e
    unfold makeSliceK at e
    split at e
    · rename_i et _ _ _ _ _ kl n kc m hti h1 h2
      split at e
      · rename_i _ _ _ bytes _ el hte
        split at e
        · cases e
        · rename_i hb
          cases hc : decide (0 ≤ n ∧ n ≤ m)
          · rw [hc] at e; cases e
          · rw [hc] at e
            simp only [cond_true] at e
            cases hrm : room m.toNat bytes
            · rw [hrm] at e; cases e
            · rw [hrm] at e
              simp only [cond_true] at e
              refine ⟨[], [(dst.getD 0 * 4, ⟨el, List.replicate n.toNat el.zero, true⟩)], _, ⟨fun p hp => by simp at hp, fun p hp => by simp at hp; subst hp; exact hb, fun p hp => by simp at hp, fun p hp => by simp at hp; subst hp; show dst.getD 0 * 4 < 65000; exact Nat.lt_of_lt_of_le (Nat.mul_lt_mul_of_pos_right hd16 (by decide : 0 < 4)) (by decide)⟩, e, fun {st'} _ hab hev _ _ _ h3 => ?_⟩
              have hb' := hab.a _ (List.mem_cons_self ..)
              simp only at hb'
              simp only [opK]; rw [hsame hev x (by simp [Op.operands]), hsame hev y (by simp [Op.operands])]
              simp only [makeSliceK, hti, h1, h2, hte, hb', hc, hrm, cond_true]; exact h3
      · cases e
    · cases e
  · rename_i c
    split at hf
    · rename_i f hcal
      split at hf
      · rename_i x hx
        simp only [opK, callK, hcal, St.ev, hx] at e
        obtain ⟨nb, na, s, h1, h2, h3⟩ := hΓf f x hx hf e
        refine ⟨nb, na, s, h1, h2, fun {st'} hor hab hev R' k' r' h4 => ?_⟩
        have hext : st.Ext st' := by
          rcases hor with hor | hor
          · simp [allocOp] at hor
          · exact hor
        have hargs : c.args.toList.map st'.ev = c.args.toList.map st.ev := map_ev_same (hsame hev) fun y hy => by
          simp only [Op.operands, Call.operands, hcal]
          simp [hy]
        simp only [opK, callK, hcal, St.ev, hx]
        have h5 := h3 hext hab h4
        rw [← hargs] at h5
        exact h5
      · cases hf
    · cases hf
  · cases hf
theorem fresh_oper (hΓf : ∀ f x, Γ f = some x → x.fresh = true → FreshSum x.g) (hf : freshOp Γ o = true) (hd16 : o.dst.getD 0 < 16000) (hl : st.Low) {K : St → Option R} (e : evOper ty Γ ops o st K = some r) :
    ∃ nb na s, Abs st nb na ∧ K ((st.add nb na).put o.dst s) = some r ∧ ∀ {st' : St}, (allocOp o = true ∨ st.Ext st') → st'.n = st.n → Abs st' nb na → (∀ t ∈ looks ops o, st'.env.get t = st.env.get t) → st'.Low → ∀ {R' : Type} {K' : St → Option R'} {r' : R'}, K' ((st'.add nb na).put o.dst s) = some r' → evOper ty Γ ops o st' K' = some r' := by
  unfold evOper at e
  cases hd : Nat.blt (o.dst.getD 0) st.n
  · rw [hd] at e; cases e
  · rw [hd] at e
    simp only [cond_true] at e
    split at e
    · rename_i hg
      obtain ⟨nb, na, s, h0, h1, h2⟩ := fresh_op hΓf hf hd16 e
      refine ⟨nb, na, s, h0, h1, fun {st'} hor hn hab hev hl' _ K' _ h3 => ?_⟩
      unfold evOper
      rw [hn, hd, hg]
      exact h2 hor hab (fun t ht => hev t (looks_tmps ht)) (k' := fun st s => putK st o.dst s K') h3
    · rename_i j b hg
      split at e
      · cases e
      · rename_i g hj
        split at e
        · rename_i x hx
          have fin : ∀ y : Bool, x = y → (y == b) = true → (opK ty Γ o (st.setEnv g (.lf (.bool y))) fun st s => putK st o.dst s K) = some r → ∃ nb na s, Abs st nb na ∧ K ((st.add nb na).put o.dst s) = some r ∧ ∀ {st' : St}, (allocOp o = true ∨ st.Ext st') → st'.n = st.n → Abs st' nb na → (∀ t ∈ looks ops o, st'.env.get t = st.env.get t) → st'.Low → ∀ {R' : Type} {K' : St → Option R'} {r' : R'}, K' ((st'.add nb na).put o.dst s) = some r' → evOper ty Γ ops o st' K' = some r' := by
            intro y hxy hyb e
            subst hxy
            rw [setEnv_same hl hx] at e
            obtain ⟨nb, na, s, h0, h1, h2⟩ := fresh_op hΓf hf hd16 e
            refine ⟨nb, na, s, h0, h1, fun {st'} hor hn hab hev hl' _ K' _ h3 => ?_⟩
            have hx' : st'.env.get g = some (.lf (.bool x)) := (hev g (looks_guard hg hj)).trans hx
            have h4 := h2 hor hab (fun t ht => hev t (looks_tmps ht)) (k' := fun st s => putK st o.dst s K') h3
            unfold evOper
            rw [hn, hd, hg]
            simp only [cond_true, hj, hx']
            rw [← setEnv_same hl' hx'] at h4
            cases x <;> cases b <;> first | exact h4 | cases hyb
          have fin2 : ∀ y : Bool, x = y → (y == b) = false → putK (st.setEnv g (.lf (.bool y))) o.dst (.tp []) K = some r → ∃ nb na s, Abs st nb na ∧ K ((st.add nb na).put o.dst s) = some r ∧ ∀ {st' : St}, (allocOp o = true ∨ st.Ext st') → st'.n = st.n → Abs st' nb na → (∀ t ∈ looks ops o, st'.env.get t = st.env.get t) → st'.Low → ∀ {R' : Type} {K' : St → Option R'} {r' : R'}, K' ((st'.add nb na).put o.dst s) = some r' → evOper ty Γ ops o st' K' = some r' := by
            intro y hxy hyb e
            subst hxy
            rw [setEnv_same hl hx] at e
            refine ⟨[], [], .tp [], ⟨fun p hp => by simp at hp, fun p hp => by simp at hp, fun p hp => by simp at hp, fun p hp => by simp at hp⟩, e, fun {st'} hor hn hab hev hl' _ K' _ h3 => ?_⟩
            have hx' : st'.env.get g = some (.lf (.bool x)) := (hev g (looks_guard hg hj)).trans hx
            unfold evOper
            rw [hn, hd, hg]
            simp only [cond_true, hj, hx']
            have h4 : putK st' o.dst (.tp []) K' = _ := h3
            rw [← setEnv_same hl' hx'] at h4
            cases x <;> cases b <;> first | exact h4 | cases hyb
          cases x <;> cases b <;> simp only [cond_true, cond_false] at e
          · exact fin false rfl rfl e
          · exact fin2 false rfl rfl e
          · exact fin2 true rfl rfl e
          · exact fin true rfl rfl e
        · rename_i hx
          refine ⟨[], [], .tp [], ⟨fun p hp => by simp at hp, fun p hp => by simp at hp, fun p hp => by simp at hp, fun p hp => by simp at hp⟩, e, fun {st'} hor hn hab hev hl' _ K' _ h3 => ?_⟩
          have hx' : st'.env.get g = some (.tp []) := (hev g (looks_guard hg hj)).trans hx
          unfold evOper
          rw [hn, hd, hg]
          simp only [cond_true, hj, hx']
          exact h3
        · cases e
theorem apartD_spec {x : Option Tmp} {l : List Tmp} (h : apartD x l = true) : ∀ t ∈ l, ∀ d, x = some d → t ≠ d := by
  intro t ht d hd e
  subst hd; subst e
  simp only [apartD, Bool.not_eq_true', List.any_eq_false] at h
  exact h t ht (by simp)
theorem put_comm {x y : Option Tmp} {s u : Slot} (h : ∀ d, x = some d → y ≠ some d) : (st.put x s).put y u = (st.put y u).put x s := by
  cases x with
  | none => cases y <;> rfl
  | some d =>
    cases y with
    | none => rfl
    | some e =>
      have hne : d ≠ e := fun he => h d rfl (he ▸ rfl)
      simp only [St.put]
      rw [Tr.set_comm _ _ _ hne]
theorem freeze_put {d : Tmp} {s : Slot} {id : Nat} {a : Arr} : (st.put (some d) s).freeze id a = (st.freeze id a).put (some d) (s.freeze id a) := by
  simp only [St.freeze, St.put, Tr.set_map, Option.bind_some]
theorem constSlot_freeze {v : Value} {id : Nat} {a : Arr} : (constSlot v).freeze id a = constSlot v := by
  have hl : ∀ v : Value, (constLeaf v).freeze id a = constLeaf v := fun v => by
    unfold constLeaf
    split <;> rfl
  have hm : ∀ vs : List Value, (vs.map constLeaf).map (Leaf.freeze id a) = vs.map constLeaf := fun vs => by
    rw [List.map_map]; exact List.map_congr_left fun v _ => hl v
  unfold constSlot
  split
  · rename_i cs
    cases (cs.toList.all fun x => x.oneCell')
    · rfl
    · show Slot.ag ((cs.toList.map constLeaf).map (Leaf.freeze id a)) = Slot.ag (cs.toList.map constLeaf)
      rw [hm]
  · rename_i vs
    first
    | rfl
    | (cases (vs.toList.all fun x => x.oneCell') <;> rfl)
  · show Slot.lf ((constLeaf v).freeze id a) = _
    rw [hl]
theorem ev_freeze {y : Operand} {id : Nat} {a : Arr} : (st.freeze id a).ev y = (st.ev y).freeze id a := by
  cases y with
  | tmp t =>
    show ((st.env.map fun s => some (s.freeze id a)).get t).getD .dead = ((st.env.get t).getD .dead).freeze id a
    rw [Tr.get_map]
    cases st.env.get t <;> rfl
  | const v => exact constSlot_freeze.symm
  | func f => rfl
  | global g => rfl
theorem packN_put {d : Tmp} {y : Operand} : ∀ (n : Nat) (st : St) (ls : List Leaf), packN n (st.put (some d) (st.ev y)) ls = ((packN n st ls).1.put (some d) ((packN n st ls).1.ev y), (packN n st ls).2)
  | 0, _, _ => rfl
  | n + 1, st, [] => rfl
  | n + 1, st, l :: ls => by
    have ih := packN_put (d := d) (y := y) n
    have ha : (st.put (some d) (st.ev y)).arr = st.arr := rfl
    unfold packN
    cases l <;> simp only [ha, ih]
    · rename_i id
      cases st.arr.get id with
      | none => simp only [ih]
      | some a => simp only [freeze_put, ← ev_freeze, ih]
    · rename_i id o k
      cases st.arr.get id with
      | none => simp only [ih]
      | some a => simp only [freeze_put, ← ev_freeze, ih]
theorem packN_n : ∀ (n : Nat) (st : St) (ls : List Leaf), (packN n st ls).1.n = st.n
  | 0, _, _ => rfl
  | n + 1, st, [] => rfl
  | n + 1, st, l :: ls => by
    have ih := packN_n n
    unfold packN
    cases l <;> simp only [ih]
    · rename_i id
      cases st.arr.get id with
      | none => exact ih _ _
      | some a => exact ih _ _
    · rename_i id o k
      cases st.arr.get id with
      | none => exact ih _ _
      | some a => exact ih _ _
theorem partsOf_put {d : Tmp} {y : Operand} {e : K} : ∀ (ps : List (Nat × Operand)) (st : St) (j : Nat), (∀ p ∈ ps, ∀ (st' : St) (s : Slot), (st'.put (some d) s).ev p.2 = st'.ev p.2) →
      partsOf (st.put (some d) (st.ev y)) e ps j = (partsOf st e ps j).map fun r => (r.1.put (some d) (r.1.ev y), r.2)
  | [], _, _, _ => rfl
  | (i, x) :: ps, st, j, h2 => by
    unfold partsOf
    cases (i == j)
    · rfl
    · simp only [cond_true, h2 (i, x) (by simp), pack, packN_put]
      generalize packN (st.ev x).leafs.length st (st.ev x).leafs = q
      cases e.rd q.2.1 with
      | none => rfl
      | some y' =>
        simp only [partsOf_put ps q.1 (j + 1) (fun p hp => h2 p (by simp [hp]))]
        cases partsOf q.1 e ps (j + 1) <;> rfl
theorem partsOf_n {e : K} : ∀ (ps : List (Nat × Operand)) (st : St) (j : Nat) (r : St × List e.T × Bool), partsOf st e ps j = some r → r.1.n = st.n
  | [], _, _, _, h => by cases h; rfl
  | (i, x) :: ps, st, j, r, h => by
    unfold partsOf at h
    cases hb : (i == j)
    · rw [hb] at h; cases h
    · rw [hb] at h
      simp only [cond_true] at h
      have hn : (pack st (st.ev x).leafs).1.n = st.n := packN_n _ _ _
      generalize pack st (st.ev x).leafs = q at h hn
      split at h
      · split at h
        · rename_i hp
          cases h
          exact (partsOf_n ps _ _ _ hp).trans hn
        · cases h
      · cases h
theorem buildSliceK_put {d : Tmp} {y : Operand} {d' : Nat} {t : TypeId} {n : Nat} {ps : List (Nat × Operand)} (h2 : ∀ p ∈ ps, ∀ (st' : St) (s : Slot), (st'.put (some d) s).ev p.2 = st'.ev p.2) {k k' : St → Slot → Option R}
    (hk : ∀ st' u, st'.n = st.n → k (st'.put (some d) (st'.ev y)) u = some r → k' st' u = some r) (e : buildSliceK ty d' t n ps (st.put (some d) (st.ev y)) k = some r) : buildSliceK ty d' t n ps st k' = some r := by
  unfold buildSliceK at e ⊢
  split at e
  · split at e
    · rename_i el he
      cases hb : (ps.length == n && Nat.ble (n * el.sz) 16777216)
      · rw [hb] at e; cases e
      · rw [hb] at e
        simp only [cond_true] at e ⊢
        rw [partsOf_put ps st 0 h2] at e
        cases hp : partsOf st el ps 0 with
        | none => rw [hp] at e; cases e
        | some q =>
          obtain ⟨st', l, dp⟩ := q
          rw [hp] at e
          simp only [Option.map_some] at e ⊢
          have ha : (st'.put (some d) (st'.ev y)).arr = st'.arr := rfl
          rw [ha] at e
          split at e
          · cases e
          · exact hk _ _ (partsOf_n _ _ _ _ hp) e
    · cases e
  · cases e
theorem cont_put1 {d : Tmp} {s : Slot} {e : K} {x : Leaf} : (st.put (some d) s).cont e x = st.cont e x := by cases x <;> rfl
theorem copyK_put {d : Tmp} {y : Operand} {t : TypeId} {s x : Leaf} {k k' : St → Leaf → Option R}
    (hk : ∀ st' u, st'.n = st.n → k (st'.put (some d) (st'.ev y)) u = some r → k' st' u = some r) (e : copyK ty (st.put (some d) (st.ev y)) t s x k = some r) : copyK ty st t s x k' = some r := by
  have hn : ∀ (id : Nat) (a : Arr), (st.put (some d) (st.ev y)).newArr id a = (st.newArr id a).put (some d) ((st.newArr id a).ev y) := fun id a => by cases y <;> rfl
  have ha : (st.put (some d) (st.ev y)).arr = st.arr := rfl
  unfold copyK at e ⊢
  split at e
  · rename_i id
    rw [ha] at e
    split at e
    · rename_i rr hr
      cases hc : (rr.e.flat && elemSz ty t == some rr.e.sz)
      · rw [hc] at e; cases e
      · rw [hc] at e
        simp only [cond_true] at e ⊢
        rw [cont_put1] at e
        split at e
        · rename_i xs hxs
          rw [hn] at e
          exact hk _ _ rfl e
        · cases e
    · cases e
  · rename_i id o n
    rw [ha] at e
    split at e
    · rename_i rr hr
      cases hc : (rr.e.flat && elemSz ty t == some rr.e.sz)
      · rw [hc] at e; cases e
      · rw [hc] at e
        simp only [cond_true] at e ⊢
        rw [cont_put1] at e
        split at e
        · rename_i xs hxs
          rw [hn] at e
          exact hk _ _ rfl e
        · cases e
    · cases e
  · cases e
theorem const_build {x y : Oper} (hx : constOp x = true) (hy : buildOp y = true) (a1 : ∀ t ∈ looks ops y ++ y.dst.toList, ∀ d, x.dst = some d → t ≠ d) (a2 : ∀ t ∈ looks ops x, ∀ d, y.dst = some d → t ≠ d) {K : St → Option R}
    (e : evOper ty Γ ops x st (fun st => evOper ty Γ ops y st K) = some r) : evOper ty Γ ops y st (fun st => evOper ty Γ ops x st K) = some r := by
  obtain ⟨xd, xo, xt, xp, xa, xg⟩ := x
  obtain ⟨yd, yo, yt, yp, ya, yg⟩ := y
  unfold constOp at hx
  unfold buildOp at hy
  dsimp only at hx hy
  split at hx
  · rename_i yo0 d0 yo d
    split at hy
    · rename_i t n ps
      simp only [evOper] at e
      cases hdx : Nat.blt ((some d : Option Tmp).getD 0) st.n
      · rw [hdx] at e; cases e
      · rw [hdx] at e
        simp only [cond_true, opK, putK] at e
        rw [put_n] at e
        simp only [evOper]
        cases hdy : Nat.blt (yd.getD 0) st.n
        · rw [hdy] at e; cases e
        · rw [hdy] at e
          simp only [cond_true, opK, putK] at e ⊢
          have hap : ∀ t ∈ tmpsOf (Op.buildSlice t n ps).operands.toList, t ≠ d := fun t ht => a1 t (List.mem_append_left _ (List.mem_append_left _ ht)) d rfl
          have hne : yd ≠ some d := fun h => a1 d (List.mem_append_right _ (by rw [h]; simp)) d rfl rfl
          refine buildSliceK_put (y := yo) (fun p hp st' s => ?_) (fun st' u hn hk => ?_) e
          · exact ev_same (l := (Op.buildSlice t n ps).operands.toList) (st := st') (st' := st'.put (some d) _) (fun t ht => put_get fun x hx => by cases hx; exact hap t ht) p.2 (by simp [Op.operands]; exact ⟨p.1, by simpa using hp⟩)
          · rw [put_n, hn, hdx]
            simp only [cond_true]
            have hev : (st'.put yd u).ev yo = st'.ev yo := ev_same (l := (Op.move yo).operands.toList) (st := st') (st' := st'.put yd u) (fun t ht => put_get fun x hx => a2 t (List.mem_append_left _ ht) x hx) yo (by simp [Op.operands])
            rw [hev, ← put_comm (x := some d) (y := yd) (fun x hx => by cases hx; exact hne)]
            exact hk
    · rename_i c
      split at hy
      · rename_i hcal
        simp only [evOper] at e
        cases hdx : Nat.blt ((some d : Option Tmp).getD 0) st.n
        · rw [hdx] at e; cases e
        · rw [hdx] at e
          simp only [cond_true, opK, putK] at e
          rw [put_n] at e
          simp only [evOper]
          cases hdy : Nat.blt (yd.getD 0) st.n
          · rw [hdy] at e; cases e
          · rw [hdy] at e
            simp only [cond_true, opK, putK, callK, hcal] at e ⊢
            have hap : ∀ t ∈ tmpsOf (Op.call c).operands.toList, t ≠ d := fun t ht => a1 t (List.mem_append_left _ (List.mem_append_left _ ht)) d rfl
            have hne : yd ≠ some d := fun h => a1 d (List.mem_append_right _ (by rw [h]; simp)) d rfl rfl
            have hargs : c.args.toList.map (st.put (some d) (st.ev yo)).ev = c.args.toList.map st.ev := List.map_congr_left fun p hp =>
              ev_same (l := (Op.call c).operands.toList) (st := st) (st' := st.put (some d) _) (fun t ht => put_get fun x hx => by cases hx; exact hap t ht) p (by simp [Op.operands, Call.operands]; exact .inr (by simpa using hp))
            rw [hargs] at e
            split at e
            · rename_i s x t t' h1 h2
              refine copyK_put (y := yo) (fun st' u hn hk => ?_) e
              rw [put_n, hn, hdx]
              simp only [cond_true]
              have hev : (st'.put yd (.lf u)).ev yo = st'.ev yo := ev_same (l := (Op.move yo).operands.toList) (st := st') (st' := st'.put yd (.lf u)) (fun t ht => put_get fun x hx => a2 t (List.mem_append_left _ ht) x hx) yo (by simp [Op.operands])
              rw [hev, ← put_comm (x := some d) (y := yd) (fun x hx => by cases hx; exact hne)]
              exact hk
            · cases e
      · cases hy
    · cases hy
  · cases hx
theorem swapOk_first {x y : Oper} (hs : swapOk Γ ops x y = true) : calmOp Γ x = true ∨ freshOp Γ x = true := by
  unfold swapOk at hs
  simp only [Bool.and_eq_true, Bool.or_eq_true] at hs
  rcases hs.1 with (h | h) | h
  · exact .inl h.1
  · exact .inr h.1
  · refine .inl ?_
    have := h.1
    unfold constOp at this
    unfold calmOp
    split at this
    · rename_i h1 _ _; rw [h1]
    · cases this
theorem swapOk_lt {x y : Oper} (hs : swapOk Γ ops x y = true) : x.dst.getD 0 < 65000 := by
  unfold swapOk at hs
  simp only [Bool.and_eq_true] at hs
  exact Nat.lt_of_lt_of_le (Nat.le_of_ble_eq_true hs.2.2.2.1 : x.dst.getD 0 < 16000) (by decide)
theorem Low.add {nb : List (Nat × List Leaf)} {na : List (Nat × Arr)} (h : st.Low) : (st.add nb na).Low := h
theorem swap_ok (hΓc : ∀ f x, Γ f = some x → x.calm = true → CalmSum x.g) (hΓf : ∀ f x, Γ f = some x → x.fresh = true → FreshSum x.g) {x y : Oper} (hs : swapOk Γ ops x y = true) (hl : st.Low) {K : St → Option R}
    (e : evOper ty Γ ops x st (fun st => evOper ty Γ ops y st K) = some r) : evOper ty Γ ops y st (fun st => evOper ty Γ ops x st K) = some r := by
  unfold swapOk at hs
  simp only [Bool.and_eq_true, Bool.or_eq_true] at hs
  obtain ⟨h12, h3, h4, h5, h6⟩ := hs
  have hx16 : x.dst.getD 0 < 16000 := Nat.le_of_ble_eq_true h5
  have hy16 : y.dst.getD 0 < 16000 := Nat.le_of_ble_eq_true h6
  have hx65 : x.dst.getD 0 < 65000 := Nat.lt_of_lt_of_le hx16 (by decide)
  have hy65 : y.dst.getD 0 < 65000 := Nat.lt_of_lt_of_le hy16 (by decide)
  have a1 := apartD_spec h3
  have a2 := apartD_spec h4
  have hne : ∀ d, x.dst = some d → y.dst ≠ some d := fun d hd hy => a1 d (List.mem_append_right _ (by rw [hy]; simp)) d hd rfl
  rcases h12 with (⟨h1, h2⟩ | ⟨h1, h2⟩) | ⟨h1, h2⟩
  · obtain ⟨s, k1, k2⟩ := calm_oper hΓc h1 hl e
    have hl1 := Low.put (s := s) hx65 hl
    have ly : ∀ t ∈ looks ops y, (st.put x.dst s).env.get t = st.env.get t := fun t ht => put_get fun d hd => a1 t (List.mem_append_left _ ht) d hd
    rcases h2 with h2 | h2
    · obtain ⟨u, k3, k4⟩ := calm_oper hΓc h2 hl1 k1
      refine k4 Ext.unput (put_n _ _).symm (fun t ht => (ly t ht).symm) hl ?_
      refine k2 (Ext.put (d := none) (s := s) (St.Ext.refl st)) (put_n _ _) (fun t ht => put_get fun d hd => a2 t ht d hd) (Low.put hy65 hl) ?_
      rw [← put_comm hne]; exact k3
    · obtain ⟨nb, na, u, k5, k3, k4⟩ := fresh_oper hΓf h2 hy16 hl1 k1
      have hab : Abs st nb na := ⟨fun p hp => by have := k5.b p hp; rwa [put_box] at this, fun p hp => by have := k5.a p hp; rwa [put_arr] at this, k5.bl, k5.al⟩
      refine k4 (.inr Ext.unput) (put_n _ _).symm hab (fun t ht => (ly t ht).symm) hl ?_
      refine k2 (st' := (st.add nb na).put y.dst u) (Ext.trans (Ext.add hab) (Ext.put (d := none) (s := u) (St.Ext.refl _))) (by rw [put_n]; rfl) (fun t ht => put_get (st := st.add nb na) fun d hd => a2 t ht d hd) (Low.put hy65 (Low.add hl)) ?_
      rw [add_put] at k3
      rw [← put_comm hne]; exact k3
  · obtain ⟨nx, mx, s, b0, k1, k2⟩ := fresh_oper hΓf h1 hx16 hl e
    have hl1 : ((st.add nx mx).put x.dst s).Low := Low.put hx65 (Low.add hl)
    have hfy : freshOp Γ y = true := by
      unfold allocOp at h2
      unfold freshOp
      split at h2 <;> simp_all
    obtain ⟨ny, my, u, c0, k3, k4⟩ := fresh_oper hΓf hfy hy16 hl1 k1
    have ly : ∀ t ∈ looks ops y, st.env.get t = ((st.add nx mx).put x.dst s).env.get t := fun t ht => (put_get (st := st.add nx mx) fun d hd => a1 t (List.mem_append_left _ ht) d hd).symm
    have cb : ∀ p ∈ ny, (addL nx st.box).get p.1 = none := fun p hp => by have := c0.b p hp; rwa [put_box] at this
    have ca : ∀ p ∈ my, (addL mx st.arr).get p.1 = none := fun p hp => by have := c0.a p hp; rwa [put_arr] at this
    have hin : ∀ {α : Type} {l : List (Nat × α)} {t : Tr α} {i : Nat}, (∀ p ∈ l, p.1 < 65000) → (addL l t).get i = none → ∀ p ∈ l, p.1 ≠ i := by
      intro α l t i hlt h p hp hc
      induction l with
      | nil => simp at hp
      | cons q l ih =>
        simp only [addL] at h
        by_cases hq : i = q.1
        · subst hq
          rw [Tr.get_set_same _ _ (hlt q (by simp))] at h; cases h
        · rw [Tr.get_set_ne _ _ hq] at h
          rcases List.mem_cons.1 hp with rfl | hp
          · exact hq hc.symm
          · exact ih (fun p hp => hlt p (by simp [hp])) h hp
    have db : ∀ p ∈ nx, ∀ q ∈ ny, p.1 ≠ q.1 := fun p hp q hq => hin b0.bl (cb q hq) p hp
    have da : ∀ p ∈ mx, ∀ q ∈ my, p.1 ≠ q.1 := fun p hp q hq => hin b0.al (ca q hq) p hp
    have haby : Abs st ny my := ⟨fun p hp => by
        have := cb p hp
        rwa [addL_ne fun q hq => db q hq p hp] at this, fun p hp => by
        have := ca p hp
        rwa [addL_ne fun q hq => da q hq p hp] at this, c0.bl, c0.al⟩
    refine k4 (.inl h2) (by rw [put_n]; rfl) haby ly hl ?_
    refine k2 (st' := (st.add ny my).put y.dst u) (.inr (Ext.trans (Ext.add haby) (Ext.put (d := none) (s := u) (St.Ext.refl _)))) (by rw [put_n]; rfl) ⟨fun p hp => ?_, fun p hp => ?_, b0.bl, b0.al⟩ (fun t ht => put_get (st := st.add ny my) fun d hd => a2 t ht d hd) (Low.put hy65 (Low.add hl)) ?_
    · rw [put_box]
      show (addL ny st.box).get p.1 = none
      rw [addL_ne fun q hq => Ne.symm (db p hp q hq)]; exact b0.b p hp
    · rw [put_arr]
      show (addL my st.arr).get p.1 = none
      rw [addL_ne fun q hq => Ne.symm (da p hp q hq)]; exact b0.a p hp
    · rw [add_put] at k3 ⊢
      rw [← put_comm hne]
      have : (st.add ny my).add nx mx = (st.add nx mx).add ny my := by
        simp only [St.add]
        rw [addL_comm db, addL_comm da]
      rw [this]; exact k3
  · exact const_build h1 h2 a1 a2 e
end
end Go.Ev

namespace Go.Ev
theorem noOwnL_kill {l : Leaf} {id : Nat} (h : noOwnL l = true) : l.kill id = l := by cases l <;> first | rfl | cases h
theorem noOwnL_freeze {l : Leaf} {id : Nat} {a : Arr} (h : noOwnL l = true) : l.freeze id a = l := by cases l <;> first | rfl | cases h
theorem noOwn_kill {s : Slot} {id : Nat} (h : noOwn s = true) : s.kill id = s := by
  have hm : ∀ ls : List Leaf, ls.all noOwnL = true → ls.map (Leaf.kill id) = ls := fun ls hl => by
    conv => rhs; rw [← List.map_id ls]
    exact List.map_congr_left fun l hl2 => noOwnL_kill (List.all_eq_true.1 hl l hl2)
  cases s with
  | lf l => show Slot.lf (l.kill id) = _; rw [noOwnL_kill h]
  | ag ls => show Slot.ag (ls.map (Leaf.kill id)) = _; rw [hm ls h]
  | rp ls => show Slot.rp (ls.map (Leaf.kill id)) = _; rw [hm ls h]
  | _ => cases h
theorem noOwn_freeze {s : Slot} {id : Nat} {a : Arr} (h : noOwn s = true) : s.freeze id a = s := by
  have hm : ∀ ls : List Leaf, ls.all noOwnL = true → ls.map (Leaf.freeze id a) = ls := fun ls hl => by
    conv => rhs; rw [← List.map_id ls]
    exact List.map_congr_left fun l hl2 => noOwnL_freeze (List.all_eq_true.1 hl l hl2)
  cases s with
  | lf l => show Slot.lf (l.freeze id a) = _; rw [noOwnL_freeze h]
  | ag ls => show Slot.ag (ls.map (Leaf.freeze id a)) = _; rw [hm ls h]
  | rp ls => show Slot.rp (ls.map (Leaf.freeze id a)) = _; rw [hm ls h]
  | _ => cases h
section
variable {P : Program} {ty : Ty} {Γ : FuncId → Option SumX} {st : St} {R : Type} {r : R} {o : Oper} {ops : Array Oper}
theorem all_drop {ls : List Leaf} (h : ls.all noOwnL = true) (n : Nat) : (ls.drop n).all noOwnL = true :=
  List.all_eq_true.2 fun x hx => List.all_eq_true.1 h x (List.mem_of_mem_drop hx)
theorem all_take {ls : List Leaf} (h : ls.all noOwnL = true) (n : Nat) : (ls.take n).all noOwnL = true :=
  List.all_eq_true.2 fun x hx => List.all_eq_true.1 h x (List.mem_of_mem_take hx)
def KeepE (st st' : St) : Prop := st'.n = st.n ∧ (∀ t u, st.env.get t = some u → noOwn u = true → st'.env.get t = some u) ∧
  (∀ b ls, st.box.get b = some ls → ∃ ls', st'.box.get b = some ls' ∧ ls'.length = ls.length ∧ ∀ (k : Nat) (l : Leaf), ls[k]? = some l → noOwnL l = true → ls'[k]? = some l) ∧
  ∀ t u, st'.env.get t = some u → ∃ u0, st.env.get t = some u0
theorem KeepE.refl (st : St) : KeepE st st := ⟨rfl, fun _ _ h _ => h, fun _ ls h => ⟨ls, h, rfl, fun _ _ h _ => h⟩, fun _ u h => ⟨u, h⟩⟩
theorem KeepE.trans {a b c : St} (h : KeepE a b) (k : KeepE b c) : KeepE a c := ⟨k.1.trans h.1, fun t u h1 h2 => k.2.1 t u (h.2.1 t u h1 h2) h2, fun x ls hx => by
  obtain ⟨ls1, h1, h2, h3⟩ := h.2.2.1 x ls hx
  obtain ⟨ls2, k1, k2, k3⟩ := k.2.2.1 x ls1 h1
  exact ⟨ls2, k1, k2.trans h2, fun i l hi hl => k3 i l (h3 i l hi hl) hl⟩, fun t u hu => by
  obtain ⟨u1, h1⟩ := k.2.2.2 t u hu
  exact h.2.2.2 t u1 h1⟩
theorem KeepE.freeze {id : Nat} {a : Arr} : KeepE st (st.freeze id a) := ⟨rfl, fun t u h1 h2 => by
  show (st.env.map fun s => some (s.freeze id a)).get t = _
  rw [Tr.get_map, h1]
  show some (u.freeze id a) = _
  rw [noOwn_freeze h2], fun b ls hb => ⟨ls.map (Leaf.freeze id a), by
    show (st.box.map fun ls => some (ls.map (Leaf.freeze id a))).get b = _
    rw [Tr.get_map, hb]; rfl, by simp, fun k l hk hl => by rw [List.getElem?_map, hk]; simp [noOwnL_freeze hl]⟩, fun t u hu => by
  have hu' : (st.env.map fun s => some (s.freeze id a)).get t = some u := hu
  rw [Tr.get_map] at hu'
  obtain ⟨u0, h1, _⟩ := Option.bind_eq_some_iff.1 hu'
  exact ⟨u0, h1⟩⟩
theorem KeepE.renew {id : Nat} {a : Arr} : KeepE st (st.renew id a) := ⟨rfl, fun t u h1 h2 => by
  show (st.env.map fun s => some (s.kill id)).get t = _
  rw [Tr.get_map, h1]
  show some (u.kill id) = _
  rw [noOwn_kill h2], fun b ls hb => ⟨ls.map (Leaf.kill id), by
    show (st.box.map fun ls => some (ls.map (Leaf.kill id))).get b = _
    rw [Tr.get_map, hb]; rfl, by simp, fun k l hk hl => by rw [List.getElem?_map, hk]; simp [noOwnL_kill hl]⟩, fun t u hu => by
  have hu' : (st.env.map fun s => some (s.kill id)).get t = some u := hu
  rw [Tr.get_map] at hu'
  obtain ⟨u0, h1, _⟩ := Option.bind_eq_some_iff.1 hu'
  exact ⟨u0, h1⟩⟩
theorem KeepE.newArr {id : Nat} {a : Arr} : KeepE st (st.newArr id a) := ⟨rfl, fun _ _ h _ => h, fun _ ls h => ⟨ls, h, rfl, fun _ _ h _ => h⟩, fun _ u h => ⟨u, h⟩⟩
theorem cont_put {d : Option Tmp} {s : Slot} {e : K} {l : Leaf} : (st.put d s).cont e l = st.cont e l := by cases d <;> cases l <;> rfl
theorem newArr_put {d : Option Tmp} {s : Slot} {id : Nat} {a : Arr} : (st.put d s).newArr id a = (st.newArr id a).put d s := by cases d <;> rfl
theorem renew_put {d : Option Tmp} {s : Slot} (hs : noOwn s = true) {id : Nat} {a : Arr} : (st.put d s).renew id a = (st.renew id a).put d s := by
  cases d with
  | none => rfl
  | some d => simp only [St.renew, St.kill, St.put, Tr.set_map, Option.bind_some, noOwn_kill hs]
theorem freeze_putN {d : Option Tmp} {s : Slot} (hs : noOwn s = true) {id : Nat} {a : Arr} : (st.put d s).freeze id a = (st.freeze id a).put d s := by
  cases d with
  | none => rfl
  | some d => rw [freeze_put, noOwn_freeze hs]
theorem srcOf_put {d : Option Tmp} {s : Slot} (hs : noOwn s = true) {e : K} {x : Leaf} : srcOf (st.put d s) e x = (srcOf st e x).map fun q => (q.1, q.2.1, q.2.2.put d s) := by
  unfold srcOf
  rw [cont_put]
  cases st.cont e x with
  | none => rfl
  | some xs =>
    simp only
    cases e.flat
    · simp only [cond_false]
      cases x <;> first | rfl | skip
      rename_i id
      rw [put_arr]
      cases hg : st.arr.get id with
      | none => simp only [hg]; rfl
      | some a => simp only [hg, freeze_putN hs]; rfl
    · rfl
theorem srcOf_keep {e : K} {x : Leaf} {q : List e.T × Bool × St} (h : srcOf st e x = some q) : KeepE st q.2.2 := by
  unfold srcOf at h
  split at h
  · cases h
  · cases hf : e.flat
    · rw [hf] at h
      simp only [cond_false] at h
      split at h
      · split at h
        · cases h; exact KeepE.freeze
        · cases h
      · cases h; exact KeepE.refl _
      · cases h; exact KeepE.refl _
    · rw [hf] at h
      cases h; exact KeepE.refl _
theorem app_put {d : Option Tmp} {s : Slot} (hs : noOwn s = true) {d' : Nat} {t : TypeId} {sl x : Leaf} {k k' : St → Leaf → Option R}
    (hk : ∀ st' l, KeepE st st' → k (st'.put d s) l = some r → k' st' l = some r) (e : appK ty (st.put d s) d' t sl x k = some r) : appK ty st d' t sl x k' = some r := by
  unfold appK at e ⊢
  split at e
  · split at e
    · rename_i bytes _ el _
      rw [cont_put, srcOf_put hs] at e
      cases hc : st.cont el sl with
      | none => rw [hc] at e; cases e
      | some l =>
        cases hq : srcOf st el x with
        | none => rw [hc, hq] at e; cases e
        | some q =>
          obtain ⟨xs, dx, st1⟩ := q
          have hkp : KeepE st st1 := srcOf_keep hq
          rw [hc, hq] at e
          simp only [Option.map_some] at e ⊢
          have ha : (st1.put d s).arr = st1.arr := put_arr _ _
          rw [ha] at e
          cases sl with
          | own id =>
            simp only at e ⊢
            cases hr : st1.arr.get id with
            | none => rw [hr] at e; cases e
            | some a =>
              rw [hr] at e
              simp only at e ⊢
              cases h1 : Nat.blt id 64000
              · rw [h1] at e; cases e
              · cases h2 : room (l ++ xs).length bytes
                · rw [h1, h2] at e; cases e
                · rw [h1, h2] at e
                  simp only [cond_true, renew_put hs] at e ⊢
                  exact hk _ _ (hkp.trans KeepE.renew) e
          | sub id o n =>
            simp only at e ⊢
            cases hr : st1.arr.get id with
            | none => rw [hr] at e; cases e
            | some a =>
              rw [hr] at e
              simp only at e ⊢
              cases h1 : Nat.blt id 64000
              · rw [h1] at e; cases e
              · cases h2 : room (l ++ xs).length bytes
                · rw [h1, h2] at e; cases e
                · rw [h1, h2] at e
                  simp only [cond_true, renew_put hs] at e ⊢
                  exact hk _ _ (hkp.trans KeepE.renew) e
          | nil =>
            simp only at e ⊢
            cases hr : st1.arr.get (d' * 4) with
            | some a => rw [hr] at e; cases e
            | none =>
              rw [hr] at e
              simp only at e ⊢
              cases h2 : room xs.length bytes
              · rw [h2] at e; cases e
              · rw [h2] at e
                simp only [cond_true, newArr_put] at e
                exact hk _ _ (hkp.trans KeepE.newArr) e
          | sl e1 l1 b =>
            cases b with
            | no => cases e
            | ec _ _ => cases e
            | cap =>
              simp only at e ⊢
              cases hr : st1.arr.get (d' * 4) with
              | some a => rw [hr] at e; cases e
              | none =>
                rw [hr] at e
                simp only at e ⊢
                cases h1 : (l.isEmpty || !xs.isEmpty)
                · rw [h1] at e; cases e
                · cases h2 : room (l ++ xs).length bytes
                  · rw [h1, h2] at e; cases e
                  · rw [h1, h2] at e
                    simp only [cond_true, newArr_put] at e
                    exact hk _ _ (hkp.trans KeepE.newArr) e
          | _ => cases e
    · cases e
  · cases e
theorem appZ_put {d : Option Tmp} {s : Slot} {d' : Nat} {t t' : TypeId} {sl x : Leaf} {k k' : St → Leaf → Option R}
    (hk : ∀ st' l, KeepE st st' → k (st'.put d s) l = some r → k' st' l = some r) (e : appZK ty (st.put d s) d' t t' sl x k = some r) : appZK ty st d' t t' sl x k' = some r := by
  unfold appZK at e ⊢
  have ha : (st.put d s).arr = st.arr := put_arr _ _
  rw [ha] at e
  split at e
  · split at e
    · rename_i bytes _ el _
      split at e
      · split at e
        · rename_i n
          cases hr : st.arr.get (d' * 4) with
          | some a => rw [hr] at e; cases e
          | none =>
            rw [hr] at e
            simp only at e ⊢
            cases h1 : decide (0 ≤ n)
            · rw [h1] at e; cases e
            · rw [h1] at e
              simp only [cond_true] at e ⊢
              cases h2 : room n.toNat bytes
              · rw [h2] at e; cases e
              · rw [h2] at e
                simp only [cond_true, newArr_put] at e
                exact hk _ _ KeepE.newArr e
        · cases e
      · cases e
    · cases e
  · cases e
theorem ev_put {y : Oper} {d : Option Tmp} {s : Slot} (a1 : ∀ t ∈ looks ops y, ∀ x, d = some x → t ≠ x) {st1 : St} : ∀ z ∈ y.op.operands.toList, (st1.put d s).ev z = st1.ev z :=
  ev_same (l := y.op.operands.toList) (st := st1) (st' := st1.put d s) fun t ht => put_get fun x hx => a1 t (List.mem_append_left _ ht) x hx
theorem map_put {y : Oper} (hy : mapOp y = true) {d : Option Tmp} {s : Slot} (hs : noOwn s = true) (a1 : ∀ t ∈ looks ops y, ∀ x, d = some x → t ≠ x) {K K' : St → Option R}
    (hk : ∀ st1 u, KeepE st st1 → K ((st1.put d s).put y.dst u) = some r → K' (st1.put y.dst u) = some r) (e : evOper ty Γ ops y (st.put d s) K = some r) : evOper ty Γ ops y st K' = some r := by
  have hev := ev_put (ops := ops) (y := y) (s := s) a1 (st1 := st)
  obtain ⟨yd, yo, yt, yp, ya, yg⟩ := y
  unfold mapOp at hy
  simp only at hy
  unfold evOper at e ⊢
  rw [put_n] at e
  cases hd : Nat.blt (yd.getD 0) st.n
  · rw [hd] at e; cases e
  · rw [hd] at e
    simp only [cond_true] at e ⊢
    split at hy
    · rename_i c
      split at hy
      · rename_i hcal
        simp only [opK, callK, hcal] at e ⊢
        have hargs : c.args.toList.map (st.put d s).ev = c.args.toList.map st.ev := List.map_congr_left fun z hz => hev z (by simp [Op.operands, Call.operands]; exact .inr (by simpa using hz))
        rw [hargs] at e
        split at e
        · rename_i sl xl tt tt' _ _
          cases htt : (tt == tt')
          · rw [htt] at e
            simp only [cond_false] at e ⊢
            exact appZ_put (fun st' l hkp hp => hk st' (.lf l) hkp hp) e
          · rw [htt] at e
            simp only [cond_true] at e ⊢
            exact app_put hs (fun st' l hkp hp => hk st' (.lf l) hkp hp) e
        · cases e
      · cases hy
    · rename_i t x lo hi mx
      cases hi with
      | none => simp only [opK] at e; cases e
      | some hi =>
        simp only [opK] at e ⊢
        have h1 : (st.put d s).ev x = st.ev x := hev x (by simp [Op.operands])
        have h2 : (st.put d s).ev hi = st.ev hi := hev hi (by simp [Op.operands])
        have h3 : (st.put d s).ev mx = st.ev mx := hev mx (by simp [Op.operands])
        have h4 : bnd (st.put d s) lo = bnd st lo := by
          cases lo with
          | none => rfl
          | some l => simp only [bnd]; rw [hev l (by simp [Op.operands])]
        rw [h1, h2, h3, h4] at e
        split at e
        · rename_i a h m _ _ _
          cases hm : decide (h = m)
          · rw [hm] at e; cases e
          · rw [hm] at e
            simp only [cond_true] at e ⊢
            unfold slice3K at e ⊢
            split at e
            · rename_i el l b _
              cases hsz : (elemSz ty t == some el.sz)
              · rw [hsz] at e; cases e
              · rw [hsz] at e
                simp only [cond_true] at e ⊢
                cases hc : decide (0 ≤ a.getD 0 ∧ a.getD 0 ≤ h ∧ h ≤ l.length)
                · rw [hc] at e; cases e
                · rw [hc] at e
                  exact hk st _ (KeepE.refl st) e
            · rename_i id _
              rw [put_arr] at e
              split at e
              · rename_i rr hrr
                cases hsz : (elemSz ty t == some rr.e.sz)
                · rw [hsz] at e; cases e
                · rw [hsz] at e
                  simp only [cond_true] at e ⊢
                  cases hc : decide (0 ≤ a.getD 0 ∧ a.getD 0 ≤ h ∧ h ≤ rr.l.length)
                  · rw [hc] at e; cases e
                  · rw [hc] at e
                    simp only [cond_true, freeze_putN hs] at e ⊢
                    exact hk _ _ KeepE.freeze e
              · cases e
            · cases e
        · cases e
    · cases hy
structure CellE (st st1 : St) (bb : Option Nat) : Prop where
  n : st1.n = st.n
  env : st1.env = st.env
  box : ∀ b, bb ≠ some b → st1.box.get b = st.box.get b
  arr : ∀ id a, st.arr.get id = some a → ∃ a', st1.arr.get id = some a' ∧ a'.e = a.e ∧ a'.l.length = a.l.length
theorem packN_noOwn : ∀ (n : Nat) (ls : List Leaf), ls.all noOwnL = true → ∃ q, ∀ st : St, packN n st ls = (st, q)
  | 0, ls, _ => ⟨(ls, ls.isEmpty), fun _ => rfl⟩
  | n + 1, [], _ => ⟨([], true), fun _ => rfl⟩
  | n + 1, l :: ls, h => by
    simp only [List.all_cons, Bool.and_eq_true] at h
    obtain ⟨q, hq⟩ := packN_noOwn n ls h.2
    cases l with
    | own id => cases h.1
    | sub id o k => cases h.1
    | int k x => exact ⟨_, fun st => by unfold packN; simp only [hq]; rfl⟩
    | bool x => exact ⟨_, fun st => by unfold packN; simp only [hq]; rfl⟩
    | str x => exact ⟨_, fun st => by unfold packN; simp only [hq]; rfl⟩
    | nil => exact ⟨_, fun st => by unfold packN; simp only [hq]; rfl⟩
    | _ => exact ⟨_, fun st => by unfold packN; simp only [hq]; rfl⟩
theorem pack_noOwn {ls : List Leaf} (h : ls.all noOwnL = true) : ∃ q, ∀ st : St, pack st ls = (st, q) := packN_noOwn _ ls h
theorem noOwn_leafs {s : Slot} (h : noOwn s = true) : s.leafs.all noOwnL = true := by
  cases s with
  | lf l => show ([l] : List Leaf).all noOwnL = true; simp only [List.all_cons, List.all_nil, Bool.and_true]; exact h
  | ag ls => exact h
  | _ => rfl
theorem store_put {y : Oper} (hy : storeOp y = true) {d : Option Tmp} {s : Slot} (hok : stY ops st y = true) (a1 : ∀ t ∈ looks ops y, ∀ x, d = some x → t ≠ x) {K K' : St → Option R}
    (hk : ∀ st1 bb, CellE st st1 bb → (∀ b, bb = some b → (∃ o, st.env.get (addrT y) = some (.lf (.ptr b o))) ∧ rootOk ops st (addrT y) b = true) → K ((st1.put d s).put y.dst .dead) = some r → K' (st1.put y.dst .dead) = some r)
    (e : evOper ty Γ ops y (st.put d s) K = some r) : evOper ty Γ ops y st K' = some r := by
  have hev := ev_put (ops := ops) (y := y) (s := s) a1 (st1 := st)
  obtain ⟨yd, yo, yt, yp, ya, yg⟩ := y
  unfold storeOp at hy
  simp only at hy
  split at hy
  · rename_i t a x
    unfold evOper at e ⊢
    rw [put_n] at e
    cases hd : Nat.blt (yd.getD 0) st.n
    · rw [hd] at e; cases e
    · rw [hd] at e
      simp only [cond_true, opK] at e ⊢
      rw [hev (.tmp a) (by simp [Op.operands]), hev x (by simp [Op.operands])] at e
      unfold stY at hok
      simp only at hok
      unfold storeK at e ⊢
      split at e
      · rename_i ti hti
        cases hc : ((st.ev x).leafs.length == ti.size && Nat.blt 0 ti.size)
        · rw [hc] at e; cases e
        · rw [hc] at e
          simp only [cond_true] at e ⊢
          have hsa : st.ev (.tmp a) = (st.env.get a).getD .dead := rfl
          rw [hsa] at e ⊢
          split at hok
          · rename_i id i o hg
            simp only [Bool.and_eq_true] at hok
            have hid : id < 65000 := Nat.le_of_ble_eq_true hok.1
            rw [hg] at e ⊢
            simp only [Option.getD_some] at e ⊢
            obtain ⟨q, hq⟩ := pack_noOwn (noOwn_leafs hok.2)
            simp only [hq, put_arr] at e ⊢
            split at e
            · rename_i rr hrr
              split at e
              · rename_i z hz
                cases hle : Nat.ble (o + (st.ev x).leafs.length) rr.e.sz
                · rw [hle] at e; cases e
                · rw [hle] at e
                  simp only [cond_true, newArr_put] at e ⊢
                  refine hk _ none ⟨rfl, rfl, fun b _ => rfl, fun j aj hj => ?_⟩ (fun b hb => by cases hb) e
                  by_cases ej : j = id
                  · subst ej
                    rw [hrr] at hj; cases hj
                    exact ⟨_, Tr.get_set_same _ _ hid, rfl, by simp⟩
                  · exact ⟨aj, by rw [← hj]; exact Tr.get_set_ne _ _ ej, rfl, rfl⟩
              · cases e
            · cases e
          · rename_i b o hg
            rw [hg] at e ⊢
            simp only [Option.getD_some, put_box] at e ⊢
            split at e
            · rename_i ls hls
              cases hle : Nat.ble (o + (st.ev x).leafs.length) ls.length
              · rw [hle] at e; cases e
              · rw [hle] at e
                simp only [cond_true] at e ⊢
                refine hk { st with box := st.box.set b (some (splice ls o (st.ev x).leafs)) } (some b) ⟨rfl, rfl, fun b' hb' => Tr.get_set_ne _ _ (fun h => hb' (by rw [h])), fun j aj hj => ⟨aj, hj, rfl, rfl⟩⟩ (fun b' hb' => by cases hb'; exact ⟨⟨o, hg⟩, hok⟩) ?_
                cases d <;> exact e
            · cases e
          · cases hok
      · cases e
  · cases hy
theorem read_spec {x : Oper} (hr : readOp x = true) (hn : ∀ t, loneTmp x = some t → ∃ u, st.env.get t = some u ∧ noOwn u = true) {K : St → Option R} (e : evOper ty Γ ops x st K = some r) :
    ∃ d s, x.dst = some d ∧ K (st.put (some d) s) = some r ∧ ∀ {st2 : St}, st2.n = st.n → (∀ t ∈ looks ops x, st2.env.get t = st.env.get t) →
      (∀ t b o ls n, loneTmp x = some t → st.env.get t = some (.lf (.ptr b o)) → (∃ ty', x.op = .load ty' (.tmp t)) → st.box.get b = some ls → s.leafs = (ls.drop o).take n → ∃ ls', st2.box.get b = some ls' ∧ (ls'.drop o).take n = (ls.drop o).take n) →
      (sliceOp x = true → ∀ id a, st.arr.get id = some a → ∃ a', st2.arr.get id = some a' ∧ a'.e = a.e ∧ a'.l.length = a.l.length) →
      ∀ {R' : Type} {K' : St → Option R'} {r' : R'}, K' (st2.put (some d) s) = some r' → evOper ty Γ ops x st2 K' = some r' := by
  obtain ⟨dst, op, type, pos, after, guard⟩ := x
  cases hlt : loneTmp ⟨dst, op, type, pos, after, guard⟩ with
  | some t =>
    obtain ⟨u, hu, hno⟩ := hn t hlt
    have hlt' := hlt
    unfold loneTmp at hlt
    simp only at hlt
    split at hlt
    · rename_i d
      cases hlt
      unfold evOper at e
      cases hd : Nat.blt d st.n
      · simp only [Option.getD_some, hd] at e; cases e
      · simp only [hd, cond_true, opK, putK, St.ev, hu, Option.getD_some] at e
        refine ⟨d, u, rfl, e, fun {st2} h1 h2 _ _ R' K' r' h5 => ?_⟩
        have h6 : st2.env.get t = some u := (h2 t (by simp [looks, Op.operands, tmpsOf])).trans hu
        unfold evOper
        simp only [h1, hd, cond_true, opK, putK, St.ev, h6, Option.getD_some]
        exact h5
    · rename_i d
      cases hlt
      unfold evOper at e
      cases hd : Nat.blt d st.n
      · simp only [Option.getD_some, hd] at e; cases e
      · simp only [hd, cond_true, opK, putK, St.ev, hu, Option.getD_some] at e
        have hc : nilCheckK u st (fun st s => putK st (some d) s K) = some r → K (st.put (some d) u) = some r ∧ ∀ {st2 : St} {R' : Type} {K' : St → Option R'} {r' : R'}, K' (st2.put (some d) u) = some r' → nilCheckK u st2 (fun st s => putK st (some d) s K') = some r' := fun e => by
          unfold nilCheckK at e ⊢
          split at e <;> first | (cases e) | exact ⟨e, fun h => h⟩
        obtain ⟨g1, g2⟩ := hc e
        refine ⟨d, u, rfl, g1, fun {st2} h1 h2 _ _ R' K' r' h5 => ?_⟩
        have h6 : st2.env.get t = some u := (h2 t (by simp [looks, Op.operands, tmpsOf])).trans hu
        unfold evOper
        simp only [h1, hd, cond_true, opK, St.ev, h6, Option.getD_some]
        exact g2 h5
    · rename_i ty' _ f d
      cases hlt
      unfold evOper at e
      cases hd : Nat.blt d st.n
      · simp only [Option.getD_some, hd] at e; cases e
      · simp only [hd, cond_true, opK, St.ev, hu, Option.getD_some] at e
        have hc : fieldAddrK ty ty' u f st (fun st s => putK st (some d) s K) = some r → ∃ s, K (st.put (some d) s) = some r ∧ ∀ {st2 : St} {R' : Type} {K' : St → Option R'} {r' : R'}, K' (st2.put (some d) s) = some r' → fieldAddrK ty ty' u f st2 (fun st s => putK st (some d) s K') = some r' := fun e => by
          unfold fieldAddrK at e ⊢
          split at e
          · split at e
            · exact ⟨_, e, fun h => h⟩
            · exact ⟨_, e, fun h => h⟩
            · exact ⟨_, e, fun h => h⟩
            · cases e
          · cases e
        obtain ⟨s, g1, g2⟩ := hc e
        refine ⟨d, s, rfl, g1, fun {st2} h1 h2 _ _ R' K' r' h5 => ?_⟩
        have h6 : st2.env.get t = some u := (h2 t (by simp [looks, Op.operands, tmpsOf])).trans hu
        unfold evOper
        simp only [h1, hd, cond_true, opK, St.ev, h6, Option.getD_some]
        exact g2 h5
    · rename_i ty' _ d
      cases hlt
      unfold evOper at e
      cases hd : Nat.blt d st.n
      · simp only [Option.getD_some, hd] at e; cases e
      · simp only [hd, cond_true, opK, loadK, St.ev, hu, Option.getD_some] at e
        split at e
        · rename_i ti hti
          cases hl : st.leafsAt ti.size u with
          | none => rw [hl] at e; cases e
          | some ls =>
            rw [hl] at e
            simp only at e
            cases hsz : (ls.length == ti.size)
            · rw [hsz] at e; cases e
            · rw [hsz] at e
              simp only [cond_true] at e
              cases hm : mkSlot ti.agg ls with
              | none => rw [hm] at e; cases e
              | some s =>
                rw [hm] at e
                have hls : s.leafs = ls := by
                  unfold mkSlot at hm
                  cases hag : ti.agg
                  · rw [hag] at hm
                    simp only [cond_false] at hm
                    split at hm
                    · cases hm; rfl
                    · cases hm
                  · rw [hag] at hm
                    simp only [cond_true, Option.some.injEq] at hm
                    subst hm; rfl
                refine ⟨d, s, rfl, e, fun {st2} h1 h2 h3 _ R' K' r' h5 => ?_⟩
                have h6 : st2.env.get t = some u := (h2 t (by simp [looks, Op.operands, tmpsOf])).trans hu
                have h7 : st2.leafsAt ti.size u = some ls := by
                  unfold St.leafsAt at hl ⊢
                  split at hl
                  · rename_i b o
                    obtain ⟨l0, k1, k2⟩ := Option.map_eq_some_iff.1 hl
                    obtain ⟨l1, k3, k4⟩ := h3 t b o l0 ti.size rfl hu ⟨ty', rfl⟩ k1 (by rw [hls, k2])
                    simp only [k3, Option.map_some, k4, k2]
                  · cases hno
                  · exact hl
                  · cases hl
                unfold evOper
                simp only [h1, hd, cond_true, opK, loadK, St.ev, h6, Option.getD_some, hti, h7, hsz, hm]
                exact h5
        · cases e
    · cases hlt
  | none =>
    have hso : sliceOp ⟨dst, op, type, pos, after, guard⟩ = true := by
      unfold readOp at hr
      rw [hlt] at hr
      simpa using hr
    have hso' := hso
    unfold sliceOp at hso
    simp only at hso
    split at hso
    · rename_i t0 x0 lo hi d
      unfold evOper at e
      cases hd : Nat.blt d st.n
      · simp only [Option.getD_some, hd] at e; cases e
      · simp only [Option.getD_some, hd, cond_true, opK] at e
        split at e
        · rename_i a h ha hh
          have hc : sliceK ty t0 (st.ev (.tmp x0)) a h st (fun st s => putK st (some d) s K) = some r → ∃ s, K (st.put (some d) s) = some r ∧ ∀ {st2 : St} {R' : Type} {K' : St → Option R'} {r' : R'},
              (∀ id a, st.arr.get id = some a → ∃ a', st2.arr.get id = some a' ∧ a'.e = a.e ∧ a'.l.length = a.l.length) → K' (st2.put (some d) s) = some r' → sliceK ty t0 (st.ev (.tmp x0)) a h st2 (fun st s => putK st (some d) s K') = some r' := fun e => by
            unfold sliceK at e ⊢
            split at e
            · rename_i sx _
              cases q : isStr ty t0
              · rw [q] at e; cases e
              · rw [q] at e
                cases q2 : decide (0 ≤ a.getD 0 ∧ a.getD 0 ≤ h.getD sx.size ∧ h.getD sx.size ≤ sx.size)
                · rw [q2] at e; cases e
                · rw [q2] at e
                  refine ⟨_, e, fun _ hh => ?_⟩
                  simp only [q, q2, cond_true]; exact hh
            · rename_i el l b _
              cases q : (elemSz ty t0 == some el.sz)
              · rw [q] at e; cases e
              · rw [q] at e
                cases q2 : decide (0 ≤ a.getD 0 ∧ a.getD 0 ≤ h.getD l.length ∧ h.getD l.length ≤ l.length)
                · rw [q2] at e; cases e
                · rw [q2] at e
                  refine ⟨_, e, fun _ hh => ?_⟩
                  simp only [q, q2, cond_true]; exact hh
            · rename_i id _
              split at e
              · rename_i rr hrr
                cases q : (elemSz ty t0 == some rr.e.sz)
                · rw [q] at e; cases e
                · rw [q] at e
                  cases q2 : decide (0 ≤ a.getD 0 ∧ a.getD 0 ≤ h.getD rr.l.length ∧ h.getD rr.l.length ≤ rr.l.length)
                  · rw [q2] at e; cases e
                  · rw [q2] at e
                    refine ⟨_, e, fun hA hh => ?_⟩
                    obtain ⟨a', k1, k2, k3⟩ := hA id rr hrr
                    simp only [k1, k3]
                    rw [show (elemSz ty t0 == some a'.e.sz) = true by rw [k2]; exact q, q2]
                    exact hh
              · cases e
            · rename_i id o n _
              split at e
              · rename_i rr hrr
                cases q : (elemSz ty t0 == some rr.e.sz)
                · rw [q] at e; cases e
                · rw [q] at e
                  cases q2 : decide (0 ≤ a.getD 0 ∧ a.getD 0 ≤ h.getD n ∧ h.getD n ≤ n)
                  · rw [q2] at e; cases e
                  · rw [q2] at e
                    refine ⟨_, e, fun hA hh => ?_⟩
                    obtain ⟨a', k1, k2, k3⟩ := hA id rr hrr
                    simp only [k1]
                    rw [show (elemSz ty t0 == some a'.e.sz) = true by rw [k2]; exact q]
                    exact hh
              · cases e
            · cases q : (elemSz ty t0).isSome
              · rw [q] at e; cases e
              · rw [q] at e
                cases q2 : decide (0 ≤ a.getD 0 ∧ a.getD 0 ≤ h.getD 0 ∧ h.getD 0 ≤ 0)
                · rw [q2] at e; cases e
                · rw [q2] at e
                  refine ⟨_, e, fun _ hh => ?_⟩
                  simp only [q, q2, cond_true]; exact hh
            · cases e
          obtain ⟨s, g1, g2⟩ := hc e
          refine ⟨d, s, rfl, g1, fun {st2} h1 h2 _ h4 R' K' r' h5 => ?_⟩
          have hev := ev_same (l := (Op.slice t0 (.tmp x0) lo hi none).operands.toList) (st := st) (st' := st2) fun t ht => h2 t (List.mem_append_left _ ht)
          have e1 : st2.ev (.tmp x0) = st.ev (.tmp x0) := hev _ (by simp [Op.operands])
          have e2 : bnd st2 lo = bnd st lo := by
            cases lo with
            | none => rfl
            | some l => simp only [bnd]; rw [hev l (by simp [Op.operands])]
          have e3 : bnd st2 hi = bnd st hi := by
            cases hi with
            | none => rfl
            | some l => simp only [bnd]; rw [hev l (by simp [Op.operands])]
          unfold evOper
          simp only [Option.getD_some, h1, hd, cond_true, opK]
          rw [e1, e2, e3, ha, hh]
          exact g2 (h4 hso') h5
        · cases e
    · cases hso
end
end Go.Ev

namespace Go.Ev
section
variable {P : Program} {ty : Ty} {Γ : FuncId → Option SumX} {st : St} {R : Type} {r : R} {o : Oper} {ops : Array Oper}
theorem partsOf_noOwn {e : K} {st st2 : St} : ∀ (ps : List (Nat × Operand)) (j : Nat) {st' : St} {l : List e.T} {dp : Bool}, (∀ p ∈ ps, noOwn (st.ev p.2) = true) → (∀ p ∈ ps, st2.ev p.2 = st.ev p.2) →
    partsOf st e ps j = some (st', l, dp) → st' = st ∧ partsOf st2 e ps j = some (st2, l, dp)
  | [], j, st', l, dp, _, _, h => by cases h; exact ⟨rfl, rfl⟩
  | (i, x) :: ps, j, st', l, dp, hn, hs, h => by
    unfold partsOf at h ⊢
    cases hb : (i == j)
    · rw [hb] at h; cases h
    · rw [hb] at h
      simp only [cond_true] at h ⊢
      have h1 := hn (i, x) (by simp)
      have h2 := hs (i, x) (by simp)
      simp only at h1 h2
      rw [h2]
      obtain ⟨q, hq⟩ := pack_noOwn (noOwn_leafs h1)
      rw [hq] at h ⊢
      simp only at h ⊢
      split at h
      · rename_i y hy
        split at h
        · rename_i st1 l1 dp1 hp
          cases h
          obtain ⟨k1, k2⟩ := partsOf_noOwn ps (j + 1) (fun p hp => hn p (by simp [hp])) (fun p hp => hs p (by simp [hp])) hp
          subst k1
          simp only [hy, k2]
          refine ⟨?_, ?_⟩ <;> first | trivial | rfl
        · cases h
      · cases h
theorem bs_spec {x : Oper} (hx : bsOp x = true) (hb : bsOk st x = true) {K : St → Option R} (e : evOper ty Γ ops x st K = some r) :
    ∃ a, st.arr.get (x.dst.getD 0 * 4) = none ∧ K ((st.newArr (x.dst.getD 0 * 4) a).put x.dst (.lf (.own (x.dst.getD 0 * 4)))) = some r ∧ ∀ {st2 : St}, st2.n = st.n → (∀ t ∈ looks ops x, st2.env.get t = st.env.get t) → st2.arr.get (x.dst.getD 0 * 4) = none →
      ∀ {R' : Type} {K' : St → Option R'} {r' : R'}, K' ((st2.newArr (x.dst.getD 0 * 4) a).put x.dst (.lf (.own (x.dst.getD 0 * 4)))) = some r' → evOper ty Γ ops x st2 K' = some r' := by
  obtain ⟨dst, op, type, pos, after, guard⟩ := x
  unfold bsOp at hx
  simp only at hx
  split at hx
  · rename_i t n ps
    unfold bsOk at hb
    simp only at hb
    unfold evOper at e
    cases hd : Nat.blt (dst.getD 0) st.n
    · simp only [hd] at e; cases e
    · simp only [hd, cond_true, opK] at e
      unfold buildSliceK at e
      split at e
      · rename_i et _ _ _ _ _ hty
        split at e
        · rename_i el hety
          cases hc : (ps.toList.length == n && Nat.ble (n * el.sz) 16777216)
          · rw [hc] at e; cases e
          · rw [hc] at e
            simp only [cond_true] at e
            have hn : ∀ p ∈ ps.toList, noOwn (st.ev p.2) = true := fun p hp => List.all_eq_true.1 hb p hp
            split at e
            · rename_i st' l dp hp
              have hst := (partsOf_noOwn (st2 := st) ps.toList 0 hn (fun _ _ => rfl) hp).1
              subst hst
              split at e
              · cases e
              · rename_i hfree
                refine ⟨⟨el, l, dp⟩, hfree, e, fun {st2} h1 h2 h3 R' K' r' h4 => ?_⟩
                have hev : ∀ p ∈ ps.toList, st2.ev p.2 = st'.ev p.2 := fun p hp => ev_same (l := (Op.buildSlice t n ps).operands.toList) (fun t ht => h2 t (List.mem_append_left _ ht)) p.2 (by simp [Op.operands]; exact ⟨p.1, by simpa using hp⟩)
                have hp2 := (partsOf_noOwn (st2 := st2) ps.toList 0 hn hev hp).2
                unfold evOper
                simp only [h1, hd, cond_true, opK]
                unfold buildSliceK
                rw [hty]
                simp only [hety, hc, cond_true, hp2, h3]
                exact h4
            · cases e
        · cases e
      · cases e
  · cases hx
def First (Γ : FuncId → Option SumX) (st : St) (o : Oper) : Prop := calmOp Γ o = true ∨ freshOp Γ o = true ∨ (bsOp o = true ∧ bsOk st o = true)
theorem first_spec (hΓc : ∀ f x, Γ f = some x → x.calm = true → CalmSum x.g) (hΓf : ∀ f x, Γ f = some x → x.fresh = true → FreshSum x.g) {x : Oper} (hx : First Γ st x) (hx16 : x.dst.getD 0 < 16000) (hl : st.Low) {K : St → Option R} (e : evOper ty Γ ops x st K = some r) :
    ∃ nb na s, Abs st nb na ∧ K ((st.add nb na).put x.dst s) = some r ∧ ∀ {st' : St}, st.Ext st' → st'.n = st.n → Abs st' nb na → (∀ t ∈ looks ops x, st'.env.get t = st.env.get t) → st'.Low → ∀ {R' : Type} {K' : St → Option R'} {r' : R'}, K' ((st'.add nb na).put x.dst s) = some r' → evOper ty Γ ops x st' K' = some r' := by
  rcases hx with hc | hf | ⟨hb, hk⟩
  · obtain ⟨s, k1, k2⟩ := calm_oper hΓc hc hl e
    exact ⟨[], [], s, ⟨fun _ h => by simp at h, fun _ h => by simp at h, fun _ h => by simp at h, fun _ h => by simp at h⟩, k1, fun hx hn _ hs hl' _ _ _ h => k2 hx hn hs hl' h⟩
  · obtain ⟨nb, na, s, k0, k1, k2⟩ := fresh_oper hΓf hf hx16 hl e
    exact ⟨nb, na, s, k0, k1, fun hx hn ha hs hl' _ _ _ h => k2 (.inr hx) hn ha hs hl' h⟩
  · obtain ⟨a, k0, k1, k2⟩ := bs_spec hb hk e
    exact ⟨[], [(x.dst.getD 0 * 4, a)], .lf (.own (x.dst.getD 0 * 4)), ⟨fun _ h => by simp at h, fun p h => by simp at h; subst h; exact k0, fun _ h => by simp at h, fun p h => by simp at h; subst h; exact (show x.dst.getD 0 * 4 < 65000 from Nat.lt_of_lt_of_le (Nat.mul_lt_mul_of_pos_right hx16 (by decide)) (by decide))⟩, k1,
      fun hx hn ha hs hl' _ _ _ h => k2 hn hs (ha.a _ (List.mem_cons_self ..)) h⟩
theorem abs_unput {d : Option Tmp} {s : Slot} {nb : List (Nat × List Leaf)} {na : List (Nat × Arr)} (h : Abs (st.put d s) nb na) : Abs st nb na :=
  ⟨fun p hp => by have := h.b p hp; rwa [put_box] at this, fun p hp => by have := h.a p hp; rwa [put_arr] at this, h.bl, h.al⟩
theorem swap_calm_first (hΓc : ∀ f x, Γ f = some x → x.calm = true → CalmSum x.g) (hΓf : ∀ f x, Γ f = some x → x.fresh = true → FreshSum x.g) {x y : Oper} (hx : calmOp Γ x = true) (hy : ∀ st' : St, (∀ t ∈ looks ops y, st'.env.get t = st.env.get t) → First Γ st' y)
    (a1 : ∀ t ∈ looks ops y ++ y.dst.toList, ∀ d, x.dst = some d → t ≠ d) (a2 : ∀ t ∈ looks ops x, ∀ d, y.dst = some d → t ≠ d) (hx16 : x.dst.getD 0 < 16000) (hy16 : y.dst.getD 0 < 16000) (hl : st.Low) {K : St → Option R}
    (e : evOper ty Γ ops x st (fun st => evOper ty Γ ops y st K) = some r) : evOper ty Γ ops y st (fun st => evOper ty Γ ops x st K) = some r := by
  have hne : ∀ d, x.dst = some d → y.dst ≠ some d := fun d hd hy => a1 d (List.mem_append_right _ (by rw [hy]; simp)) d hd rfl
  obtain ⟨s, k1, k2⟩ := calm_oper hΓc hx hl e
  have hl1 := Low.put (s := s) (Nat.lt_of_lt_of_le hx16 (by decide)) hl
  have ly : ∀ t ∈ looks ops y, (st.put x.dst s).env.get t = st.env.get t := fun t ht => put_get fun d hd => a1 t (List.mem_append_left _ ht) d hd
  obtain ⟨nb, na, u, k5, k3, k4⟩ := first_spec hΓc hΓf (hy _ ly) hy16 hl1 k1
  have hab : Abs st nb na := abs_unput k5
  refine k4 Ext.unput (put_n _ _).symm hab (fun t ht => (ly t ht).symm) hl ?_
  refine k2 (st' := (st.add nb na).put y.dst u) (Ext.trans (Ext.add hab) (Ext.put (d := none) (s := u) (St.Ext.refl _))) (by rw [put_n]; rfl) (fun t ht => put_get (st := st.add nb na) fun d hd => a2 t ht d hd) (Low.put (Nat.lt_of_lt_of_le hy16 (by decide)) (Low.add hl)) ?_
  rw [add_put] at k3
  rw [← put_comm hne]; exact k3
theorem lone_looks {t : Tmp} (h1 : loneTmp o = some t) : t ∈ looks ops o := by
  obtain ⟨dst, op, type, pos, after, guard⟩ := o
  unfold loneTmp at h1
  simp only at h1
  refine List.mem_append_left _ ?_
  split at h1 <;> first | (cases h1; simp [Op.operands, tmpsOf]) | cases h1
theorem looks_lone {t : Tmp} (h1 : loneTmp o = some t) : ∀ u ∈ looks ops o, u = t := by
  obtain ⟨dst, op, type, pos, after, guard⟩ := o
  unfold loneTmp at h1
  simp only at h1
  intro u hu
  split at h1 <;> first | (cases h1; simpa [looks, Op.operands, tmpsOf] using hu) | cases h1
theorem lone_dst {t : Tmp} (h1 : loneTmp o = some t) : ∃ d, o.dst = some d := by
  obtain ⟨dst, op, type, pos, after, guard⟩ := o
  unfold loneTmp at h1
  simp only at h1
  split at h1 <;> first | (cases h1; exact ⟨_, rfl⟩) | cases h1
theorem lone_calm (h1 : (loneTmp o).isSome = true) : calmOp Γ o = true := by
  unfold loneTmp at h1
  unfold calmOp
  split at h1 <;> first | (rename_i h _ _; rw [h]) | cases h1
theorem slice_calm (h1 : sliceOp o = true) : calmOp Γ o = true := by
  unfold sliceOp at h1
  unfold calmOp
  split at h1
  · rename_i h _ _; rw [h]
  · cases h1
theorem read_calm (h : readOp o = true) : calmOp Γ o = true := by
  unfold readOp at h
  rcases Bool.or_eq_true _ _ ▸ h with h | h
  · exact lone_calm h
  · exact slice_calm h
theorem lone_noSlice {t : Tmp} (h1 : loneTmp o = some t) : sliceOp o = false := by
  obtain ⟨dst, op, type, pos, after, guard⟩ := o
  unfold loneTmp at h1
  simp only at h1
  split at h1 <;> first | rfl | cases h1
theorem post_spec (hn : needM ops o = true) (h : post ops st o = true) {d : Tmp} (hd : o.dst = some d) : ∃ s, st.env.get d = some s ∧ noOwn s = true := by
  unfold post at h
  rw [hn, hd] at h
  simp only [Bool.not_true, Bool.false_or] at h
  split at h
  · rename_i s hs; exact ⟨s, hs, h⟩
  · cases h
theorem swap_read_map {x y : Oper} (hm : needM ops x = true) (hok : slotOk st x = true) (hy : mapOp y = true)
    (a1 : ∀ t ∈ looks ops y ++ y.dst.toList, ∀ d, x.dst = some d → t ≠ d) (a2 : ∀ t ∈ looks ops x, ∀ d, y.dst = some d → t ≠ d) (hx16 : x.dst.getD 0 < 16000) {K : St → Option R}
    (e : evOper ty Γ ops x st (fun st => bif post ops st x then evOper ty Γ ops y st K else none) = some r) : evOper ty Γ ops y st (fun st => evOper ty Γ ops x st K) = some r := by
  have hlo : (loneTmp x).isSome = true := by unfold needM at hm; simp only [Bool.and_eq_true] at hm; exact hm.1
  obtain ⟨t, ht⟩ := Option.isSome_iff_exists.1 hlo
  have hs : ∀ t, loneTmp x = some t → ∃ u, st.env.get t = some u ∧ noOwn u = true := fun t ht => by
    unfold slotOk at hok
    rw [ht] at hok
    simp only at hok
    split at hok
    · rename_i s hs; exact ⟨s, hs, hok⟩
    · cases hok
  obtain ⟨d, s, k0, k1, k2⟩ := read_spec (by unfold readOp; rw [hlo]; rfl) hs e
  rw [k0] at hx16 a1
  have hne : y.dst ≠ some d := fun h => a1 d (List.mem_append_right _ (by rw [h]; simp)) d rfl rfl
  have hd65 : d < 65000 := Nat.lt_trans (show d < 16000 from hx16) (by decide)
  have hget : (st.put (some d) s).env.get d = some s := Tr.get_set_same _ _ hd65
  cases hp : post ops (st.put (some d) s) x
  · rw [hp] at k1; cases k1
  · rw [hp] at k1
    simp only [cond_true] at k1
    obtain ⟨s', h1, hno⟩ := post_spec hm hp k0
    rw [hget] at h1; cases h1
    refine map_put (ops := ops) hy hno (fun t ht x hx => a1 t (List.mem_append_left _ ht) x hx) (fun st1 u hkp hw => ?_) k1
    obtain ⟨u0, hu0, hu1⟩ := hs t ht
    refine k2 (by rw [put_n]; exact hkp.1) (fun t' ht' => ?_) (fun t' b o ls n e1 e2 _ e4 e5 => ?_) (fun h => ?_) ?_
    · have := looks_lone ht t' ht'
      subst this
      rw [put_get fun z hz => a2 t' ht' z hz, hkp.2.1 t' u0 hu0 hu1, hu0]
    · obtain ⟨ls', g1, g2, g3⟩ := hkp.2.2.1 b ls e4
      refine ⟨ls', by rw [put_box]; exact g1, ?_⟩
      have hall : ((ls.drop o).take n).all noOwnL = true := e5 ▸ noOwn_leafs hno
      apply List.ext_getElem?
      intro k
      rw [List.getElem?_take, List.getElem?_take, List.getElem?_drop, List.getElem?_drop]
      by_cases hk : k < n
      · rw [if_pos hk, if_pos hk]
        cases hl : ls[o + k]? with
        | none =>
          rw [List.getElem?_eq_none_iff] at hl ⊢
          omega
        | some l =>
          refine g3 _ l hl (List.all_eq_true.1 hall l ?_)
          exact List.mem_of_getElem? (i := k) (by rw [List.getElem?_take, if_pos hk, List.getElem?_drop]; exact hl)
      · rw [if_neg hk, if_neg hk]
    · rw [lone_noSlice ht] at h; cases h
    · rw [← put_comm (x := some d) (y := y.dst) (fun z hz => by cases hz; exact hne)]
      exact hw
theorem swap_bs_s3 {x y : Oper} (hx : bsOp x = true) (hb : bsOk st x = true) (hy : s3Op y = true) (hok : s3Ok ops st y = true) (hmem : x ∈ ops.toList) (hun : unordK ops x y = true)
    (a1 : ∀ t ∈ looks ops y ++ y.dst.toList, ∀ d, x.dst = some d → t ≠ d) (a2 : ∀ t ∈ looks ops x, ∀ d, y.dst = some d → t ≠ d) (hx16 : x.dst.getD 0 < 16000) {K : St → Option R}
    (e : evOper ty Γ ops x st (fun st => evOper ty Γ ops y st K) = some r) : evOper ty Γ ops y st (fun st => evOper ty Γ ops x st K) = some r := by
  obtain ⟨a, k0, k1, k2⟩ := bs_spec hx hb e
  have hne : ∀ d, x.dst = some d → y.dst ≠ some d := fun d hd hy => a1 d (List.mem_append_right _ (by rw [hy]; simp)) d hd rfl
  have hev : ∀ z ∈ y.op.operands.toList, ((st.newArr (x.dst.getD 0 * 4) a).put x.dst (.lf (.own (x.dst.getD 0 * 4)))).ev z = st.ev z := fun z hz => by
    rw [ev_put (ops := ops) (fun t ht x hx => a1 t (List.mem_append_left _ ht) x hx) z hz]
    cases z <;> rfl
  have hlooks : ∀ {st1 : St}, KeepE st st1 → ∀ u, ∀ t ∈ looks ops x, (st1.put y.dst u).env.get t = st.env.get t := fun {st1} hkp u t ht => by
    rw [put_get fun z hz => a2 t ht z hz]
    obtain ⟨xd, xo, xt, xp, xa, xg⟩ := x
    unfold bsOp at hx
    simp only at hx
    split at hx
    · rename_i tt n ps
      unfold bsOk at hb
      simp only at hb
      have htm : t ∈ tmpsOf (ps.toList.map (·.2)) := by simpa [looks, Op.operands] using ht
      have : ∀ l : List (Nat × Operand), (∀ p ∈ l, noOwn (st.ev p.2) = true) → t ∈ tmpsOf (l.map (·.2)) → noOwn (st.ev (.tmp t)) = true := by
        intro l
        induction l with
        | nil => intro _ h; simp [tmpsOf] at h
        | cons p l ih =>
          intro h1 h2
          obtain ⟨i, z⟩ := p
          cases z with
          | tmp t' =>
            simp only [List.map_cons, tmpsOf, List.mem_cons] at h2
            rcases h2 with h2 | h2
            · subst h2; exact h1 (i, .tmp t) (by simp)
            · exact ih (fun p hp => h1 p (by simp [hp])) h2
          | _ => exact ih (fun p hp => h1 p (by simp [hp])) h2
      have hno := this ps.toList (fun p hp => List.all_eq_true.1 hb p hp) htm
      simp only [St.ev] at hno
      cases hg : st.env.get t with
      | none => rw [hg] at hno; cases hno
      | some s => rw [hg] at hno; exact hkp.2.1 t s hg hno
    · cases hx
  obtain ⟨yd, yo, yt, yp, ya, yg⟩ := y
  have hy' := hy
  unfold s3Op at hy'
  simp only at hy'
  split at hy'
  · rename_i t z lo hi mx
    unfold evOper at k1 ⊢
    rw [put_n] at k1
    have hnn : (st.newArr (x.dst.getD 0 * 4) a).n = st.n := rfl
    rw [hnn] at k1
    cases hd : Nat.blt (yd.getD 0) st.n
    · simp only [hd] at k1; cases k1
    · simp only [hd, cond_true] at k1 ⊢
      cases hi with
      | none => simp only [opK] at k1; cases k1
      | some hi =>
        simp only [opK] at k1 ⊢
        have h4 : bnd ((st.newArr (x.dst.getD 0 * 4) a).put x.dst (.lf (.own (x.dst.getD 0 * 4)))) lo = bnd st lo := by
          cases lo with
          | none => rfl
          | some l => simp only [bnd]; rw [hev l (by simp [Op.operands])]
        rw [hev z (by simp [Op.operands]), hev hi (by simp [Op.operands]), hev mx (by simp [Op.operands]), h4] at k1
        split at k1
        · rename_i lo' h' m' _ _ _
          cases hm : decide (h' = m')
          · rw [hm] at k1; cases k1
          · rw [hm] at k1
            simp only [cond_true] at k1 ⊢
            unfold s3Ok at hok
            simp only at hok
            unfold slice3K at k1 ⊢
            split at k1
            · rename_i el l b hz
              cases hsz : (elemSz ty t == some el.sz)
              · rw [hsz] at k1; cases k1
              · rw [hsz] at k1
                simp only [cond_true] at k1 ⊢
                cases hc : decide (0 ≤ lo'.getD 0 ∧ lo'.getD 0 ≤ h' ∧ h' ≤ l.length)
                · rw [hc] at k1; cases k1
                · rw [hc] at k1
                  simp only [cond_true, putK] at k1 ⊢
                  refine k2 (by rw [put_n]) (hlooks (KeepE.refl _) _) (by rw [put_arr]; exact k0) ?_
                  rw [newArr_put, ← put_comm hne]
                  exact k1
            · rename_i id hz
              rw [hz] at hok
              simp only at hok
              have hid : id ≠ x.dst.getD 0 * 4 := by
                have := List.all_eq_true.1 hok x hmem
                rw [hx, hun] at this
                simpa using this
              have hga : ((st.newArr (x.dst.getD 0 * 4) a).put x.dst (.lf (.own (x.dst.getD 0 * 4)))).arr.get id = st.arr.get id := by
                rw [put_arr]; exact Tr.get_set_ne _ _ hid
              rw [hga] at k1
              split at k1
              · rename_i rr hrr
                cases hsz : (elemSz ty t == some rr.e.sz)
                · rw [hsz] at k1; cases k1
                · rw [hsz] at k1
                  simp only [cond_true] at k1 ⊢
                  cases hc : decide (0 ≤ lo'.getD 0 ∧ lo'.getD 0 ≤ h' ∧ h' ≤ rr.l.length)
                  · rw [hc] at k1; cases k1
                  · rw [hc] at k1
                    simp only [cond_true, putK] at k1 ⊢
                    refine k2 (by rw [put_n]; rfl) (hlooks KeepE.freeze _) (by
                      rw [put_arr]
                      show (st.arr.set id none).get _ = none
                      rw [Tr.get_set_ne _ _ (Ne.symm hid)]; exact k0) ?_
                    have hfr : ((st.newArr (x.dst.getD 0 * 4) a).put x.dst (.lf (.own (x.dst.getD 0 * 4)))).freeze id rr = ((st.freeze id rr).newArr (x.dst.getD 0 * 4) a).put x.dst (.lf (.own (x.dst.getD 0 * 4))) := by
                      have h1 : (st.newArr (x.dst.getD 0 * 4) a).freeze id rr = (st.freeze id rr).newArr (x.dst.getD 0 * 4) a := by
                        simp only [St.newArr, St.freeze, Tr.set_comm _ _ _ (Ne.symm hid)]
                      cases hxd : x.dst with
                      | none => rw [hxd] at h1; exact h1
                      | some d =>
                        rw [hxd] at h1 hid
                        rw [freeze_put, h1]
                        have : (Slot.lf (.own ((some d : Option Tmp).getD 0 * 4))).freeze id rr = .lf (.own ((some d : Option Tmp).getD 0 * 4)) := by
                          have hb : (((some d : Option Tmp).getD 0 * 4) == id) = false := beq_eq_false_iff_ne.2 (Ne.symm hid)
                          simp only [Slot.freeze, Slot.map, Leaf.freeze, hb, cond_false]
                        rw [this]
                    rw [hfr] at k1
                    rw [newArr_put, ← put_comm hne]
                    exact k1
              · cases k1
            · cases k1
        · cases k1
  · cases hy'
theorem swap_read_store {x y : Oper} (hm : needS ops x = true) (hok : stX ops st x = true) (hy : storeOp y = true) (hoy : stY ops st y = true) (hmem : y ∈ ops.toList) (hun : unordK ops x y = true)
    (a1 : ∀ t ∈ looks ops y ++ y.dst.toList, ∀ d, x.dst = some d → t ≠ d) (a2 : ∀ t ∈ looks ops x, ∀ d, y.dst = some d → t ≠ d) {K : St → Option R}
    (e : evOper ty Γ ops x st (fun st => evOper ty Γ ops y st K) = some r) : evOper ty Γ ops y st (fun st => evOper ty Γ ops x st K) = some r := by
  have hro : readOp x = true := by unfold needS at hm; simp only [Bool.and_eq_true] at hm; exact hm.1
  have hs : ∀ t, loneTmp x = some t → ∃ u, st.env.get t = some u ∧ noOwn u = true := fun t ht => by
    unfold stX at hok
    rw [ht] at hok
    simp only at hok
    split at hok
    · rename_i s hs
      simp only [Bool.and_eq_true] at hok
      exact ⟨s, hs, hok.1⟩
    · cases hok
  obtain ⟨d, s, k0, k1, k2⟩ := read_spec hro hs e
  rw [k0] at a1
  have hne : y.dst ≠ some d := fun h => a1 d (List.mem_append_right _ (by rw [h]; simp)) d rfl rfl
  refine store_put (ops := ops) hy hoy (fun t ht x hx => a1 t (List.mem_append_left _ ht) x hx) (fun st1 bb hc hbb hw => ?_) k1
  refine k2 (by rw [put_n]; exact hc.n) (fun t' ht' => ?_) (fun t' b o ls n e1 e2 e3 e4 e5 => ⟨ls, ?_, rfl⟩) (fun h id ai hai => ?_) ?_
  · rw [put_get fun z hz => a2 t' ht' z hz, hc.env]
  · rw [put_box, hc.box b ?_]; exact e4
    intro hbe
    obtain ⟨⟨o', hg⟩, hr⟩ := hbb b hbe
    obtain ⟨ty', hop⟩ := e3
    unfold stX at hok
    rw [e1] at hok
    simp only [e2, hop, Bool.and_eq_true] at hok
    have hq := List.all_eq_true.1 hok.2 y hmem
    rw [hy, hun] at hq
    unfold rootOk at hr
    simp only [Bool.and_eq_true, Bool.not_eq_true'] at hr
    unfold notBox at hq
    rw [hr.1] at hq
    split at hr
    · rename_i b' _ hgr
      rw [hgr] at hq
      have h2 := hr.2
      simp only [beq_iff_eq] at h2
      subst h2
      simp at hq
    · cases hr.2
  · obtain ⟨a', h1, h2⟩ := hc.arr id ai hai
    exact ⟨a', by rw [put_arr]; exact h1, h2⟩
  · rw [← put_comm (x := some d) (y := y.dst) (fun z hz => by cases hz; exact hne)]
    exact hw
theorem bool_all_congr {α : Type} {l : List α} {f g : α → Bool} (h : ∀ x ∈ l, f x = g x) : l.all f = l.all g := by
  induction l with
  | nil => rfl
  | cons a l ih => simp only [List.all_cons, h a (by simp), ih fun x hx => h x (by simp [hx])]
theorem bsOk_same {y : Oper} {s1 : St} (h : ∀ z ∈ y.op.operands.toList, s1.ev z = st.ev z) : bsOk s1 y = bsOk st y := by
  obtain ⟨dst, op, type, pos, after, guard⟩ := y
  unfold bsOk
  cases op <;> try rfl
  rename_i t n ps
  simp only
  exact bool_all_congr fun p hp => by rw [h p.2 (by simp [Op.operands]; exact ⟨p.1, by simpa using hp⟩)]
theorem chk_same {y : Oper} {s1 : St} (h1 : ∀ t ∈ looks ops y, s1.env.get t = st.env.get t) (h2 : ∀ t, setIn ops t = false → s1.env.get t = st.env.get t) : chk ops s1 y = chk ops st y := by
  have hev : ∀ z ∈ y.op.operands.toList, s1.ev z = st.ev z := ev_same fun t ht => h1 t (List.mem_append_left _ ht)
  have e1 : slotOk s1 y = slotOk st y := by
    unfold slotOk
    cases hl : loneTmp y with
    | none => rfl
    | some t => simp only [h1 t (lone_looks hl)]
  have hnb : ∀ t b, notBox ops s1 t b = notBox ops st t b := fun t b => by
    unfold notBox
    cases hs : setIn ops t
    · simp only [h2 t hs]
    · simp only [Bool.true_or]
  have hro : ∀ t b, rootOk ops s1 t b = rootOk ops st t b := fun t b => by
    unfold rootOk
    cases hs : setIn ops (rootOf ops 6 t)
    · simp only [h2 _ hs]
    · simp only [Bool.not_true, Bool.false_and]
  have e2 : stX ops s1 y = stX ops st y := by
    unfold stX
    cases hl : loneTmp y with
    | none => rfl
    | some t => simp only [h1 t (lone_looks hl), hnb]
  have e3 : bsOk s1 y = bsOk st y := bsOk_same hev
  have e4 : stY ops s1 y = stY ops st y := by
    obtain ⟨dst, op, type, pos, after, guard⟩ := y
    unfold stY
    cases op <;> try rfl
    rename_i t a x
    cases a <;> try rfl
    rename_i a
    simp only [h1 a (List.mem_append_left _ (by simp [Op.operands, tmpsOf])), hev x (by simp [Op.operands]), hro]
  have e5 : s3Ok ops s1 y = s3Ok ops st y := by
    obtain ⟨dst, op, type, pos, after, guard⟩ := y
    unfold s3Ok
    cases op <;> try rfl
    rename_i t x lo hi mx
    simp only [hev x (by simp [Op.operands])]
  unfold chk
  rw [e1, e2, e3, e4, e5]
structure KN (y : Oper) (st s1 : St) : Prop where
  n : s1.n = st.n
  env : ∀ t u, (∀ d, y.dst = some d → t ≠ d) → st.env.get t = some u → noOwn u = true → s1.env.get t = some u
  low : st.Low → s1.Low
def YK (Γ : FuncId → Option SumX) (ops : Array Oper) (st : St) (y : Oper) : Prop := First Γ st y ∨ mapOp y = true ∨ (storeOp y = true ∧ stY ops st y = true)
theorem y_mono (hΓc : ∀ f x, Γ f = some x → x.calm = true → CalmSum x.g) (hΓf : ∀ f x, Γ f = some x → x.fresh = true → FreshSum x.g) {y : Oper} (hy : YK Γ ops st y) (hy16 : y.dst.getD 0 < 16000) (hl : st.Low) {K K' : St → Option R}
    (hK : ∀ s1, KN y st s1 → K s1 = some r → K' s1 = some r) (e : evOper ty Γ ops y st K = some r) : evOper ty Γ ops y st K' = some r := by
  have hy65 : y.dst.getD 0 < 65000 := Nat.lt_of_lt_of_le hy16 (by decide)
  rcases hy with hf | hm | ⟨hs, hok⟩
  · obtain ⟨nb, na, s, k0, k1, k2⟩ := first_spec hΓc hΓf hf hy16 hl e
    exact k2 (St.Ext.refl st) rfl k0 (fun _ _ => rfl) hl (hK _ ⟨by rw [put_n]; rfl, fun t u ht h1 _ => by rw [put_get (st := st.add nb na) ht]; exact h1, fun h => Low.put hy65 (Low.add h)⟩ k1)
  · refine map_put (ops := ops) (d := none) (s := .lf .nil) hm rfl (fun _ _ _ h => by cases h) (fun st1 u hkp hw => ?_) e
    refine hK _ ⟨by rw [put_n]; exact hkp.1, fun t u' ht h1 h2 => by rw [put_get ht]; exact hkp.2.1 t u' h1 h2, fun h => Low.put hy65 fun t u ht => ?_⟩ hw
    obtain ⟨u0, h0⟩ := hkp.2.2.2 t u ht
    exact h t u0 h0
  · refine store_put (ops := ops) (d := none) (s := .lf .nil) hs hok (fun _ _ _ h => by cases h) (fun st1 bb hc _ hw => ?_) e
    refine hK _ ⟨by rw [put_n]; exact hc.n, fun t u' ht h1 h2 => by rw [put_get ht, hc.env]; exact h1, fun h => Low.put hy65 fun t u ht => ?_⟩ hw
    rw [hc.env] at ht
    exact h t u ht
theorem first_noStore {x : Oper} (hx : First Γ st x) : storeOp x = false ∧ s3Op x = false := by
  obtain ⟨dst, op, type, pos, after, guard⟩ := x
  rcases hx with h | h | ⟨h, _⟩
  · unfold calmOp at h
    cases op <;> first | (exact ⟨rfl, rfl⟩) | (cases h; done) | skip
    rename_i t x lo hi mx
    cases mx
    · exact ⟨rfl, by unfold s3Op; cases guard <;> rfl⟩
    · cases h
  · unfold freshOp at h
    cases op <;> first | (exact ⟨rfl, rfl⟩) | (cases h; done)
  · unfold bsOp at h
    cases op <;> first | (exact ⟨rfl, rfl⟩) | (cases h; done)
theorem tmp_parts {i : Nat} {t' : Tmp} : ∀ {l : List (Nat × Operand)}, (i, Operand.tmp t') ∈ l → t' ∈ tmpsOf (l.map (·.2))
  | [], h => by simp at h
  | (j, z) :: l, h => by
    rcases List.mem_cons.1 h with h2 | h2
    · cases h2; simp [tmpsOf]
    · have := tmp_parts h2
      cases z with
      | tmp u => simp only [List.map_cons, tmpsOf, List.mem_cons]; exact .inr this
      | _ => exact this
theorem chk_keep {x : Oper} {s1 : St} (hns : storeOp x = false ∧ s3Op x = false) (h1 : ∀ t ∈ looks ops x, ∀ u, st.env.get t = some u → noOwn u = true → s1.env.get t = some u)
    (h2 : ∀ t, setIn ops t = false → ∀ u, st.env.get t = some u → noOwn u = true → s1.env.get t = some u) (h : chk ops st x = true) : chk ops s1 x = true := by
  have e1 : slotOk st x = true → slotOk s1 x = true := fun h => by
    unfold slotOk at h ⊢
    cases hl : loneTmp x with
    | none => rfl
    | some t =>
      rw [hl] at h
      simp only at h ⊢
      split at h
      · rename_i s hs
        rw [h1 t (lone_looks hl) s hs h]; exact h
      · cases h
  have hnb : ∀ t b, notBox ops st t b = true → notBox ops s1 t b = true := fun t b h => by
    unfold notBox at h ⊢
    cases hs : setIn ops t
    · rw [hs] at h
      simp only [Bool.false_or] at h ⊢
      split at h
      · rename_i b' o' hg
        rw [h2 t hs _ hg rfl]; exact h
      · rename_i s hnp hg
        rw [h2 t hs _ hg h]
        split
        · rename_i b' o' heq; cases heq; exact absurd rfl (hnp b' o')
        · rename_i s' _ heq; cases heq; exact h
        · rename_i heq; cases heq
      · cases h
    · rfl
  have e2 : stX ops st x = true → stX ops s1 x = true := fun h => by
    unfold stX at h ⊢
    cases hl : loneTmp x with
    | none => rfl
    | some t =>
      rw [hl] at h
      simp only at h ⊢
      split at h
      · rename_i s hs
        have hno : noOwn s = true := by simp only [Bool.and_eq_true] at h; exact h.1
        rw [h1 t (lone_looks hl) s hs hno]
        simp only [Bool.and_eq_true] at h ⊢
        refine ⟨hno, ?_⟩
        have h3 := h.2
        split at h3
        · rename_i b _ _ _
          refine List.all_eq_true.2 fun y hy => ?_
          have h4 := List.all_eq_true.1 h3 y hy
          rcases Bool.or_eq_true _ _ ▸ h4 with h5 | h5
          · rw [h5]; rfl
          · rw [hnb _ _ h5]; exact Bool.or_true _
        · rfl
      · cases h
  have e3 : bsOk st x = true → bsOk s1 x = true := fun h => by
    obtain ⟨dst, op, type, pos, after, guard⟩ := x
    unfold bsOk at h ⊢
    cases op <;> try (cases h; done)
    rename_i t n ps
    simp only at h ⊢
    refine List.all_eq_true.2 fun p hp => ?_
    have h3 := List.all_eq_true.1 h p hp
    obtain ⟨i, z⟩ := p
    cases z with
    | tmp t' =>
      simp only [St.ev] at h3 ⊢
      cases hg : st.env.get t' with
      | none => rw [hg] at h3; cases h3
      | some s =>
        rw [hg] at h3
        rw [h1 t' (List.mem_append_left _ ?_) s hg h3]; exact h3
        have := tmp_parts (l := _) hp
        simpa [Op.operands] using this
    | _ => exact h3
  have hY : needY ops x = false := by unfold needY; rw [hns.1]; rfl
  have hD : needD ops x = false := by unfold needD; rw [hns.2]; rfl
  unfold chk at h ⊢
  rw [hY, hD] at h ⊢
  simp only [Bool.and_eq_true, Bool.or_eq_true, Bool.not_eq_true', Bool.not_false, true_or, and_true] at h ⊢
  exact ⟨⟨h.1.1.imp id e1, h.1.2.imp id e2⟩, h.2.imp id e3⟩
theorem inD_set {o : Oper} (h : inD ops o = true) {t : Tmp} (ht : setIn ops t = false) : ∀ d, o.dst = some d → t ≠ d := fun d hd he => by
  subst he
  unfold inD at h
  unfold setIn at ht
  obtain ⟨x, hx, h1⟩ := List.any_eq_true.1 h
  have : (ops.toList.any fun o => o.dst == some t) = true := List.any_eq_true.2 ⟨x, hx, by rw [hd] at h1; exact h1⟩
  rw [ht] at this; cases this
theorem post_get {o : Oper} {s1 : St} (h : ∀ d, o.dst = some d → s1.env.get d = st.env.get d) : post ops s1 o = post ops st o := by
  unfold post
  cases hd : o.dst with
  | none => rfl
  | some d => simp only [h d hd]
theorem post_keep {x : Oper} {s1 : St} (h : ∀ d, x.dst = some d → ∀ u, st.env.get d = some u → noOwn u = true → s1.env.get d = some u) (hp : post ops st x = true) : post ops s1 x = true := by
  unfold post at hp ⊢
  rcases Bool.or_eq_true _ _ ▸ hp with h1 | h1
  · rw [h1]; rfl
  · cases hd : x.dst with
    | none => simp only [Bool.or_true]
    | some d =>
      rw [hd] at h1
      simp only at h1 ⊢
      split at h1
      · rename_i s hs
        simp only [h d hd s hs h1, h1, Bool.or_true]
      · cases h1
theorem evOpL_spec {o : Oper} {K : St → Option R} (e : evOpL ty Γ ops o st K = some r) : chk ops st o = true ∧ evOper ty Γ ops o st (fun st1 => bif post ops st1 o then K st1 else none) = some r := by
  unfold evOpL at e
  cases hc : chk ops st o
  · rw [hc] at e; cases e
  · rw [hc] at e; exact ⟨rfl, e⟩
theorem evOpL_of {o : Oper} {K : St → Option R} (hc : chk ops st o = true) (e : evOper ty Γ ops o st (fun st1 => bif post ops st1 o then K st1 else none) = some r) : evOpL ty Γ ops o st K = some r := by
  unfold evOpL
  rw [hc]; exact e
theorem bif_some {b : Bool} {x : Option R} (h : (bif b then x else none) = some r) : b = true ∧ x = some r := by
  cases b
  · cases h
  · exact ⟨rfl, h⟩
theorem first_mono (hΓc : ∀ f x, Γ f = some x → x.calm = true → CalmSum x.g) (hΓf : ∀ f x, Γ f = some x → x.fresh = true → FreshSum x.g) {x : Oper} (hx : First Γ st x) (hx16 : x.dst.getD 0 < 16000) (hl : st.Low) {K K' : St → Option R}
    (hK : ∀ s1, s1.Low → K s1 = some r → K' s1 = some r) (e : evOper ty Γ ops x st K = some r) : evOper ty Γ ops x st K' = some r := by
  obtain ⟨nb, na, s, k0, k1, k2⟩ := first_spec hΓc hΓf hx hx16 hl e
  exact k2 (St.Ext.refl st) rfl k0 (fun _ _ => rfl) hl (hK _ (Low.put (Nat.lt_of_lt_of_le hx16 (by decide)) (Low.add hl)) k1)
theorem swap_gen (hΓc : ∀ f x, Γ f = some x → x.calm = true → CalmSum x.g) (hΓf : ∀ f x, Γ f = some x → x.fresh = true → FreshSum x.g) {x y : Oper}
    (hxF : ∀ s1 : St, chk ops s1 x = true → First Γ s1 x) (hyK : ∀ s1 : St, chk ops s1 y = true → YK Γ ops s1 y)
    (a1 : ∀ t ∈ looks ops y ++ y.dst.toList, ∀ d, x.dst = some d → t ≠ d) (a2 : ∀ t ∈ looks ops x, ∀ d, y.dst = some d → t ≠ d) (hx16 : x.dst.getD 0 < 16000) (hy16 : y.dst.getD 0 < 16000) (ix : inD ops x = true) (iy : inD ops y = true) (hl : st.Low)
    (core : chk ops st x = true → chk ops st y = true → ∀ W : St → Option R, evOper ty Γ ops x st (fun s1 => bif post ops s1 x then evOper ty Γ ops y s1 W else none) = some r → evOper ty Γ ops y st (fun s1 => evOper ty Γ ops x s1 W) = some r) {K : St → Option R}
    (e : evOpL ty Γ ops x st (fun st => evOpL ty Γ ops y st K) = some r) : evOpL ty Γ ops y st (fun st => evOpL ty Γ ops x st K) = some r := by
  obtain ⟨cx, e1⟩ := evOpL_spec e
  have hx65 : x.dst.getD 0 < 65000 := Nat.lt_of_lt_of_le hx16 (by decide)
  have hy65 : y.dst.getD 0 < 65000 := Nat.lt_of_lt_of_le hy16 (by decide)
  have hyx : ∀ d, x.dst = some d → ∀ d', y.dst = some d' → d ≠ d' := fun d hd d' hd' he => a1 d' (List.mem_append_right _ (by rw [hd']; simp)) d hd he.symm
  obtain ⟨nb, na, s, k0, k1, k2⟩ := first_spec hΓc hΓf (hxF st cx) hx16 hl e1
  obtain ⟨px, k3⟩ := bif_some k1
  obtain ⟨cy1, k4⟩ := evOpL_spec k3
  have hl1 : ((st.add nb na).put x.dst s).Low := Low.put hx65 (Low.add hl)
  have cy : chk ops st y = true := by
    rw [← cy1]
    exact (chk_same (fun t ht => put_get (st := st.add nb na) fun d hd => a1 t (List.mem_append_left _ ht) d hd) (fun t ht => put_get (st := st.add nb na) (inD_set ix ht))).symm
  have k5 : evOper ty Γ ops y ((st.add nb na).put x.dst s) (fun s2 => bif post ops s2 x && post ops s2 y then K s2 else none) = some r :=
    y_mono hΓc hΓf (hyK _ cy1) hy16 hl1 (fun s2 hkn hw => by
      obtain ⟨py, hw⟩ := bif_some hw
      rw [post_keep (fun d hd u h1 h2 => hkn.env d u (fun d' hd' => hyx d hd d' hd') h1 h2) px, py]
      exact hw) k4
  have k6 : evOper ty Γ ops x st (fun s1 => bif post ops s1 x then evOper ty Γ ops y s1 (fun s2 => bif post ops s2 x && post ops s2 y then K s2 else none) else none) = some r :=
    k2 (St.Ext.refl st) rfl k0 (fun _ _ => rfl) hl (by simp only [px, cond_true]; exact k5)
  have k7 := core cx cy _ k6
  refine evOpL_of cy (y_mono hΓc hΓf (hyK _ cy) hy16 hl (fun s1 hkn hw => ?_) k7)
  have cx1 : chk ops s1 x = true := chk_keep (first_noStore (hxF st cx)) (fun t ht u h1 h2 => hkn.env t u (fun d hd => a2 t ht d hd) h1 h2) (fun t ht u h1 h2 => hkn.env t u (inD_set iy ht) h1 h2) cx
  have hls : s1.Low := hkn.low hl
  obtain ⟨nb', na', s', q0, q1, q2⟩ := first_spec hΓc hΓf (hxF s1 cx1) hx16 hls hw
  obtain ⟨pp, q3⟩ := bif_some q1
  simp only [Bool.and_eq_true] at pp
  have py : post ops s1 y = true := by
    rw [← pp.2]
    exact (post_get fun d hd => put_get (st := s1.add nb' na') fun d' hd' => Ne.symm (hyx d' hd' d hd)).symm
  rw [py]
  simp only [cond_true]
  refine evOpL_of cx1 (q2 (St.Ext.refl s1) rfl q0 (fun _ _ => rfl) hls ?_)
  simp only [pp.1, cond_true]
  exact q3
theorem calm_const {x : Oper} (h : constOp x = true) : calmOp Γ x = true := by
  unfold constOp at h
  unfold calmOp
  split at h
  · rename_i h1 _ _; rw [h1]
  · cases h
theorem s3_map {y : Oper} (h : s3Op y = true) : mapOp y = true := by
  obtain ⟨dst, op, type, pos, after, guard⟩ := y
  unfold s3Op at h
  simp only at h
  split at h
  · rfl
  · cases h
theorem build_lone {y : Oper} (h : buildOp y = true) : loneTmp y = none := by
  obtain ⟨dst, op, type, pos, after, guard⟩ := y
  unfold buildOp at h
  simp only at h
  split at h
  · rfl
  · rfl
  · cases h
theorem swapL_ok (hΓc : ∀ f x, Γ f = some x → x.calm = true → CalmSum x.g) (hΓf : ∀ f x, Γ f = some x → x.fresh = true → FreshSum x.g) {x y : Oper} (hs : swapOkL Γ ops x y = true) (hxm : x ∈ ops.toList) (hym : y ∈ ops.toList) (hl : st.Low) {K : St → Option R}
    (e : evOpL ty Γ ops x st (fun st => evOpL ty Γ ops y st K) = some r) : evOpL ty Γ ops y st (fun st => evOpL ty Γ ops x st K) = some r := by
  unfold swapOkL at hs
  simp only [Bool.and_eq_true] at hs
  obtain ⟨hk, ⟨ix, iy⟩, h3, h4, h5, h6⟩ := hs
  have hx16 : x.dst.getD 0 < 16000 := Nat.le_of_ble_eq_true h5
  have hy16 : y.dst.getD 0 < 16000 := Nat.le_of_ble_eq_true h6
  have a1 := apartD_spec h3
  have a2 := apartD_spec h4
  have drop : ∀ {W : St → Option R}, First Γ st x → evOper ty Γ ops x st (fun s1 => bif post ops s1 x then evOper ty Γ ops y s1 W else none) = some r → evOper ty Γ ops x st (fun s1 => evOper ty Γ ops y s1 W) = some r :=
    fun hf e => first_mono hΓc hΓf hf hx16 hl (fun s1 _ h => (bif_some h).2) e
  unfold kindsOk at hk
  rcases Bool.or_eq_true _ _ ▸ hk with hk | hk
  · obtain ⟨hsw, hcb⟩ := (Bool.and_eq_true _ _).mp hk
    have hsw' := hsw
    unfold swapOk at hsw'
    simp only [Bool.and_eq_true, Bool.or_eq_true] at hsw'
    obtain ⟨h12, _⟩ := hsw'
    rcases h12 with (⟨h1, h2⟩ | ⟨h1, h2⟩) | ⟨h1, h2⟩
    · exact swap_gen hΓc hΓf (fun _ _ => .inl h1) (fun _ _ => .inl (h2.elim .inl fun h => .inr (.inl h))) a1 a2 hx16 hy16 ix iy hl (fun _ _ W e => swap_ok hΓc hΓf hsw hl (drop (.inl h1) e)) e
    · have hfy : freshOp Γ y = true := by
        unfold allocOp at h2
        unfold freshOp
        split at h2 <;> simp_all
      exact swap_gen hΓc hΓf (fun _ _ => .inr (.inl h1)) (fun _ _ => .inl (.inr (.inl hfy))) a1 a2 hx16 hy16 ix iy hl (fun _ _ W e => swap_ok hΓc hΓf hsw hl (drop (.inr (.inl h1)) e)) e
    · rw [h1, h2] at hcb
      simp only [Bool.and_self, Bool.true_and, Bool.not_eq_true', Bool.or_eq_false_iff] at hcb
      have nB : bsOp x = false := by
        unfold constOp at h1
        unfold bsOp
        split at h1
        · rename_i hh _ _; rw [hh]
        · cases h1
      have nst := first_noStore (Γ := Γ) (st := st) (.inl (calm_const h1))
      have cx : ∀ s1 : St, chk ops s1 x = true := fun s1 => by
        unfold chk needB needY needD
        rw [hcb.1, hcb.2, nB, nst.1, nst.2]; rfl
      have px : ∀ s1 : St, post ops s1 x = true := fun s1 => by unfold post; rw [hcb.1]; rfl
      have py : ∀ s1 : St, post ops s1 y = true := fun s1 => by unfold post needM; rw [build_lone h2]; rfl
      obtain ⟨_, e1⟩ := evOpL_spec e
      have hf : First Γ st x := .inl (calm_const h1)
      have cy : chk ops st y = true := by
        obtain ⟨nb, na, s, k0, k1, k2⟩ := first_spec hΓc hΓf hf hx16 hl e1
        obtain ⟨cy1, _⟩ := evOpL_spec (bif_some k1).2
        rw [← cy1]
        exact (chk_same (fun t ht => put_get (st := st.add nb na) fun d hd => a1 t (List.mem_append_left _ ht) d hd) (fun t ht => put_get (st := st.add nb na) (inD_set ix ht))).symm
      have e2 : evOper ty Γ ops x st (fun s1 => evOper ty Γ ops y s1 K) = some r := first_mono hΓc hΓf hf hx16 hl (fun s1 _ h => by
        have := (evOpL_spec (bif_some h).2).2
        simpa only [py, cond_true] using this) e1
      have e3 := const_build h1 h2 a1 a2 e2
      refine evOpL_of cy ?_
      have : (fun st1 => bif post ops st1 y then evOpL ty Γ ops x st1 K else none) = fun st1 => evOper ty Γ ops x st1 K := by
        funext s1
        unfold evOpL
        simp only [py, px, cx, cond_true]
      rw [this]; exact e3
  · rcases Bool.or_eq_true _ _ ▸ hk with hk | hk
    · rcases Bool.or_eq_true _ _ ▸ hk with hk | hk
      · obtain ⟨h1, h2⟩ := (Bool.and_eq_true _ _).mp hk
        have hlo : (loneTmp x).isSome = true := by have := h1; unfold needM at this; exact ((Bool.and_eq_true _ _).mp this).1
        refine swap_gen hΓc hΓf (fun _ _ => .inl (lone_calm hlo)) (fun _ _ => .inr (.inl h2)) a1 a2 hx16 hy16 ix iy hl (fun cx cy W e => ?_) e
        unfold chk at cx
        rw [h1] at cx
        simp only [Bool.and_eq_true, Bool.not_true, Bool.false_or] at cx
        exact swap_read_map h1 cx.1.1 h2 a1 a2 hx16 e
      · obtain ⟨h1, h2⟩ := (Bool.and_eq_true _ _).mp hk
        have hbs : bsOp y = true := by have := h2; unfold needB at this; exact ((Bool.and_eq_true _ _).mp this).1
        have hbk : ∀ s1 : St, chk ops s1 y = true → bsOk s1 y = true := fun s1 h => by
          unfold chk at h
          rw [h2] at h
          simp only [Bool.and_eq_true, Bool.not_true, Bool.false_or] at h
          exact h.2.1
        refine swap_gen hΓc hΓf (fun _ _ => .inl h1) (fun s1 h => .inl (.inr (.inr ⟨hbs, hbk s1 h⟩))) a1 a2 hx16 hy16 ix iy hl (fun cx cy W e => ?_) e
        refine swap_calm_first hΓc hΓf h1 (fun s1 h => .inr (.inr ⟨hbs, ?_⟩)) a1 a2 hx16 hy16 hl (drop (.inl h1) e)
        rw [bsOk_same (ev_same fun t ht => h t (List.mem_append_left _ ht))]
        exact hbk st cy
    · rcases Bool.or_eq_true _ _ ▸ hk with hk | hk
      · obtain ⟨hk, hun⟩ := (Bool.and_eq_true _ _).mp hk
        obtain ⟨h1, h2⟩ := (Bool.and_eq_true _ _).mp hk
        have hbs : bsOp x = true := by have := h1; unfold needB at this; exact ((Bool.and_eq_true _ _).mp this).1
        have hs3 : s3Op y = true := by have := h2; unfold needD at this; exact ((Bool.and_eq_true _ _).mp this).1
        have hbk : ∀ s1 : St, chk ops s1 x = true → bsOk s1 x = true := fun s1 h => by
          unfold chk at h
          rw [h1] at h
          simp only [Bool.and_eq_true, Bool.not_true, Bool.false_or] at h
          exact h.2.1
        refine swap_gen hΓc hΓf (fun s1 h => .inr (.inr ⟨hbs, hbk s1 h⟩)) (fun s1 h => .inr (.inl (s3_map hs3))) a1 a2 hx16 hy16 ix iy hl (fun cx cy W e => ?_) e
        have h3k : s3Ok ops st y = true := by
          unfold chk at cy
          rw [h2] at cy
          simp only [Bool.and_eq_true, Bool.not_true, Bool.false_or] at cy
          exact cy.2.2.2
        exact swap_bs_s3 hbs (hbk st cx) hs3 h3k hxm hun a1 a2 hx16 (drop (.inr (.inr ⟨hbs, hbk st cx⟩)) e)
      · obtain ⟨hk, hun⟩ := (Bool.and_eq_true _ _).mp hk
        obtain ⟨h1, h2⟩ := (Bool.and_eq_true _ _).mp hk
        have hro : readOp x = true := by have := h1; unfold needS at this; exact ((Bool.and_eq_true _ _).mp this).1
        have hst : storeOp y = true := by have := h2; unfold needY at this; exact ((Bool.and_eq_true _ _).mp this).1
        have hyk : ∀ s1 : St, chk ops s1 y = true → stY ops s1 y = true := fun s1 h => by
          unfold chk at h
          rw [h2] at h
          simp only [Bool.and_eq_true, Bool.not_true, Bool.false_or] at h
          exact h.2.2.1
        refine swap_gen hΓc hΓf (fun s1 h => .inl (read_calm hro)) (fun s1 h => .inr (.inr ⟨hst, hyk s1 h⟩)) a1 a2 hx16 hy16 ix iy hl (fun cx cy W e => ?_) e
        have hxk : stX ops st x = true := by
          unfold chk at cx
          rw [h1] at cx
          simp only [Bool.and_eq_true, Bool.not_true, Bool.false_or] at cx
          exact cx.1.2
        exact swap_read_store h1 hxk hst (hyk st cy) hym hun a1 a2 (drop (.inl (read_calm hro)) e)
theorem swapOkL_lt {x y : Oper} (hs : swapOkL Γ ops x y = true) : x.dst.getD 0 < 16000 := by
  unfold swapOkL at hs
  simp only [Bool.and_eq_true] at hs
  exact Nat.le_of_ble_eq_true hs.2.2.2.2.1
theorem swapOkL_first {x y : Oper} (hs : swapOkL Γ ops x y = true) {st : St} (hc : chk ops st x = true) : First Γ st x := by
  unfold swapOkL at hs
  obtain ⟨hk, _⟩ := (Bool.and_eq_true _ _).mp hs
  unfold kindsOk at hk
  rcases Bool.or_eq_true _ _ ▸ hk with hk | hk
  · exact (swapOk_first ((Bool.and_eq_true _ _).mp hk).1).elim .inl fun h => .inr (.inl h)
  · rcases Bool.or_eq_true _ _ ▸ hk with hk | hk
    · rcases Bool.or_eq_true _ _ ▸ hk with hk | hk
      · have h1 := ((Bool.and_eq_true _ _).mp hk).1
        unfold needM at h1
        exact .inl (lone_calm ((Bool.and_eq_true _ _).mp h1).1)
      · exact .inl ((Bool.and_eq_true _ _).mp hk).1
    · rcases Bool.or_eq_true _ _ ▸ hk with hk | hk
      · have h1 := ((Bool.and_eq_true _ _).mp ((Bool.and_eq_true _ _).mp hk).1).1
        refine .inr (.inr ⟨?_, ?_⟩)
        · unfold needB at h1
          exact ((Bool.and_eq_true _ _).mp h1).1
        · unfold chk at hc
          rw [h1] at hc
          simp only [Bool.and_eq_true, Bool.not_true, Bool.false_or] at hc
          exact hc.2.1
      · have h1 := ((Bool.and_eq_true _ _).mp ((Bool.and_eq_true _ _).mp hk).1).1
        unfold needS at h1
        exact .inl (read_calm ((Bool.and_eq_true _ _).mp h1).1)
end
end Go.Ev

namespace Go.Ev
section
variable {P : Program} {ty : Ty} {C : Cx} {G : Gh} {st : St} {a : Act} {w : World} {R : Type} {r : R} {Γ : FuncId → Option SumX} {ops : Array Oper} {Q : Exit → Act → World → Prop}
theorem Rel.low (h : Rel C G st a w) : st.Low := fun t s ht => by have := (h.env t s ht).1; have := h.n; omega
theorem bindsOn_of {i j : Nat} {o : Oper} (hj : ops[j]? = some o) {e : Edge} (he : e ∈ o.after) (hb : Region.binds .any e = true) (hon : e.on = i) : bindsOn ops i j = true := by
  simp only [bindsOn, hj, List.any_eq_true, Bool.and_eq_true, beq_iff_eq]
  exact ⟨e, by simpa using he, hb, hon⟩
theorem of_bindsOn {i j : Nat} (h : bindsOn ops i j = true) : ∃ o, ops[j]? = some o ∧ ∃ e ∈ o.after, Region.binds .any e = true ∧ e.on = i := by
  unfold bindsOn at h
  split at h
  · rename_i o ho
    simp only [List.any_eq_true, Bool.and_eq_true, beq_iff_eq] at h
    obtain ⟨e, he, h1, h2⟩ := h
    exact ⟨o, ho, e, by simpa using he, h1, h2⟩
  · cases h
def Closed (ops : Array Oper) (listed : Array Bool) : Prop := ∀ i j, bindsOn ops i j = true → listed.getD j false = true → listed.getD i false = true
theorem ordd_closed {listed : Array Bool} (hc : Closed ops listed) : ∀ {f i j : Nat}, ordd ops f i j = true → (∀ k, bindsOn ops k j = true → listed.getD k false = true) → listed.getD i false = true
  | 0, i, j, h, _ => by simp [ordd] at h
  | f + 1, i, j, h, hj => by
    simp only [ordd, Bool.or_eq_true, List.any_eq_true, Bool.and_eq_true] at h
    rcases h with h | ⟨k, _, h1, h2⟩
    · exact hj i h
    · exact hc i k h1 (ordd_closed hc h2 hj)
structure PairOk (Γ : FuncId → Option SumX) (ops : Array Oper) (i j : Nat) : Prop where
  ne : i ≠ j
  no : bindsOn ops j i = false
  sw : ordd ops 14 i j = true ∨ ∃ oi oj, ops[i]? = some oi ∧ ops[j]? = some oj ∧ swapOk Γ ops oi oj = true
theorem pairOk_spec {i j : Nat} (h : pairOk Γ ops i j = true) : PairOk Γ ops i j := by
  unfold pairOk at h
  simp only [Bool.and_eq_true, Bool.not_eq_true', Bool.or_eq_true, beq_eq_false_iff_ne] at h
  refine ⟨h.1.1, h.1.2, h.2.symm.imp id fun h => ?_⟩
  split at h
  · rename_i oi oj h1 h2; exact ⟨oi, oj, h1, h2, h⟩
  · cases h
theorem pairsOk_spec : ∀ {l : List Nat}, pairsOk Γ ops l = true → l.Pairwise (PairOk Γ ops)
  | [], _ => .nil
  | i :: l, h => by
    simp only [pairsOk, Bool.and_eq_true] at h
    exact .cons (fun j hj => pairOk_spec (List.all_eq_true.1 h.1 j hj)) (pairsOk_spec h.2)
theorem before_spec {j i : Nat} {o : Oper} (ho : ops[j]? = some o) {e : Edge} (he : e ∈ o.after) (hb : Region.binds .any e = true) (hon : e.on = i) : i ∈ beforeOf ops j := by
  unfold beforeOf
  rw [ho]
  simp only [List.mem_map, List.mem_filter]
  exact ⟨e, ⟨by simpa using he, hb⟩, hon⟩
theorem drawOk_spec {ord : List Nat} (h : drawOk Γ ops ord = true) : ord.Pairwise (PairOk Γ ops) ∧ ord.length = ops.size ∧ (∀ i, i ∈ ord ↔ i < ops.size) ∧ ∀ j o e, ops[j]? = some o → e ∈ o.after → Region.binds .any e = true → e.on < ops.size ∧ e.on ≠ j := by
  unfold drawOk at h
  simp only [Bool.and_eq_true, beq_iff_eq] at h
  obtain ⟨⟨⟨h1, h0⟩, h2⟩, h3, h4⟩ := h
  refine ⟨pairsOk_spec h4, h1, fun i => ⟨fun hi => Nat.le_of_ble_eq_true (List.all_eq_true.1 h0 i hi), fun hi => ?_⟩, fun j o e ho he hb => ?_⟩
  · have := List.all_eq_true.1 h2 i (by simpa using hi)
    exact List.contains_iff_mem.1 this
  · have hjs := (Array.getElem?_eq_some_iff.1 ho).1
    have h5 := List.all_eq_true.1 h3 (o, j) (by
      rw [List.mem_zipIdx_iff_getElem?]
      simpa using ho)
    have h6 := List.all_eq_true.1 h5 e.on (before_spec ho he hb rfl)
    simp only [Bool.and_eq_true, Bool.not_eq_true', beq_eq_false_iff_ne] at h6
    exact ⟨Nat.le_of_ble_eq_true h6.1, h6.2⟩
theorem bubble (hΓc : ∀ f x, Γ f = some x → x.calm = true → CalmSum x.g) (hΓf : ∀ f x, Γ f = some x → x.fresh = true → FreshSum x.g) {oi : Oper} : ∀ {pre : List Oper} {post : List Oper} {st : St} {K : St → Option R}, (∀ x ∈ pre, swapOk Γ ops x oi = true) → (∀ x ∈ pre, x.dst.getD 0 < 65000) → st.Low →
    evOps ty Γ ops (pre ++ oi :: post) st K = some r → evOps ty Γ ops (oi :: (pre ++ post)) st K = some r
  | [], post, st, K, _, _, _, e => e
  | x :: pre, post, st, K, hs, hd, hl, e => by
    have hsx := hs x (by simp)
    have e1 : evOper ty Γ ops x st (fun st => evOper ty Γ ops oi st fun st => evOps ty Γ ops (pre ++ post) st K) = some r := by
      have e0 : evOper ty Γ ops x st (fun st => evOps ty Γ ops (pre ++ oi :: post) st K) = some r := e
      rcases swapOk_first hsx with hcx | hcx
      · obtain ⟨s, h1, h2⟩ := calm_oper hΓc hcx hl e0
        refine h2 (St.Ext.refl st) rfl (fun _ _ => rfl) hl ?_
        exact bubble hΓc hΓf (fun y hy => hs y (by simp [hy])) (fun y hy => hd y (by simp [hy])) (Low.put (hd x (by simp)) hl) h1
      · have hx16 : x.dst.getD 0 < 16000 := by
          have := hsx
          unfold swapOk at this
          simp only [Bool.and_eq_true] at this
          exact Nat.le_of_ble_eq_true this.2.2.2.1
        obtain ⟨nb, na, s, h0, h1, h2⟩ := fresh_oper hΓf hcx hx16 hl e0
        refine h2 (.inr (St.Ext.refl st)) rfl h0 (fun _ _ => rfl) hl ?_
        exact bubble hΓc hΓf (fun y hy => hs y (by simp [hy])) (fun y hy => hd y (by simp [hy])) (Low.put (hd x (by simp)) (Low.add hl)) h1
    exact swap_ok hΓc hΓf hsx hl e1
theorem ok_any (hty : TyOk P ty) (hΓ : GOk P Γ) (hdr : ∀ j o e, ops[j]? = some o → e ∈ o.after → Region.binds .any e = true → e.on < ops.size ∧ e.on ≠ j) {K : St → Option R} : ∀ (fuel : Nat) {listed : Array Bool} {rest : List Nat} {G : Gh} {st : St} {a : Act} {w : World}, listed.size = ops.size → rest.length ≤ fuel →
    (∀ i, i ∈ rest ↔ i < ops.size ∧ listed.getD i true = false) → rest.Pairwise (PairOk Γ ops) → Closed ops listed → Rel C G st a w → evOps ty Γ ops (atL ops rest) st K = some r →
    (∀ G' st' a' w', Rel C G' st' a' w' → st'.n = st.n → K st' = some r → Q .normal a' w') → wpAny P .any ops Q fuel listed a w := by
  intro fuel
  have hΓc : ∀ f x, Γ f = some x → x.calm = true → CalmSum x.g := fun f x h => (hΓ f x h).2.1
  have hΓf : ∀ f x, Γ f = some x → x.fresh = true → FreshSum x.g := fun f x h => (hΓ f x h).2.2
  have hnil : ∀ {listed : Array Bool} {rest : List Nat}, listed.size = ops.size → (∀ i, i ∈ rest ↔ i < ops.size ∧ listed.getD i true = false) → rest.Pairwise (PairOk Γ ops) → Region.ready .any ops listed = [] → rest = [] := by
    intro listed rest hsz hmem hsrt hr
    cases rest with
    | nil => rfl
    | cons i l =>
      exfalso
      obtain ⟨hi, hli⟩ := (hmem i).1 (by simp)
      have hoi : ops[i]? = some ops[i] := Array.getElem?_eq_getElem hi
      have : i ∈ Region.ready .any ops listed := mem_ready.2 ⟨hli, ops[i], hoi, fun e he hb => by
        obtain ⟨h1, h1'⟩ := hdr i _ e hoi he hb
        by_cases hq : listed.getD e.on true = false
        · have h2 : e.on ∈ i :: l := (hmem e.on).2 ⟨h1, hq⟩
          rcases List.mem_cons.1 h2 with h2 | h2
          · exact absurd h2 h1'
          · have := (List.rel_of_pairwise_cons hsrt h2).no
            rw [bindsOn_of hoi he hb rfl] at this; cases this
        · have hlt : e.on < listed.size := by omega
          simp only [Array.getD_eq_getD_getElem?, Array.getElem?_eq_getElem hlt, Option.getD_some] at hq ⊢
          simpa using hq⟩
      rw [hr] at this; cases this
  induction fuel with
  | zero =>
    intro listed rest G st a w hsz hlen hmem hsrt hcl h e hK
    have : rest = [] := List.eq_nil_of_length_eq_zero (by omega)
    subst this
    refine ⟨?_, hK G st a w h rfl e⟩
    cases hr : Region.ready .any ops listed with
    | nil => rfl
    | cons i l =>
      have : i ∈ Region.ready .any ops listed := by rw [hr]; simp
      obtain ⟨h1, o, h2, _⟩ := mem_ready.1 this
      have := (hmem i).2 ⟨(Array.getElem?_eq_some_iff.1 h2).1, h1⟩
      cases this
  | succ fuel ih =>
    intro listed rest G st a w hsz hlen hmem hsrt hcl h e hK
    refine ⟨fun hr => ?_, fun i hi => ?_⟩
    · have := hnil hsz hmem hsrt hr
      subst this
      exact hK G st a w h rfl e
    · obtain ⟨hli, oi, hoi, hall⟩ := mem_ready.1 hi
      have hin : i ∈ rest := (hmem i).2 ⟨(Array.getElem?_eq_some_iff.1 hoi).1, hli⟩
      have hisz := (Array.getElem?_eq_some_iff.1 hoi).1
      obtain ⟨pre, post, rfl⟩ := List.append_of_mem hin
      have hpw := List.pairwise_append.1 hsrt
      have hpre : ∀ j ∈ pre, PairOk Γ ops j i := fun j hj => hpw.2.2 j hj i (by simp)
      have hat : atL ops (pre ++ i :: post) = atL ops pre ++ oi :: atL ops post := by
        simp [atL, List.filterMap_append, hoi]
      have hat2 : atL ops (pre ++ post) = atL ops pre ++ atL ops post := by simp [atL]
      rw [hat] at e
      have hpres : ∀ x ∈ atL ops pre, swapOk Γ ops x oi = true := fun x hx => by
        obtain ⟨j, hj, hxj⟩ := List.mem_filterMap.1 hx
        rcases (hpre j hj).sw with hh | ⟨oj, oi', hoj, hoi', hh⟩
        rotate_left
        · rw [hoi] at hoi'; cases hoi'
          rw [hoj] at hxj; cases hxj
          exact hh
        · exfalso
          have := ordd_closed hcl hh (fun k hk => by
            obtain ⟨o', ho', e', he', hb', hon'⟩ := of_bindsOn hk
            rw [hoi] at ho'; cases ho'
            rw [← hon']; exact hall e' he' hb')
          have hj2 := ((hmem j).1 (by simp [hj]))
          have hlt : j < listed.size := by omega
          simp only [Array.getD_eq_getD_getElem?, Array.getElem?_eq_getElem hlt, Option.getD_some] at this hj2
          rw [this] at hj2; cases hj2.2
      have hd65 : ∀ x ∈ atL ops pre, x.dst.getD 0 < 65000 := fun x hx => by
        exact swapOk_lt (hpres x hx)
      have e2 := bubble hΓc hΓf hpres hd65 h.low e
      rw [← hat2] at e2
      have e3 : evOper ty Γ ops oi st (fun st => evOps ty Γ ops (atL ops (pre ++ post)) st K) = some r := e2
      have := ok_oper (Q := Q) hty hΓ (next := wpAny P .any ops Q fuel (listed.setIfInBounds i true)) h (fun G' st' a' w' h1 h2 h3 => by
        refine ih (listed := listed.setIfInBounds i true) (rest := pre ++ post) (by simpa using hsz) (by simp at hlen ⊢; omega) (fun j => ?_) ?_ (fun p q hb hq => ?_) h1 h3 (fun G2 st2 a2 w2 h4 h5 h6 => hK G2 st2 a2 w2 h4 (h5.trans h2) h6)
        · by_cases hji : j = i
          · subst hji
            have : (listed.setIfInBounds j true).getD j true = true := by
              have : j < listed.size := by omega
              simp [Array.getD_eq_getD_getElem?, this]
            rw [this]
            constructor
            · intro hm
              exfalso
              rcases List.mem_append.1 hm with hm | hm
              · exact (hpre j hm).ne rfl
              · exact (List.rel_of_pairwise_cons hpw.2.1 hm).ne rfl
            · rintro ⟨_, hh⟩; cases hh
          · have : (listed.setIfInBounds i true).getD j true = listed.getD j true := getD_set_ne true (Ne.symm hji)
            rw [this, ← hmem j]
            simp [hji]
        · rw [List.pairwise_append]
          exact ⟨hpw.1, (List.pairwise_cons.1 hpw.2.1).2, fun x hx y hy => hpw.2.2 x hx y (by simp [hy])⟩
        · by_cases hpi : p = i
          · subst hpi
            have : p < listed.size := by omega
            simp [Array.getD_eq_getD_getElem?, this]
          · rw [getD_set_ne false (Ne.symm hpi)]
            by_cases hqi : q = i
            · subst hqi
              obtain ⟨o', ho', e', he', hb', hon'⟩ := of_bindsOn hb
              rw [hoi] at ho'; cases ho'
              rw [← hon']; exact hall e' he' hb'
            · rw [getD_set_ne false (Ne.symm hqi)] at hq
              exact hcl p q hb hq) e3
      unfold wpOp
      rw [hoi]
      exact this
structure PairOkL (Γ : FuncId → Option SumX) (ops : Array Oper) (i j : Nat) : Prop where
  ne : i ≠ j
  no : bindsOn ops j i = false
  sw : ordd ops 14 i j = true ∨ ∃ oi oj, ops[i]? = some oi ∧ ops[j]? = some oj ∧ swapOkL Γ ops oi oj = true
theorem pairOkL_spec {i j : Nat} (h : pairOkL Γ ops i j = true) : PairOkL Γ ops i j := by
  unfold pairOkL at h
  simp only [Bool.and_eq_true, Bool.not_eq_true', Bool.or_eq_true, beq_eq_false_iff_ne] at h
  refine ⟨h.1.1, h.1.2, h.2.symm.imp id fun h => ?_⟩
  split at h
  · rename_i oi oj h1 h2; exact ⟨oi, oj, h1, h2, h⟩
  · cases h
theorem pairsOkL_spec : ∀ {l : List Nat}, pairsOkL Γ ops l = true → l.Pairwise (PairOkL Γ ops)
  | [], _ => .nil
  | i :: l, h => by
    simp only [pairsOkL, Bool.and_eq_true] at h
    exact .cons (fun j hj => pairOkL_spec (List.all_eq_true.1 h.1 j hj)) (pairsOkL_spec h.2)
theorem drawOkL_spec {ord : List Nat} (h : drawOkL Γ ops ord = true) : ord.Pairwise (PairOkL Γ ops) ∧ ord.length = ops.size ∧ (∀ i, i ∈ ord ↔ i < ops.size) ∧ ∀ j o e, ops[j]? = some o → e ∈ o.after → Region.binds .any e = true → e.on < ops.size ∧ e.on ≠ j := by
  unfold drawOkL at h
  simp only [Bool.and_eq_true, beq_iff_eq] at h
  obtain ⟨⟨⟨h1, h0⟩, h2⟩, h3, h4⟩ := h
  refine ⟨pairsOkL_spec h4, h1, fun i => ⟨fun hi => Nat.le_of_ble_eq_true (List.all_eq_true.1 h0 i hi), fun hi => ?_⟩, fun j o e ho he hb => ?_⟩
  · have := List.all_eq_true.1 h2 i (by simpa using hi)
    exact List.contains_iff_mem.1 this
  · have hjs := (Array.getElem?_eq_some_iff.1 ho).1
    have h5 := List.all_eq_true.1 h3 (o, j) (by
      rw [List.mem_zipIdx_iff_getElem?]
      simpa using ho)
    have h6 := List.all_eq_true.1 h5 e.on (before_spec ho he hb rfl)
    simp only [Bool.and_eq_true, Bool.not_eq_true', beq_eq_false_iff_ne] at h6
    exact ⟨Nat.le_of_ble_eq_true h6.1, h6.2⟩
theorem bubbleL (hΓc : ∀ f x, Γ f = some x → x.calm = true → CalmSum x.g) (hΓf : ∀ f x, Γ f = some x → x.fresh = true → FreshSum x.g) {oi : Oper} (hoi : oi ∈ ops.toList) : ∀ {pre : List Oper} {post : List Oper} {st : St} {K : St → Option R}, (∀ x ∈ pre, swapOkL Γ ops x oi = true) → (∀ x ∈ pre, x ∈ ops.toList) → st.Low →
    evOpsL ty Γ ops (pre ++ oi :: post) st K = some r → evOpsL ty Γ ops (oi :: (pre ++ post)) st K = some r
  | [], post, st, K, _, _, _, e => e
  | x :: pre, post, st, K, hs, hd, hl, e => by
    have hsx := hs x (by simp)
    have hx16 := swapOkL_lt hsx
    have e0 : evOpL ty Γ ops x st (fun st => evOpsL ty Γ ops (pre ++ oi :: post) st K) = some r := e
    obtain ⟨cx, e1⟩ := evOpL_spec e0
    have e2 : evOpL ty Γ ops x st (fun st => evOpL ty Γ ops oi st fun st => evOpsL ty Γ ops (pre ++ post) st K) = some r :=
      evOpL_of cx (first_mono hΓc hΓf (swapOkL_first hsx cx) hx16 hl (fun st1 hl1 h => by
        obtain ⟨hp, h⟩ := bif_some h
        rw [hp]
        exact bubbleL hΓc hΓf hoi (fun y hy => hs y (by simp [hy])) (fun y hy => hd y (by simp [hy])) hl1 h) e1)
    exact swapL_ok hΓc hΓf hsx (hd x (by simp)) hoi hl e2
theorem ok_anyL (hty : TyOk P ty) (hΓ : GOk P Γ) (hdr : ∀ j o e, ops[j]? = some o → e ∈ o.after → Region.binds .any e = true → e.on < ops.size ∧ e.on ≠ j) {K : St → Option R} : ∀ (fuel : Nat) {listed : Array Bool} {rest : List Nat} {G : Gh} {st : St} {a : Act} {w : World}, listed.size = ops.size → rest.length ≤ fuel →
    (∀ i, i ∈ rest ↔ i < ops.size ∧ listed.getD i true = false) → rest.Pairwise (PairOkL Γ ops) → Closed ops listed → Rel C G st a w → evOpsL ty Γ ops (atL ops rest) st K = some r →
    (∀ G' st' a' w', Rel C G' st' a' w' → st'.n = st.n → K st' = some r → Q .normal a' w') → wpAny P .any ops Q fuel listed a w := by
  intro fuel
  have hΓc : ∀ f x, Γ f = some x → x.calm = true → CalmSum x.g := fun f x h => (hΓ f x h).2.1
  have hΓf : ∀ f x, Γ f = some x → x.fresh = true → FreshSum x.g := fun f x h => (hΓ f x h).2.2
  have hnil : ∀ {listed : Array Bool} {rest : List Nat}, listed.size = ops.size → (∀ i, i ∈ rest ↔ i < ops.size ∧ listed.getD i true = false) → rest.Pairwise (PairOkL Γ ops) → Region.ready .any ops listed = [] → rest = [] := by
    intro listed rest hsz hmem hsrt hr
    cases rest with
    | nil => rfl
    | cons i l =>
      exfalso
      obtain ⟨hi, hli⟩ := (hmem i).1 (by simp)
      have hoi : ops[i]? = some ops[i] := Array.getElem?_eq_getElem hi
      have : i ∈ Region.ready .any ops listed := mem_ready.2 ⟨hli, ops[i], hoi, fun e he hb => by
        obtain ⟨h1, h1'⟩ := hdr i _ e hoi he hb
        by_cases hq : listed.getD e.on true = false
        · have h2 : e.on ∈ i :: l := (hmem e.on).2 ⟨h1, hq⟩
          rcases List.mem_cons.1 h2 with h2 | h2
          · exact absurd h2 h1'
          · have := (List.rel_of_pairwise_cons hsrt h2).no
            rw [bindsOn_of hoi he hb rfl] at this; cases this
        · have hlt : e.on < listed.size := by omega
          simp only [Array.getD_eq_getD_getElem?, Array.getElem?_eq_getElem hlt, Option.getD_some] at hq ⊢
          simpa using hq⟩
      rw [hr] at this; cases this
  induction fuel with
  | zero =>
    intro listed rest G st a w hsz hlen hmem hsrt hcl h e hK
    have : rest = [] := List.eq_nil_of_length_eq_zero (by omega)
    subst this
    refine ⟨?_, hK G st a w h rfl e⟩
    cases hr : Region.ready .any ops listed with
    | nil => rfl
    | cons i l =>
      have : i ∈ Region.ready .any ops listed := by rw [hr]; simp
      obtain ⟨h1, o, h2, _⟩ := mem_ready.1 this
      have := (hmem i).2 ⟨(Array.getElem?_eq_some_iff.1 h2).1, h1⟩
      cases this
  | succ fuel ih =>
    intro listed rest G st a w hsz hlen hmem hsrt hcl h e hK
    refine ⟨fun hr => ?_, fun i hi => ?_⟩
    · have := hnil hsz hmem hsrt hr
      subst this
      exact hK G st a w h rfl e
    · obtain ⟨hli, oi, hoi, hall⟩ := mem_ready.1 hi
      have hin : i ∈ rest := (hmem i).2 ⟨(Array.getElem?_eq_some_iff.1 hoi).1, hli⟩
      have hisz := (Array.getElem?_eq_some_iff.1 hoi).1
      obtain ⟨pre, post, rfl⟩ := List.append_of_mem hin
      have hpw := List.pairwise_append.1 hsrt
      have hpre : ∀ j ∈ pre, PairOkL Γ ops j i := fun j hj => hpw.2.2 j hj i (by simp)
      have hat : atL ops (pre ++ i :: post) = atL ops pre ++ oi :: atL ops post := by
        simp [atL, List.filterMap_append, hoi]
      have hat2 : atL ops (pre ++ post) = atL ops pre ++ atL ops post := by simp [atL]
      rw [hat] at e
      have hpres : ∀ x ∈ atL ops pre, swapOkL Γ ops x oi = true := fun x hx => by
        obtain ⟨j, hj, hxj⟩ := List.mem_filterMap.1 hx
        rcases (hpre j hj).sw with hh | ⟨oj, oi', hoj, hoi', hh⟩
        rotate_left
        · rw [hoi] at hoi'; cases hoi'
          rw [hoj] at hxj; cases hxj
          exact hh
        · exfalso
          have := ordd_closed hcl hh (fun k hk => by
            obtain ⟨o', ho', e', he', hb', hon'⟩ := of_bindsOn hk
            rw [hoi] at ho'; cases ho'
            rw [← hon']; exact hall e' he' hb')
          have hj2 := ((hmem j).1 (by simp [hj]))
          have hlt : j < listed.size := by omega
          simp only [Array.getD_eq_getD_getElem?, Array.getElem?_eq_getElem hlt, Option.getD_some] at this hj2
          rw [this] at hj2; cases hj2.2
      have hpm : ∀ x ∈ atL ops pre, x ∈ ops.toList := fun x hx => by
        obtain ⟨j, hj, hxj⟩ := List.mem_filterMap.1 hx
        exact List.mem_of_getElem? (i := j) (by simpa using hxj)
      have him : oi ∈ ops.toList := List.mem_of_getElem? (i := i) (by simpa using hoi)
      have e2 := bubbleL hΓc hΓf him hpres hpm h.low e
      rw [← hat2] at e2
      have e3 : evOper ty Γ ops oi st (fun st1 => bif Go.Ev.post ops st1 oi then evOpsL ty Γ ops (atL ops (pre ++ post)) st1 K else none) = some r := (evOpL_spec e2).2
      have := ok_oper (Q := Q) hty hΓ (next := wpAny P .any ops Q fuel (listed.setIfInBounds i true)) h (fun G' st' a' w' h1 h2 h3 => by
        refine ih (listed := listed.setIfInBounds i true) (rest := pre ++ post) (by simpa using hsz) (by simp at hlen ⊢; omega) (fun j => ?_) ?_ (fun p q hb hq => ?_) h1 (bif_some h3).2 (fun G2 st2 a2 w2 h4 h5 h6 => hK G2 st2 a2 w2 h4 (h5.trans h2) h6)
        · by_cases hji : j = i
          · subst hji
            have : (listed.setIfInBounds j true).getD j true = true := by
              have : j < listed.size := by omega
              simp [Array.getD_eq_getD_getElem?, this]
            rw [this]
            constructor
            · intro hm
              exfalso
              rcases List.mem_append.1 hm with hm | hm
              · exact (hpre j hm).ne rfl
              · exact (List.rel_of_pairwise_cons hpw.2.1 hm).ne rfl
            · rintro ⟨_, hh⟩; cases hh
          · have : (listed.setIfInBounds i true).getD j true = listed.getD j true := getD_set_ne true (Ne.symm hji)
            rw [this, ← hmem j]
            simp [hji]
        · rw [List.pairwise_append]
          exact ⟨hpw.1, (List.pairwise_cons.1 hpw.2.1).2, fun x hx y hy => hpw.2.2 x hx y (by simp [hy])⟩
        · by_cases hpi : p = i
          · subst hpi
            have : p < listed.size := by omega
            simp [Array.getD_eq_getD_getElem?, this]
          · rw [getD_set_ne false (Ne.symm hpi)]
            by_cases hqi : q = i
            · subst hqi
              obtain ⟨o', ho', e', he', hb', hon'⟩ := of_bindsOn hb
              rw [hoi] at ho'; cases ho'
              rw [← hon']; exact hall e' he' hb'
            · rw [getD_set_ne false (Ne.symm hqi)] at hq
              exact hcl p q hb hq) e3
      unfold wpOp
      rw [hoi]
      exact this
end
end Go.Ev

namespace Go.Ev
def RepV (w : World) (ok : Nat → Prop) (g : Bool) (k : K) (x : k.T) (v : Value) : Prop := ∃ cs, RepT w ok k x cs ∧ ((g = true ∧ v = .agg cs.toArray) ∨ (g = false ∧ cs = [v]))
section
variable {P : Program} {C : Cx} {G : Gh} {st : St} {a : Act} {w w' : World} {ok ok' : Nat → Prop}
theorem RepV.trans {g : Bool} {k : K} {x : k.T} {v : Value} (H : Keeps w w' ok ok') (h : RepV w ok g k x v) : RepV w' ok' g k x v := by
  obtain ⟨cs, h1, h2⟩ := h; exact ⟨cs, h1.trans H, h2⟩
theorem RepT.flat {k : K} {x : k.T} {cs : List Value} (hf : k.flat = true) (h : RepT w ok k x cs) : RepT w ok' k x cs := (h.own hf).rep (by simp)
theorem RepV.flat {g : Bool} {k : K} {x : k.T} {v : Value} (hf : k.flat = true) (h : RepV w ok g k x v) : RepV w ok' g k x v := by
  obtain ⟨cs, h1, h2⟩ := h; exact ⟨cs, h1.flat hf, h2⟩
theorem leaf1_rep {k : K} {x : k.T} {v : Value} (h : RepT w ok k x [v]) : RepLeaf w ok G (leaf1 (k.lv x)) v := by
  have h1 : RepLeafs w ok G (k.lv x) [v] := h.lv
  have hl := K.lv_length k x
  have h2 := h1.length
  cases hls : k.lv x with
  | nil => rw [hls] at h2; simp at h2
  | cons l ls =>
    cases ls with
    | nil => rw [hls] at h1; exact h1.1
    | cons l' ls => rw [hls] at h2; simp at h2
theorem mkS_rep {g : Bool} {k : K} {x : k.T} {v : Value} (h : RepV w ok g k x v) : RepSlot w ok G (mkS g k x) v := by
  obtain ⟨cs, h1, ⟨rfl, rfl⟩ | ⟨rfl, rfl⟩⟩ := h
  · exact ⟨cs, rfl, h1.lv⟩
  · exact leaf1_rep h1
theorem rep_agg {s : Slot} {v : Value} (hs : RepSlot w ok G s v) (hne : s.leafs ≠ []) {k : K} {x : k.T} (hr : RepT w ok' k x v.cells.toList) : RepV w ok' s.isAg k x v := by
  refine ⟨_, hr, ?_⟩
  cases s with
  | lf l =>
    right
    exact ⟨rfl, cells_one (RepLeaf.one (show RepLeaf w ok G l v from hs))⟩
  | ag ls =>
    left
    obtain ⟨vs, rfl, _⟩ := hs
    exact ⟨rfl, by simp [Value.cells]⟩
  | _ => simp [Slot.leafs] at hne
theorem fixLeaf_rep (h : Rel C G st a w) {f l : Leaf} {v : Value} (hl : RepLeaf w (G.ok C) G l v) (e : fixLeaf st f l = true) : RepLeaf w (G.ok C) G f v := by
  unfold fixLeaf at e
  split at e
  · rename_i i j
    have hij : i = j := by simpa using e
    subst hij; exact hl
  · rename_i i
    split at e
    · rename_i re rd hr
      obtain ⟨ai, hA, ha⟩ := h.mem.arrR i _ hr
      have hn : ai.n = 0 := by have := ha.n; simpa using this
      have hv : v = .slice none 0 0 := hl
      exact ⟨ai, none, 0, hA, by rw [hv, hn], by omega, fun h0 => by omega⟩
    · cases e
  · simp only [Bool.and_eq_true, beq_iff_eq] at e
    obtain ⟨rfl, rfl⟩ := e; exact hl
  · simp only [Bool.and_eq_true, beq_iff_eq] at e
    obtain ⟨rfl, rfl⟩ := e; exact hl
  · simp only [Bool.and_eq_true, beq_iff_eq] at e
    obtain ⟨⟨rfl, rfl⟩, rfl, rfl⟩ := e; exact hl
  · exact hl
  · exact hl
  · exact hl
  · exact hl
  · exact hl
  · obtain ⟨p, _, hp⟩ := hl; exact ⟨_, _, hp⟩
  · exact hl.one
  · cases e
theorem fixLeaf_no_sl {st : St} {f l : Leaf} (e : fixLeaf st f l = true) : ∀ k x b, f ≠ .sl k x b := by
  intro k x b hf
  subst hf
  simp [fixLeaf] at e
theorem rdSS_rep0 (h : Rel C G st a w) {s : SS} {sl : Slot} {v : Value} {x : s.T} (hs : RepSlot w (G.ok C) G sl v) (e : rdSS st s sl = some x) : RepSlot w (G.ok C) G (mkSS s x) v := by
  cases s with
  | val g k =>
    simp only [rdSS] at e
    cases hg : (sl.isAg == g)
    · rw [hg] at e; cases e
    · rw [hg] at e
      simp only [cond_true] at e
      have hg' : sl.isAg = g := by simpa using hg
      have hne : sl.leafs ≠ [] := fun hc => by rw [hc, K.rd_nil] at e; cases e
      have hr := rep_agg hs hne ((leafs_rep' hs hne).rd e)
      rw [hg'] at hr
      exact mkS_rep hr
  | rp k =>
    simp only [rdSS] at e
    split at e
    · rename_i ls
      obtain ⟨ad, h3, h4, cs, h5, h6⟩ := hs
      have hrt := (h5.take k.sz).rd e
      have hne : ls ≠ [] := fun hc => by rw [hc, List.take_nil, K.rd_nil] at e; cases e
      refine ⟨ad, h3, fun _ => h4 hne, cs.take k.sz, hrt.lv, fun j c hj => h6 j c ?_⟩
      rw [List.getElem?_take] at hj; split at hj
      · exact hj
      · cases hj
    · cases e
  | fix f =>
    simp only [rdSS] at e
    cases hfx : fixSlot st f sl
    · rw [hfx] at e; cases e
    · unfold fixSlot at hfx
      split at hfx
      · exact fixLeaf_rep h hs hfx
      · trivial
      · cases hfx
end
section
variable {P : Program} {ty : Ty} {C : Cx} {G : Gh} {st : St} {a : Act} {w : World} {R : Type} {r : R} {Γ : FuncId → Option SumX} {ops : Array Oper} {Q : Exit → Act → World → Prop}
theorem calm_ops (hΓc : ∀ f x, Γ f = some x → x.calm = true → CalmSum x.g) : ∀ {os : List Oper} {st : St} {K : St → Option R}, (∀ o ∈ os, calmOp Γ o = true ∧ o.dst.getD 0 < 65000) → st.Low → evOps ty Γ ops os st K = some r →
    ∃ st', K st' = some r ∧ st'.n = st.n ∧ st'.box = st.box ∧ st'.arr = st.arr ∧ (∀ t, (∀ o ∈ os, o.dst ≠ some t) → st'.env.get t = st.env.get t) ∧ ∀ {R' : Type} {K' : St → Option R'} {r' : R'}, K' st' = some r' → evOps ty Γ ops os st K' = some r'
  | [], st, K, _, _, e => ⟨st, e, rfl, rfl, rfl, fun _ _ => rfl, fun h => h⟩
  | o :: os, st, K, ho, hl, e => by
    have e0 : evOper ty Γ ops o st (fun st => evOps ty Γ ops os st K) = some r := e
    obtain ⟨hc, hd⟩ := ho o (by simp)
    obtain ⟨s, h1, h2⟩ := calm_oper hΓc hc hl e0
    obtain ⟨st', g1, g2, g3, g4, g5, g6⟩ := calm_ops hΓc (fun x hx => ho x (by simp [hx])) (Low.put hd hl) h1
    refine ⟨st', g1, g2.trans (put_n _ _), g3.trans (put_box _ _), g4.trans (put_arr _ _), fun t ht => ?_, fun h3 => ?_⟩
    · rw [g5 t fun x hx => ht x (by simp [hx])]
      exact put_get fun x hx e => ht o (by simp) (e ▸ hx)
    · exact h2 (St.Ext.refl st) rfl (fun _ _ => rfl) hl (K' := fun st => evOps ty Γ ops os st _) (g6 h3)
theorem dropEnv_get : ∀ {os : List Oper} {t : Tr Slot} {i : Nat} {s : Slot}, (∀ o ∈ os, o.dst.getD 0 < 65000) → (dropEnv os t).get i = some s → (∀ o ∈ os, o.dst ≠ some i) ∧ t.get i = some s
  | [], t, i, s, _, h => ⟨fun _ h => (by cases h), h⟩
  | o :: os, t, i, s, hd, h => by
    unfold dropEnv at h
    split at h
    · rename_i d hdst
      have hd0 : d < 65000 := by have := hd o (by simp); rw [hdst] at this; exact this
      by_cases e : i = d
      · subst e; rw [Tr.get_set_same _ _ hd0] at h; cases h
      · rw [Tr.get_set_ne _ _ e] at h
        obtain ⟨h1, h2⟩ := dropEnv_get (fun x hx => hd x (by simp [hx])) h
        refine ⟨fun x hx => ?_, h2⟩
        rcases List.mem_cons.1 hx with rfl | hx
        · rw [hdst]; exact fun hc => e (Option.some.inj hc).symm
        · exact h1 x hx
    · rename_i hdst
      obtain ⟨h1, h2⟩ := dropEnv_get (fun x hx => hd x (by simp [hx])) h
      refine ⟨fun x hx => ?_, h2⟩
      rcases List.mem_cons.1 hx with rfl | hx
      · rw [hdst]; exact fun hc => by cases hc
      · exact h1 x hx
theorem addEnv_get {st : St} : ∀ {l : List (Nat × SS)} {x : EArgs l} {t0 : Tr Slot} {t : Nat} {s' : Slot}, l.all (fun q => Nat.blt q.1 65000) = true → rdEnv st l = some x → (addEnv l x t0).get t = some s' →
    (∃ q ∈ l, ∃ sl y, q.1 = t ∧ st.env.get t = some sl ∧ rdSS st q.2 sl = some y ∧ s' = mkSS q.2 y) ∨ t0.get t = some s'
  | [], x, t0, t, s', _, _, e => .inr e
  | p :: l, x, t0, t, s', hl, hr, e => by
    simp only [List.all_cons, Bool.and_eq_true] at hl
    simp only [rdEnv] at hr
    split at hr
    · rename_i sl hsl
      split at hr
      · rename_i y hy
        split at hr
        · rename_i ys h2
          cases hr
          simp only [addEnv] at e
          by_cases et : t = p.1
          · subst et
            rw [Tr.get_set_same _ _ (Nat.le_of_ble_eq_true hl.1)] at e; cases e
            exact .inl ⟨p, by simp, sl, y, rfl, hsl, hy, rfl⟩
          · rw [Tr.get_set_ne _ _ et] at e
            rcases addEnv_get hl.2 h2 e with ⟨q, h3, h4⟩ | h3
            · exact .inl ⟨q, by simp [h3], h4⟩
            · exact .inr h3
        · cases hr
      · cases hr
    · cases hr
theorem atL_range : atL ops (List.range ops.size) = ops.toList := by
  have h1 : ∀ (l : List Oper) (k : Nat), (∀ j, l[j]? = ops[k + j]?) → atL ops (List.range' k l.length) = l := by
    intro l
    induction l with
    | nil => intro k _; rfl
    | cons o l ih =>
      intro k hk
      have h0 : ops[k]? = some o := by simpa using (hk 0).symm
      have := ih (k + 1) (fun j => by have := hk (j + 1); simpa [Nat.add_assoc, Nat.add_comm 1 j] using this)
      simp only [atL, List.length_cons, List.range'_succ, List.filterMap_cons, h0] at this ⊢
      rw [this]
  have := h1 ops.toList 0 (by simp)
  rwa [← List.range_eq_range', Array.length_toList] at this
theorem wpReg (hty : TyOk P ty) (hΓ : GOk P Γ) {id : Nat} {K : St → Option R} (h : Rel C G st a w)
    (hK : ∀ G' st' a' w', Rel C G' st' a' w' → st'.n = st.n → K st' = some r → Q .normal a' w') (e : evOps ty Γ ops ops.toList st K = some r) : (Code.region id ops false).wp P Q a w :=
  wp_region_list (ok_ops hty hΓ h hK e)
theorem wpRegD (hty : TyOk P ty) (hm : P.follows .mixedOrders = true) (hΓ : GOk P Γ) {id : Nat} {ord : List Nat} (hdr : drawOk Γ ops ord = true) {K : St → Option R} (h : Rel C G st a w)
    (hK : ∀ G' st' a' w', Rel C G' st' a' w' → st'.n = st.n → K st' = some r → Q .normal a' w') (e : evOps ty Γ ops (atL ops ord) st K = some r) : (Code.region id ops true).wp P Q a w := by
  obtain ⟨h1, h2, h3, h4⟩ := drawOk_spec hdr
  refine wp_region_any hm ?_
  refine ok_any (st := st) hty hΓ h4 ops.size (rest := ord) (by simp) (by omega) (fun i => ?_) h1 (fun i j _ hj => ?_) (h.drawn (w.drawn + 1)) e hK
  · rw [h3]
    constructor
    · intro hi; exact ⟨hi, by simp [hi]⟩
    · exact fun h => h.1
  · exfalso
    by_cases hjs : j < ops.size
    · simp [hjs] at hj
    · simp [hjs] at hj
theorem wpRegDL (hty : TyOk P ty) (hm : P.follows .mixedOrders = true) (hΓ : GOk P Γ) {id : Nat} {ord : List Nat} (hdr : drawOkL Γ ops ord = true) {K : St → Option R} (h : Rel C G st a w)
    (hK : ∀ G' st' a' w', Rel C G' st' a' w' → st'.n = st.n → K st' = some r → Q .normal a' w') (e : evOpsL ty Γ ops (atL ops ord) st K = some r) : (Code.region id ops true).wp P Q a w := by
  obtain ⟨h1, h2, h3, h4⟩ := drawOkL_spec hdr
  refine wp_region_any hm ?_
  refine ok_anyL (st := st) hty hΓ h4 ops.size (rest := ord) (by simp) (by omega) (fun i => ?_) h1 (fun i j _ hj => ?_) (h.drawn (w.drawn + 1)) e hK
  · rw [h3]
    constructor
    · intro hi; exact ⟨hi, by simp [hi]⟩
    · exact fun h => h.1
  · exfalso
    by_cases hjs : j < ops.size
    · simp [hjs] at hj
    · simp [hjs] at hj
theorem ok_join (hΓ : GOk P Γ) {ds : List (Nat × SS)} {K : St → Option R} {c : Code} (hwp : ∀ {R' : Type} {r' : R'} {K' : St → Option R'} {Q : Exit → Act → World → Prop}, (∀ G' st' a' w', Rel C G' st' a' w' → st'.n = st.n → K' st' = some r' → Q .normal a' w') → evOps ty Γ ops ops.toList st K' = some r' → c.wp P Q a w) (h : Rel C G st a w)
    (hK : ∀ G' st' a' w', Rel C G' st' a' w' → st'.n = st.n → K st' = some r → Q .normal a' w') (e : evJoin ty Γ ds ops st K = some r) : c.wp P Q a w := by
  unfold evJoin at e
  cases hc : (ops.toList.all (fun o => calmOp Γ o && Nat.blt (o.dst.getD 0) 65000) && ds.all (fun p => Nat.blt p.1 65000))
  · rw [hc] at e; cases e
  · rw [hc] at e
    simp only [cond_true] at e
    simp only [Bool.and_eq_true] at hc
    obtain ⟨y, e1, e2⟩ := Option.bind_eq_some_iff.1 e
    have hall : ∀ o ∈ ops.toList, calmOp Γ o = true ∧ o.dst.getD 0 < 65000 := fun o ho => by
      have := List.all_eq_true.1 hc.1 o ho
      simp only [Bool.and_eq_true] at this
      exact ⟨this.1, Nat.le_of_ble_eq_true this.2⟩
    obtain ⟨st1, g1, g2, g3, g4, g5, g6⟩ := calm_ops (fun f x h => (hΓ f x h).2.1) hall h.low e1
    have key := g6 (R' := Unit) (K' := fun s => open Classical in if s = st1 then some () else none) (r' := ()) (by simp)
    refine hwp (fun G' st' a' w' h1 h2 h3 => ?_) key
    have hst : st' = st1 := by
      by_cases hh : st' = st1
      · exact hh
      · simp [hh] at h3
    subst hst
    refine hK G' { st with env := addEnv ds y (dropEnv ops.toList st.env) } a' w' ⟨h1.size.trans h2, h.n, h1.dfr, fun t s ht => ?_, ?_, h1.fr⟩ rfl e2
    · rcases addEnv_get hc.2 g1 ht with ⟨q, hq, sl, u, rfl, q1, q2, rfl⟩ | hh
      · obtain ⟨hlt, hs⟩ := h1.env _ _ q1
        exact ⟨by show q.1 < st.n; rw [← h2]; exact hlt, rdSS_rep0 h1 hs q2⟩
      · obtain ⟨q1, q2⟩ := dropEnv_get (fun o ho => (hall o ho).2) hh
        rw [← g5 t q1] at q2
        obtain ⟨hlt, hs⟩ := h1.env _ _ q2
        exact ⟨by show t < st.n; rw [← h2]; exact hlt, hs⟩
    · have := h1.mem
      rw [g3, g4] at this
      exact this
def Ex.exit' : Ex → Exit
  | .normal => .normal
  | .exit i => .exit i
  | .ret => .ret
def LSumOk (P : Program) (b : Code) (L : LSum) : Prop :=
  ∀ {C : Cx} {G : Gh} {st : St} {a : Act} {w : World} {R : Type} {K : Ex → St → Option R} {r : R} {Q : Exit → Act → World → Prop}, Rel C G st a w →
    (∀ ex G' st' a' w', Rel C G' st' a' w' → st'.n = st.n → K ex st' = some r → Q ex.exit' a' w') → L st R K = some r → (Code.loop b).wp P Q a w
def loops : Code → List Code
  | .seq a b | .cond _ a b => loops a ++ loops b
  | .block _ a => loops a
  | .loop a => [a]
  | _ => []
theorem ok_code (hty : TyOk P ty) (hm : P.follows .mixedOrders = true) {J : Nat → Option (List (Nat × SS))} {Γ : FuncId → Option SumX} (hΓ : GOk P Γ) {Λ : Nat → Option LSum} : ∀ {c : Code} {G : Gh} {st : St} {a : Act} {w : World} {R : Type} {K : Ex → St → Option R} {r : R} {Q : Exit → Act → World → Prop},
    (∀ b ∈ loops c, ∀ L, (firstRegion b).bind Λ = some L → LSumOk P b L) → Rel C G st a w →
    (∀ ex G' st' a' w', Rel C G' st' a' w' → st'.n = st.n → K ex st' = some r → Q ex.exit' a' w') → evCode ty Γ J Λ c st K = some r → c.wp P Q a w
  | .skip, G, st, a, w, R, K, r, Q, hΛ, h, hK, e => wp_skip (hK .normal G st a w h rfl e)
  | .region id ops draw, G, st, a, w, R, K, r, Q, hΛ, h, hK, e => by
    unfold evCode at e
    have hK' : ∀ G' st' a' w', Rel C G' st' a' w' → st'.n = st.n → K .normal st' = some r → Q .normal a' w' := fun G' st' a' w' h1 h2 h3 => hK .normal G' st' a' w' h1 h2 h3
    cases draw with
    | false =>
      simp only [cond_false] at e
      unfold evReg at e
      split at e
      · exact ok_join hΓ (fun hK e => wpReg hty hΓ h hK e) h hK' e
      · exact wpReg hty hΓ h hK' e
    | true =>
      simp only [cond_true] at e
      split at e
      · rename_i ds _
        cases hdr : drawOk Γ ops (List.range ops.size)
        · rw [hdr] at e; cases e
        · rw [hdr] at e
          exact ok_join hΓ (fun hK e => wpRegD hty hm hΓ hdr h hK (by rw [atL_range]; exact e)) h hK' e
      · cases hdr : drawOkL Γ ops (ordOf Γ ops)
        · rw [hdr] at e; cases e
        · rw [hdr] at e
          exact wpRegDL hty hm hΓ hdr h hK' e
  | .seq x y, G, st, a, w, R, K, r, Q, hΛ, h, hK, e => by
    unfold evCode at e
    refine wp_seq (ok_code hty hm hΓ (fun b hb => hΛ b (by simp [loops, hb])) h (fun ex G' st' a' w' h1 h2 h3 => ?_) e)
    cases ex with
    | normal => exact ok_code hty hm hΓ (fun b hb => hΛ b (by simp [loops, hb])) h1 (fun ex G2 st2 a2 w2 h4 h5 h6 => hK ex G2 st2 a2 w2 h4 (h5.trans h2) h6) h3
    | exit i => exact hK (.exit i) G' st' a' w' h1 h2 h3
    | ret => exact hK .ret G' st' a' w' h1 h2 h3
  | .cond c x y, G, st, a, w, R, K, r, Q, hΛ, h, hK, e => by
    unfold evCode at e
    split at e
    · rename_i t
      split at e
      · rename_i b hb
        obtain ⟨hlt, hv⟩ := h.env t _ hb
        have hv' : a.eval (.tmp t) = .bool b := hv
        have hst : Rel C G (st.setEnv t (.lf (.bool b))) a w := h.setEnv hlt hv
        cases b
        · exact wp_cond_false hv' (ok_code hty hm hΓ (fun b hb => hΛ b (by simp [loops, hb])) hst hK e)
        · exact wp_cond_true hv' (ok_code hty hm hΓ (fun b hb => hΛ b (by simp [loops, hb])) hst hK e)
      · cases e
    · rename_i b
      cases b
      · exact wp_cond_false rfl (ok_code hty hm hΓ (fun b hb => hΛ b (by simp [loops, hb])) h hK e)
      · exact wp_cond_true rfl (ok_code hty hm hΓ (fun b hb => hΛ b (by simp [loops, hb])) h hK e)
    · cases e
  | .block id x, G, st, a, w, R, K, r, Q, hΛ, h, hK, e => by
    unfold evCode at e
    refine wp_block (ok_code hty hm hΓ (fun b hb => hΛ b (by simpa [loops] using hb)) h (fun ex G' st' a' w' h1 h2 h3 => ?_) e)
    cases ex with
    | normal => exact hK .normal G' st' a' w' h1 h2 h3
    | exit i =>
      show if i = id then Q .normal a' w' else Q (.exit i) a' w'
      cases hi : (i == id)
      · simp only [hi, cond_false] at h3
        rw [if_neg (by simpa using hi)]
        exact hK (.exit i) G' st' a' w' h1 h2 h3
      · simp only [hi, cond_true] at h3
        rw [if_pos (by simpa using hi)]
        exact hK .normal G' st' a' w' h1 h2 h3
    | ret => exact hK .ret G' st' a' w' h1 h2 h3
  | .loop x, G, st, a, w, R, K, r, Q, hΛ, h, hK, e => by
    unfold evCode at e
    split at e
    · rename_i L hL
      exact hΛ x (by simp [loops]) L hL h hK e
    · cases e
  | .exit id, G, st, a, w, R, K, r, Q, hΛ, h, hK, e => wp_exit (hK (.exit id) G st a w h rfl e)
  | .ret, G, st, a, w, R, K, r, Q, hΛ, h, hK, e => wp_ret (hK .ret G st a w h rfl e)
  | .rangeFunc .., G, st, a, w, R, K, r, Q, hΛ, h, hK, e | .scope _, G, st, a, w, R, K, r, Q, hΛ, h, hK, e | .label _, G, st, a, w, R, K, r, Q, hΛ, h, hK, e | .goto _, G, st, a, w, R, K, r, Q, hΛ, h, hK, e | .refuse _, G, st, a, w, R, K, r, Q, hΛ, h, hK, e => by
    unfold evCode at e; cases e
end
end Go.Ev

namespace Go.Ev
def K.rdS (st : St) : (k : K) → List Leaf → Option k.T
  | .int k, ls => K.rd (.int k) ls
  | .bool, ls => K.rd .bool ls
  | .str, ls => K.rd .str ls
  | .sl e, ls => match ls with
    | [l] => st.cont e l
    | _ => none
  | .pr a b, ls =>
    match a.rdS st (ls.take a.sz), b.rdS st (ls.drop a.sz) with
    | some x, some y => some (x, y)
    | _, _ => none
def Leaf.owns : Leaf → List Nat
  | .own id => [id]
  | .sub id _ _ => [id]
  | _ => []
def Slot.owns : Slot → List Nat
  | .lf l => l.owns
  | .ag ls => ls.flatMap Leaf.owns
  | .ep id _ _ => [id]
  | _ => []
def frz : List Nat → St → List Slot → St × List Slot
  | [], st, ss => (st, ss)
  | id :: ids, st, ss => match st.arr.get id with
    | some a => frz ids (st.freeze id a) (ss.map (Slot.freeze id a))
    | none => frz ids st ss
section
variable {P : Program} {C : Cx} {G : Gh} {st : St} {a : Act} {w w' : World} {ok ok' : Nat → Prop}
theorem rdS_rep (h : Rel C G st a w) : ∀ {k : K} {ls : List Leaf} {vs : List Value} {x : k.T}, RepLeafs w (G.ok C) G ls vs → k.rdS st ls = some x → RepT w (fun _ => True) k x vs
  | .int k, ls, vs, x, hr, e => (hr.rd (k := .int k) e).trans fun _ _ _ h => ⟨trivial, h⟩
  | .bool, ls, vs, x, hr, e => (hr.rd (k := .bool) e).trans fun _ _ _ h => ⟨trivial, h⟩
  | .str, ls, vs, x, hr, e => (hr.rd (k := .str) e).trans fun _ _ _ h => ⟨trivial, h⟩
  | .sl el, ls, vs, x, hr, e => by
    simp only [K.rdS] at e
    split at e
    · rename_i l
      cases vs with
      | nil => exact hr.elim
      | cons v vs =>
        cases vs with
        | cons _ _ => exact hr.2.elim
        | nil =>
          obtain ⟨A, c, h1, h2, h3⟩ := cont_rep h hr.1 e
          refine ⟨A, c, by rw [h1], h2, fun i hi => ?_⟩
          obtain ⟨ad, h4, cs, h5, h6⟩ := h3 i hi
          exact ⟨ad, h4, trivial, cs, h5.trans fun _ _ _ h => ⟨trivial, h⟩, h6⟩
    · cases e
  | .pr p q, ls, vs, x, hr, e => by
    simp only [K.rdS] at e
    split at e
    · rename_i y z h1 h2
      cases e
      exact ⟨vs.take p.sz, vs.drop p.sz, (List.take_append_drop _ _).symm, rdS_rep h (hr.take _) h1, rdS_rep h (hr.drop _) h2⟩
    · cases e
theorem rdS_nil : ∀ k : K, k.rdS st [] = none
  | .int _ | .bool | .str | .sl _ => rfl
  | .pr a b => by simp [K.rdS, rdS_nil a]
theorem frz_rep : ∀ {ids : List Nat} {G : Gh} {st : St} {ss : List Slot} {vals : List Value}, Rel C G st a w → RepSlots w (G.ok C) G ss vals →
    ∃ G', Rel C G' (frz ids st ss).1 a w ∧ (frz ids st ss).1.n = st.n ∧ RepSlots w (G'.ok C) G' (frz ids st ss).2 vals
  | [], G, st, ss, vals, h, hs => ⟨G, h, rfl, hs⟩
  | id :: ids, G, st, ss, vals, h, hs => by
    unfold frz
    cases hr : st.arr.get id with
    | none => exact frz_rep h hs
    | some r =>
      obtain ⟨ai0, hA0, _⟩ := h.mem.arrR id r hr
      obtain ⟨g1, H, ai, hA, ha, hblk⟩ := h.freeze (h.mem.ia id _ hA0) hr
      obtain ⟨G', g2, g3, g4⟩ := frz_rep (ids := ids) g1 (ss := ss.map (Slot.freeze id r)) (vals := vals) (by
        clear g1
        induction ss generalizing vals with
        | nil => cases vals with
          | nil => trivial
          | cons _ _ => exact hs.elim
        | cons s ss ih => cases vals with
          | nil => exact hs.elim
          | cons v vals => exact ⟨Slot.freeze_rep hA ha H hblk hs.1, ih _ hs.2⟩)
      exact ⟨G', g2, g3, g4⟩
end
end Go.Ev

namespace Go.Ev
inductive BS where
  | val (k : K) | fix (l : Leaf)
@[reducible] def BArgs : List BS → Type
  | [] => Unit
  | .val k :: l => k.T × BArgs l
  | .fix _ :: l => BArgs l
inductive ES where
  | val (g : Bool) (k : K) | rp (k : K) | mix (g : Bool) (l : List BS) | fix (l : Leaf)
@[reducible] def EArgs2 : List (Nat × ES) → Type
  | [] => Unit
  | (_, .val _ k) :: l => k.T × EArgs2 l
  | (_, .rp k) :: l => k.T × EArgs2 l
  | (_, .mix _ b) :: l => BArgs b × EArgs2 l
  | (_, .fix _) :: l => EArgs2 l
@[reducible] def BsArgs : List (Nat × List BS) → Type
  | [] => Unit
  | p :: l => BArgs p.2 × BsArgs l
@[reducible] def AArgs : List (Nat × K × Bool) → Type
  | [] => Unit
  | p :: l => List p.2.1.T × AArgs l
structure Sp where
  n : Nat
  env : List (Nat × ES)
  box : List (Nat × List BS)
  arr : List (Nat × K × Bool)
@[reducible] def Sp.T (p : Sp) : Type := EArgs2 p.env × BsArgs p.box × AArgs p.arr
def mkBox : (l : List BS) → BArgs l → List Leaf
  | [], _ => []
  | .val k :: l, x => k.lv x.1 ++ mkBox l x.2
  | .fix f :: l, x => f :: mkBox l x
def mkSl : (l : List (Nat × ES)) → EArgs2 l → List Slot
  | [], _ => []
  | (_, .val g k) :: l, x => mkS g k x.1 :: mkSl l x.2
  | (_, .rp k) :: l, x => .rp (k.lv x.1) :: mkSl l x.2
  | (_, .mix g b) :: l, x => (bif g then .ag (mkBox b x.1) else .lf (leaf1 (mkBox b x.1))) :: mkSl l x.2
  | (_, .fix f) :: l, x => .lf f :: mkSl l x
def mkEnv : List (Nat × ES) → List Slot → Tr Slot
  | p :: l, s :: ss => (mkEnv l ss).set p.1 (some s)
  | _, _ => .nil
def mkBoxs : (l : List (Nat × List BS)) → BsArgs l → Tr (List Leaf)
  | [], _ => .nil
  | p :: l, x => (mkBoxs l x.2).set p.1 (some (mkBox p.2 x.1))
def mkArrs : (l : List (Nat × K × Bool)) → AArgs l → Tr Arr
  | [], _ => .nil
  | p :: l, x => (mkArrs l x.2).set p.1 (some ⟨p.2.1, x.1, p.2.2⟩)
def Sp.hd (p : Sp) (x : p.T) : St := ⟨p.n, mkEnv p.env (mkSl p.env x.1), mkBoxs p.box x.2.1, mkArrs p.arr x.2.2⟩
def BS.sz : BS → Nat
  | .val k => k.sz
  | .fix _ => 1
def bsz : List BS → Nat
  | [] => 0
  | b :: l => b.sz + bsz l
structure Ren where
  b : List (Nat × Nat × Nat)
  a : List (Nat × Option Nat)
def look {α : Type} : List (Nat × α) → Nat → Option α
  | [], _ => none
  | p :: l, i => bif p.1 == i then some p.2 else look l i
/-! finding the names -/
def disP (R : Ren) (b o b' o' : Nat) : Ren := match look R.b b with | some _ => R | none => ⟨(b, b', o' - o) :: R.b, R.a⟩
def disCaps : Ren → List (Nat × Nat) → List (Nat × Nat) → Ren
  | R, c :: cs, c' :: cs' => disCaps (disP R c.1 c.2 c'.1 c'.2) cs cs'
  | R, _, _ => R
def disLeaf (R : Ren) : Leaf → Leaf → Ren
  | .own j, .own i => match look R.a j with | some _ => R | none => ⟨R.b, (j, some i) :: R.a⟩
  | .own j, .nil => match look R.a j with | some _ => R | none => ⟨R.b, (j, none) :: R.a⟩
  | .ptr b o, .ptr b' o' => disP R b o b' o'
  | .ifp _ _ b o, .ifp _ _ b' o' => disP R b o b' o'
  | .fn _ cs, .fn _ cs' => disCaps R cs cs'
  | _, _ => R
def disBox (R : Ren) : List BS → List Leaf → Ren
  | .val k :: l, ls => disBox R l (ls.drop k.sz)
  | .fix f :: l, y :: ls => disBox (disLeaf R f y) l ls
  | _, _ => R
def disEnv : Ren → List (Nat × ES) → List Slot → Ren
  | R, (_, .fix f) :: l, .lf y :: ss => disEnv (disLeaf R f y) l ss
  | R, (_, .mix _ b) :: l, s :: ss => disEnv (disBox R b s.leafs) l ss
  | R, _ :: l, _ :: ss => disEnv R l ss
  | R, _, _ => R
def disBoxs (st : St) : Ren → List (Nat × List BS) → Ren
  | R, [] => R
  | R, p :: l => disBoxs st (match look R.b p.1 with
    | some (c, d) => match st.box.get c with
      | some ls => disBox R p.2 (ls.drop d)
      | none => R
    | none => R) l
def dis (p : Sp) (st : St) (ss : List Slot) : Ren := disBoxs st (disEnv ⟨[], []⟩ p.env ss) p.box
/-! looking whether they fit -/
def chkP (R : Ren) (b o b' o' : Nat) : Bool := match look R.b b with | some (c, d) => c == b' && o' == d + o | none => false
def chkCaps (R : Ren) : List (Nat × Nat) → List (Nat × Nat) → Bool
  | [], [] => true
  | c :: cs, c' :: cs' => chkP R c.1 c.2 c'.1 c'.2 && chkCaps R cs cs'
  | _, _ => false
def chkLeaf (R : Ren) : Leaf → Leaf → Bool
  | .own j, .own i => match look R.a j with | some (some i') => i' == i | _ => false
  | .own j, .nil => match look R.a j with | some none => true | _ => false
  | .ptr b o, .ptr b' o' => chkP R b o b' o'
  | .fn f cs, .fn f' cs' => f == f' && chkCaps R cs cs'
  | .ifp t g b o, .ifp t' g' b' o' => (t == t' && g == g') && chkP R b o b' o'
  | .nilp, .nilp | .nilf, .nilf | .nili, .nili | .nil, .nil | .ifx, .ifx | .ifx, .ifp .. | .dead, _ => true
  | _, _ => false
def lentL (R : Ren) : Leaf → Bool
  | .own i => !R.a.any fun p => p.2 == some i
  | .sub i _ _ => !R.a.any fun p => p.2 == some i
  | _ => true
def lentS (R : Ren) : Slot → Bool
  | .ep i _ _ => !R.a.any fun p => p.2 == some i
  | .lf (.ptr _ _) => R.b.isEmpty
  | _ => true
def rdV (fl : Bool) (R : Ren) (st : St) (k : K) (ls : List Leaf) : Option k.T :=
  bif fl then (bif ls.all (lentL R) then k.rdS st ls else none) else k.rd ls
def rdBx (fl : Bool) (R : Ren) (st : St) : (l : List BS) → List Leaf → Option (BArgs l)
  | [], _ => some ()
  | .val k :: l, ls => match rdV fl R st k (ls.take k.sz) with
    | some x => match rdBx fl R st l (ls.drop k.sz) with
      | some xs => some (x, xs)
      | none => none
    | none => none
  | .fix f :: l, y :: ls => bif chkLeaf R f y then rdBx fl R st l ls else none
  | .fix _ :: _, [] => none
def rdSl (fl : Bool) (R : Ren) (st : St) : (l : List (Nat × ES)) → List Slot → Option (EArgs2 l)
  | [], [] => some ()
  | (_, .val g k) :: l, s :: ss => bif s.isAg == g then (match rdV fl R st k s.leafs with
    | some x => match rdSl fl R st l ss with
      | some xs => some (x, xs)
      | none => none
    | none => none) else none
  | (_, .rp k) :: l, s :: ss => match s with
    | .rp ls => match k.rd (ls.take k.sz) with
      | some x => match rdSl fl R st l ss with
        | some xs => some (x, xs)
        | none => none
      | none => none
    | s => bif fl && lentS R s then
        match st.leafsAt k.sz s with
        | some ls => match rdV true R st k ls with
          | some x => match rdSl fl R st l ss with
            | some xs => some (x, xs)
            | none => none
          | none => none
        | none => none
      else none
  | (_, .mix g b) :: l, s :: ss => bif s.isAg == g && s.leafs.length == bsz b then (match rdBx fl R st b s.leafs with
    | some x => match rdSl fl R st l ss with
      | some xs => some (x, xs)
      | none => none
    | none => none) else none
  | (_, .fix f) :: l, s :: ss => match s with
    | .lf y => bif chkLeaf R f y then rdSl fl R st l ss else none
    | _ => none
  | _, _ => none
def rdBxs (fl : Bool) (R : Ren) (st : St) : (l : List (Nat × List BS)) → Option (BsArgs l)
  | [] => some ()
  | p :: l => match look R.b p.1 with
    | some (c, d) => match st.box.get c with
      | some ls => match rdBx fl R st p.2 (ls.drop d) with
        | some x => match rdBxs fl R st l with
          | some xs => some (x, xs)
          | none => none
        | none => none
      | none => none
    | none => none
def rdA1 (st : St) (id : Nat) (e : K) (dp : Bool) : Option (List e.T) :=
  match st.arr.get id with
  | some r => bif !dp || r.deep then (if h : r.e = e then some (h ▸ r.l) else none) else none
  | none => none
def rdAs (R : Ren) (st : St) : (l : List (Nat × K × Bool)) → Option (AArgs l)
  | [] => some ()
  | p :: l => match look R.a p.1 with
    | some (some i) => match rdA1 st i p.2.1 p.2.2 with
      | some x => match rdAs R st l with
        | some xs => some (x, xs)
        | none => none
      | none => none
    | some none => match rdAs R st l with
      | some xs => some ([], xs)
      | none => none
    | none => none
/-! the names are apart -/
def ndA : List (Nat × Option Nat) → Bool
  | [] => true
  | p :: l => (match p.2 with
    | some i => !l.any fun q => q.2 == some i
    | none => true) && ndA l
def ndK {α : Type} : List (Nat × α) → Bool
  | [] => true
  | p :: l => (!l.any fun q => q.1 == p.1) && ndK l
def rng (R : Ren) (p : Nat × List BS) : Option (Nat × Nat × Nat) := match look R.b p.1 with
  | some (c, d) => some (c, d, d + bsz p.2)
  | none => none
def apR : Option (Nat × Nat × Nat) → Option (Nat × Nat × Nat) → Bool
  | some (c, l, h), some (c', l', h') => !(c == c') || (Nat.ble h l' || Nat.ble h' l)
  | _, _ => false
def ndB (R : Ren) : List (Nat × List BS) → Bool
  | [] => true
  | p :: l => l.all (fun q => apR (rng R p) (rng R q)) && ndB R l
def fitB (R : Ren) (st : St) (p : Nat × List BS) : Bool := match rng R p with
  | some (c, _, h) => match st.box.get c with
    | some ls => Nat.ble h ls.length && !p.2.isEmpty
    | none => false
  | none => false
def okRen (p : Sp) (st : St) (R : Ren) : Bool :=
  ((ndA R.a && ndK R.a) && ndB R p.box) && (p.box.all (fitB R st) && (R.b.all (fun q => p.box.any fun r => r.1 == q.1) && R.a.all (fun q => p.arr.any fun r => r.1 == q.1)))
def mat (fl : Bool) (p : Sp) (R : Ren) (st : St) (ss : List Slot) : Option p.T :=
  bif okRen p st R then
    match rdSl fl R st p.env ss with
    | some x => match rdBxs fl R st p.box with
      | some y => match rdAs R st p.arr with
        | some z => some (x, y, z)
        | none => none
      | none => none
    | none => none
  else none
def valB : List BS → List Leaf → List Nat
  | .val k :: l, ls => (ls.take k.sz).flatMap Leaf.owns ++ valB l (ls.drop k.sz)
  | .fix _ :: l, _ :: ls => valB l ls
  | _, _ => []
def valE : List (Nat × ES) → List Slot → List Nat
  | (_, .val _ _) :: l, s :: ss => s.owns ++ valE l ss
  | (_, .rp _) :: l, s :: ss => s.owns ++ valE l ss
  | (_, .mix _ b) :: l, s :: ss => valB b s.leafs ++ valE l ss
  | _ :: l, _ :: ss => valE l ss
  | _, _ => []
def valBs (R : Ren) (st : St) : List (Nat × List BS) → List Nat
  | [] => []
  | p :: l => (match look R.b p.1 with
    | some (c, d) => match st.box.get c with
      | some ls => valB p.2 (ls.drop d)
      | none => []
    | none => []) ++ valBs R st l
def preM (fl : Bool) (p : Sp) (R : Ren) (st : St) (ss : List Slot) : St × List Slot :=
  bif fl then (st, ss) else frz (valE p.env ss ++ valBs R st p.box) st ss
def Leaf.inP (p : Sp) : Leaf → Bool
  | .own i => p.arr.any fun q => q.1 == i
  | .ptr b _ => p.box.any fun q => q.1 == b
  | .ifp _ _ b _ => p.box.any fun q => q.1 == b
  | .fn _ cs => cs.all fun c => p.box.any fun q => q.1 == c.1
  | .sub .. => false
  | .sl .. => false
  | _ => true
def BS.inP (p : Sp) : BS → Bool
  | .fix l => l.inP p
  | _ => true
def ES.inP (p : Sp) : ES → Bool
  | .fix l => l.inP p
  | .mix g b => (b.all fun x => x.inP p) && (g || bsz b == 1) && !b.isEmpty
  | _ => true
def Sp.ok (p : Sp) : Bool :=
  ((p.env.all fun q => q.2.inP p) && p.box.all fun q => q.2.all fun b => b.inP p) && ((p.arr.all (fun q => Nat.blt q.1 65000) && (p.box.all (fun q => Nat.blt q.1 65000) && p.env.all (fun q => Nat.blt q.1 65000))) && (ndK p.box && (ndK p.arr && ndK p.env)))
def BS.flat : BS → Bool
  | .val k => k.flat
  | _ => true
def ES.flat : ES → Bool
  | .val _ k => k.flat
  | .rp _ => false
  | .mix _ b => b.all BS.flat
  | _ => true
def Sp.flat (p : Sp) : Bool := (p.env.all fun q => q.2.flat) && ((p.box.all fun q => q.2.all BS.flat) && p.arr.all fun q => q.2.1.flat || q.2.2)
end Go.Ev
