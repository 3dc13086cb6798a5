/- What is proved here: regions in each order, code, contracts of functions; no condition. -/
import Derived.Orders
import Derived.Test.YtiipbidabcjnjaaLb
set_option linter.unusedVariables false
set_option linter.unusedSimpArgs false
namespace Go.Ev

namespace Tr
variable {α : Type}
theorem setF_comm : ∀ (f : Nat) (t : Tr α) (i j : Nat) (a b : Option α), i ≠ j → setF f (setF f t i a) j b = setF f (setF f t j b) i a
  | 0, _, _, _, _, _, _ => rfl
  | f + 1, t, i, j, a, b, h => by
    simp only [setF_parts]
    by_cases hi : i = 0
    · subst hi
      have hj : j ≠ 0 := fun e => h e.symm
      by_cases hj2 : j % 2 = 1 <;> simp [hj, hj2, parts]
    · by_cases hj : j = 0
      · subst hj
        by_cases hi2 : i % 2 = 1 <;> simp [hi, hi2, parts]
      · by_cases hi2 : i % 2 = 1 <;> by_cases hj2 : j % 2 = 1 <;> simp only [hi, hj, hi2, hj2, if_true, if_false, parts]
        · rw [setF_comm f _ _ _ _ _ (by omega)]
        · rw [setF_comm f _ _ _ _ _ (by omega)]
theorem set_comm (t : Tr α) {i j : Nat} (a b : Option α) (h : i ≠ j) : (t.set i a).set j b = (t.set j b).set i a := setF_comm 16 t i j a b h

theorem setF_get : ∀ (f : Nat) (t : Tr α) (i : Nat) (v : α), i + 1 < 2 ^ f → t.get i = some v → setF f t i (some v) = t
  | 0, _, i, _, h, _ => by omega
  | f + 1, .nil, i, v, h, e => by simp [get] at e
  | f + 1, .nd w l r, i, v, h, e => by
    simp only [setF]
    by_cases hi : i = 0
    · subst hi; simp [get] at e; simp [e]
    · by_cases hi2 : i % 2 = 1
      · rw [get_odd _ _ _ hi2] at e
        simp only [beq_eq_false_iff_ne.2 hi, hi2, cond_false, beq_self_eq_true, cond_true]
        rw [setF_get f l _ v (by omega) e]
      · rw [get_even _ _ _ hi hi2] at e
        simp only [beq_eq_false_iff_ne.2 hi, beq_eq_false_iff_ne.2 hi2, cond_false]
        rw [setF_get f r _ v (by omega) e]
theorem set_get (t : Tr α) {i : Nat} {v : α} (h : i < 65000) (e : t.get i = some v) : t.set i (some v) = t := setF_get 16 t i v (by omega) e
end Tr

section
variable {P : Program} {ty : Ty} {Γ : FuncId → Option SumX} {st : St} {R : Type} {k : St → Slot → Option R} {r : R} {o : Oper}

/-- What the operation yields hangs on its operands and on what is there. -/
def Calm (ty : Ty) (Γ : FuncId → Option SumX) (o : Oper) (st : St) (s : Slot) : Prop :=
  ∀ {st' : St}, st.Ext st' → (∀ t ∈ tmpsOf o.op.operands.toList, st'.env.get t = st.env.get t) → ∀ {R' : Type} {k' : St → Slot → Option R'} {r' : R'}, k' st' s = some r' → opK ty Γ o st' k' = some r'

theorem ev_same {st st' : St} {l : List Operand} (h : ∀ t ∈ tmpsOf l, st'.env.get t = st.env.get t) : ∀ x ∈ l, st'.ev x = st.ev x := by
  intro x hx
  cases x with
  | tmp t =>
    have : t ∈ tmpsOf l := by
      clear h
      induction l with
      | nil => simp at hx
      | cons y l ih =>
        rcases List.mem_cons.1 hx with rfl | hx
        · simp [tmpsOf]
        · have := ih hx
          cases y <;> simp [tmpsOf, this]
    simp only [St.ev, h t this]
  | _ => rfl
theorem map_ev_same {st st' : St} {l l' : List Operand} (h : ∀ x ∈ l, st'.ev x = st.ev x) (hs : ∀ x ∈ l', x ∈ l) : l'.map st'.ev = l'.map st.ev := List.map_congr_left fun x hx => h x (hs x hx)

theorem cont_ext {st st' : St} (hx : st.Ext st') {e : K} {l : Leaf} {v : List e.T} (h : st.cont e l = some v) : st'.cont e l = some v := by
  unfold St.cont at *
  cases l with
  | own id =>
    obtain ⟨a, h1, h2⟩ := Option.bind_eq_some_iff.1 h
    exact Option.bind_eq_some_iff.2 ⟨a, hx.arr _ _ h1, h2⟩
  | sub id o n =>
    obtain ⟨a, h1, h2⟩ := Option.bind_eq_some_iff.1 h
    exact Option.bind_eq_some_iff.2 ⟨a, hx.arr _ _ h1, h2⟩
  | _ => exact h
theorem leafsAt_ext {st st' : St} (hx : st.Ext st') {n : Nat} {s : Slot} {ls : List Leaf} (h : st.leafsAt n s = some ls) : st'.leafsAt n s = some ls := by
  unfold St.leafsAt at *
  split at h
  · obtain ⟨a, h1, h2⟩ := Option.map_eq_some_iff.1 h
    exact Option.map_eq_some_iff.2 ⟨a, hx.box _ _ h1, h2⟩
  · obtain ⟨a, h1, h2⟩ := Option.map_eq_some_iff.1 h
    exact Option.map_eq_some_iff.2 ⟨a, hx.arr _ _ h1, h2⟩
  · exact h
  · cases h

theorem lenK_calm {l : Leaf} {k' : Nat → Option R} (e : lenK st l k' = some r) : ∃ n, k' n = some r ∧ ∀ {st' : St}, st.Ext st' → ∀ {R' : Type} {k2 : Nat → Option R'} {r' : R'}, k2 n = some r' → lenK st' l k2 = some r' := by
  unfold lenK at e
  split at e
  · exact ⟨_, e, fun _ => id⟩
  · exact ⟨_, e, fun _ => id⟩
  · rename_i id
    split at e
    · rename_i a ha
      exact ⟨_, e, fun hx _ _ _ h2 => by simp only [lenK, hx.arr _ _ ha]; exact h2⟩
    · cases e
  · exact ⟨_, e, fun _ => id⟩
  · cases e

theorem binK_calm {op : BinOp} {x y : Leaf} {k' : Leaf → Option R} (e : binK op x y k' = some r) : ∃ l, k' l = some r ∧ ∀ {R' : Type} {k2 : Leaf → Option R'} {r' : R'}, k2 l = some r' → binK op x y k2 = some r' := by
  unfold binK at e
  split at e
  · rename_i kd p kd' q
    split at e
    · cases hq : decide (q < 0)
      · rw [hq] at e; exact ⟨_, e, fun h => by simp only [binK, hq]; exact h⟩
      · rw [hq] at e; cases e
    · cases hq : decide (q < 0)
      · rw [hq] at e; exact ⟨_, e, fun h => by simp only [binK, hq]; exact h⟩
      · rw [hq] at e; cases e
    · split at e
      · cases e
      · rename_i hkk
        split at e <;> first
          | (exact ⟨_, e, fun h => by simp only [binK, if_neg hkk]; exact h⟩)
          | (cases hq : (q == 0)
             · rw [hq] at e; exact ⟨_, e, fun h => by simp only [binK, if_neg hkk, hq]; exact h⟩
             · rw [hq] at e; cases e)
          | cases e
  · rename_i p q
    split at e
    · exact ⟨_, e, fun h => h⟩
    · exact ⟨_, e, fun h => h⟩
    · cases hq : decide (((p.size + q.size : Nat) : Int) > 9223372036854775807)
      · rw [hq] at e; exact ⟨_, e, fun h => by simp only [binK, hq]; exact h⟩
      · rw [hq] at e; cases e
    · cases e
  · cases e

theorem minK_calm {g : Int → Int → Int} {kd : IntKind} : ∀ {ss : List Slot} {p : Int} {k' : Leaf → Option R}, minK g kd p ss k' = some r → ∃ l, k' l = some r ∧ ∀ {R' : Type} {k2 : Leaf → Option R'} {r' : R'}, k2 l = some r' → minK g kd p ss k2 = some r'
  | [], p, k', e => ⟨_, e, fun h => h⟩
  | s :: ss, p, k', e => by
    unfold minK at e
    split at e
    · rename_i h; cases h
    · rename_i k2 q ls heq
      simp only [List.cons.injEq] at heq
      obtain ⟨rfl, rfl⟩ := heq
      split at e
      · rename_i hk
        obtain ⟨l, h1, h2⟩ := minK_calm e
        exact ⟨l, h1, fun h => by simp only [minK, if_pos hk]; exact h2 h⟩
      · cases e
    · cases e

theorem fill_same {fs : List (Nat × Nat × Bool)} {st st' : St} : ∀ {ps : List (Nat × Operand)} {ls : List Leaf}, (∀ x ∈ ps.map (·.2), st'.ev x = st.ev x) → fillLeafs fs st' ps ls = fillLeafs fs st ps ls
  | [], _, _ => rfl
  | (i, x) :: ps, ls, h => by
    have h1 := h x (by simp)
    simp only [fillLeafs, h1]
    cases fs[i]? with
    | none => rfl
    | some t => simp only; rw [fill_same (ps := ps) fun y hy => h y (by simp at hy ⊢; exact .inr hy)]

theorem bnd_same {st st' : St} {x : Option Operand} (h : ∀ y, x = some y → st'.ev y = st.ev y) : bnd st' x = bnd st x := by
  cases x with
  | none => rfl
  | some y => simp only [bnd, h y rfl]
end
end Go.Ev

namespace Go.Ev

section
variable {P : Program} {ty : Ty} {Γ : FuncId → Option SumX} {st : St} {R : Type} {k : St → Slot → Option R} {r : R} {o : Oper}

theorem calm_of {s : Slot} (h : ∀ {st' : St}, st.Ext st' → (∀ x ∈ o.op.operands.toList, st'.ev x = st.ev x) → ∀ {R' : Type} {k' : St → Slot → Option R'} {r' : R'}, k' st' s = some r' → opK ty Γ o st' k' = some r') : Calm ty Γ o st s :=
  fun hx hev _ _ _ h2 => h hx (ev_same hev) h2

theorem calm_op (hΓc : ∀ f x, Γ f = some x → x.calm = true → CalmSum x.g) (hc : calmOp Γ o = true) (e : opK ty Γ o st k = some r) : ∃ s, k st s = some r ∧ Calm ty Γ o st s := by
  obtain ⟨dst, op, type, pos, after, guard⟩ := o
  unfold calmOp at hc
  simp only at hc
  split at hc
  · rename_i x
    exact ⟨st.ev x, e, calm_of fun hx hev _ _ _ h2 => by simp only [opK]; rw [hev x (by simp [Op.operands])]; exact h2⟩
  · rename_i x
    exact ⟨st.ev x, e, calm_of fun hx hev _ _ _ h2 => by simp only [opK]; rw [hev x (by simp [Op.operands])]; exact h2⟩
  · rename_i c x y
    simp only [opK] at e
    split at e
    · rename_i b hb
      cases b
      · exact ⟨st.ev y, e, calm_of fun hx hev _ _ _ h2 => by simp only [opK]; rw [hev c (by simp [Op.operands]), hb, hev y (by simp [Op.operands])]; exact h2⟩
      · exact ⟨st.ev x, e, calm_of fun hx hev _ _ _ h2 => by simp only [opK]; rw [hev c (by simp [Op.operands]), hb, hev x (by simp [Op.operands])]; exact h2⟩
    · cases e
  · -- load
    rename_i t x
    simp only [opK, loadK] at e
    split at e
    · rename_i ti hti
      split at e
      · rename_i ls hls
        cases hl : (ls.length == ti.size)
        · rw [hl] at e; cases e
        · rw [hl] at e
          simp only [cond_true] at e
          split at e
          · rename_i s hs
            exact ⟨s, e, calm_of fun hx hev _ _ _ h2 => by simp only [opK, loadK]; rw [hev x (by simp [Op.operands]), hti]; simp only [leafsAt_ext hx hls, hl, cond_true, hs]; exact h2⟩
          · cases e
      · cases e
    · cases e
  · -- nilCheck
    rename_i x
    simp only [opK] at e
    unfold nilCheckK at e
    split at e
    all_goals first
      | (rename_i heq; exact ⟨_, e, calm_of fun hx hev _ _ _ h2 => by simp only [opK]; rw [hev x (by simp [Op.operands]), heq]; exact h2⟩)
      | cases e
  · -- binOp
    rename_i op t x y t2
    simp only [opK] at e
    split at e
    · rename_i a b h1 h2
      obtain ⟨l, h3, h4⟩ := binK_calm e
      exact ⟨.lf l, h3, calm_of fun hx hev _ _ _ h5 => by simp only [opK]; rw [hev x (by simp [Op.operands]), hev y (by simp [Op.operands]), h1, h2]; exact h4 h5⟩
    · cases e
  · -- unOp
    rename_i op t x
    simp only [opK] at e
    unfold unOpK at e
    split at e
    · rename_i b heq
      exact ⟨_, e, calm_of fun hx hev _ _ _ h2 => by simp only [opK]; rw [hev x (by simp [Op.operands]), heq]; exact h2⟩
    · rename_i kd n heq
      exact ⟨_, e, calm_of fun hx hev _ _ _ h2 => by simp only [opK]; rw [hev x (by simp [Op.operands]), heq]; exact h2⟩
    · cases e
  · -- convert
    rename_i s t x
    simp only [opK] at e
    cases hs : (ty s).isSome
    · rw [hs] at e; cases e
    · rw [hs] at e
      simp only [cond_true] at e
      unfold convertK at e
      split at e
      · rename_i kd n _ _ _ _ _ _ h1 h2
        exact ⟨_, e, calm_of fun hx hev _ _ _ h3 => by simp only [opK, hs, cond_true]; rw [hev x (by simp [Op.operands])]; simp only [convertK, h1, h2]; exact h3⟩
      · cases e
  · -- fieldAddr
    rename_i t x f
    simp only [opK] at e
    unfold fieldAddrK at e
    split at e
    · rename_i hti
      split at e
      all_goals first
        | (rename_i h1 h2; exact ⟨_, e, calm_of fun hx hev _ _ _ h3 => by simp only [opK]; rw [hev x (by simp [Op.operands])]; simp only [fieldAddrK, hti, h1, h2]; exact h3⟩)
        | cases e
    · cases e
  · -- field
    rename_i t x f
    simp only [opK] at e
    unfold fieldK at e
    split at e
    · rename_i fs _ _ _ _ _ ls h1 h2
      split at e
      · rename_i off size agg hf
        cases hl : Nat.ble (off + size) ls.length
        · rw [hl] at e; cases e
        · rw [hl] at e
          simp only [cond_true] at e
          split at e
          · rename_i s hs
            exact ⟨s, e, calm_of fun hx hev _ _ _ h3 => by simp only [opK]; rw [hev x (by simp [Op.operands])]; simp only [fieldK, h1, h2, hf, hl, cond_true, hs]; exact h3⟩
          · cases e
      · cases e
    · cases e
  · -- indexAddr
    rename_i t x y
    simp only [opK] at e
    unfold indexAddrK at e
    split at e
    · rename_i el l b kd i h1 h2
      cases hz : (elemSz ty t == some el.sz)
      · rw [hz] at e; cases e
      · rw [hz] at e
        simp only [cond_true] at e
        cases hi : ib i l.length
        · rw [hi] at e; cases e
        · rw [hi] at e
          exact ⟨_, e, calm_of fun hx hev _ _ _ h3 => by simp only [opK]; rw [hev x (by simp [Op.operands]), hev y (by simp [Op.operands])]; simp only [indexAddrK, h1, h2, hz, cond_true, hi]; exact h3⟩
    · rename_i id kd i h1 h2
      split at e
      · rename_i a ha
        cases hz : (elemSz ty t == some a.e.sz)
        · rw [hz] at e; cases e
        · rw [hz] at e
          simp only [cond_true] at e
          cases hi : ib i a.l.length
          · rw [hi] at e; cases e
          · rw [hi] at e
            exact ⟨_, e, calm_of fun hx hev _ _ _ h3 => by simp only [opK]; rw [hev x (by simp [Op.operands]), hev y (by simp [Op.operands])]; simp only [indexAddrK, h1, h2, hx.arr _ _ ha, hz, cond_true, hi]; exact h3⟩
      · cases e
    · rename_i id off n kd i h1 h2
      split at e
      · rename_i a ha
        cases hz : (elemSz ty t == some a.e.sz)
        · rw [hz] at e; cases e
        · rw [hz] at e
          simp only [cond_true] at e
          cases hi : ib i n
          · rw [hi] at e; cases e
          · rw [hi] at e
            exact ⟨_, e, calm_of fun hx hev _ _ _ h3 => by simp only [opK]; rw [hev x (by simp [Op.operands]), hev y (by simp [Op.operands])]; simp only [indexAddrK, h1, h2, hx.arr _ _ ha, hz, cond_true, hi]; exact h3⟩
      · cases e
    · cases e
  · -- index
    rename_i t x y
    simp only [opK] at e
    unfold indexK at e
    split at e
    · rename_i s kd i h1 h2
      cases hz : isStr ty t
      · rw [hz] at e; cases e
      · rw [hz] at e
        simp only [cond_true] at e
        cases hi : ib i s.size
        · rw [hi] at e; cases e
        · rw [hi] at e
          exact ⟨_, e, calm_of fun hx hev _ _ _ h3 => by simp only [opK]; rw [hev x (by simp [Op.operands]), hev y (by simp [Op.operands])]; simp only [indexK, h1, h2, hz, cond_true, hi]; exact h3⟩
    · cases e
  · -- extract
    rename_i x i
    simp only [opK] at e
    unfold extractK at e
    split at e
    · rename_i vs h1
      split at e
      · rename_i agg ls h2
        split at e
        · rename_i s h3
          exact ⟨s, e, calm_of fun hx hev _ _ _ h4 => by simp only [opK]; rw [hev x (by simp [Op.operands])]; simp only [extractK, h1, h2, h3]; exact h4⟩
        · cases e
      · cases e
    · cases e
  · -- build
    rename_i t ps
    simp only [opK] at e
    unfold buildK at e
    split at e
    · rename_i fs _ _ _ zero _ hti
      split at e
      · rename_i ls hls
        exact ⟨_, e, calm_of fun hx hev _ _ _ h2 => by
          simp only [opK, buildK, hti]
          rw [fill_same fun y hy => hev y (by simpa [Op.operands] using hy)]
          simp only [hls]; exact h2⟩
      · cases e
    · cases e
  · -- slice
    rename_i t x lo hi
    simp only [opK] at e
    split at e
    · rename_i a b h1 h2
      have hb : ∀ st' : St, (∀ z ∈ (Op.slice t x lo hi none).operands.toList, st'.ev z = st.ev z) → bnd st' lo = some a ∧ bnd st' hi = some b ∧ st'.ev x = st.ev x := fun st' hev =>
        ⟨(bnd_same fun y hy => hev y (by simp [Op.operands, hy])).trans h1, (bnd_same fun y hy => hev y (by simp [Op.operands, hy])).trans h2, hev x (by simp [Op.operands])⟩
      unfold sliceK at e
      split at e
      · rename_i s h3
        cases hz : isStr ty t
        · rw [hz] at e; cases e
        · rw [hz] at e
          simp only [cond_true] at e
          cases hq : decide (0 ≤ a.getD 0 ∧ a.getD 0 ≤ b.getD s.size ∧ b.getD s.size ≤ s.size)
          · rw [hq] at e; cases e
          · rw [hq] at e
            exact ⟨_, e, calm_of fun {st2} hx hev _ _ _ h4 => by
              obtain ⟨q1, q2, q3⟩ := hb st2 hev
              simp only [opK, q1, q2]; rw [q3]; simp only [sliceK, h3, hz, cond_true, hq]; exact h4⟩
      · rename_i el l _ h3
        cases hz : (elemSz ty t == some el.sz)
        · rw [hz] at e; cases e
        · rw [hz] at e
          simp only [cond_true] at e
          cases hq : decide (0 ≤ a.getD 0 ∧ a.getD 0 ≤ b.getD l.length ∧ b.getD l.length ≤ l.length)
          · rw [hq] at e; cases e
          · rw [hq] at e
            exact ⟨_, e, calm_of fun {st2} hx hev _ _ _ h4 => by
              obtain ⟨q1, q2, q3⟩ := hb st2 hev
              simp only [opK, q1, q2]; rw [q3]; simp only [sliceK, h3, hz, cond_true, hq]; exact h4⟩
      · rename_i id h3
        split at e
        · rename_i r hr
          cases hz : (elemSz ty t == some r.e.sz)
          · rw [hz] at e; cases e
          · rw [hz] at e
            simp only [cond_true] at e
            cases hq : decide (0 ≤ a.getD 0 ∧ a.getD 0 ≤ b.getD r.l.length ∧ b.getD r.l.length ≤ r.l.length)
            · rw [hq] at e; cases e
            · rw [hq] at e
              exact ⟨_, e, calm_of fun {st2} hx hev _ _ _ h4 => by
                obtain ⟨q1, q2, q3⟩ := hb st2 hev
                simp only [opK, q1, q2]; rw [q3]; simp only [sliceK, h3, hx.arr _ _ hr, hz, cond_true, hq]; exact h4⟩
        · cases e
      · rename_i id off n h3
        split at e
        · rename_i r hr
          cases hz : (elemSz ty t == some r.e.sz)
          · rw [hz] at e; cases e
          · rw [hz] at e
            simp only [cond_true] at e
            cases hq : decide (0 ≤ a.getD 0 ∧ a.getD 0 ≤ b.getD n ∧ b.getD n ≤ n)
            · rw [hq] at e; cases e
            · rw [hq] at e
              exact ⟨_, e, calm_of fun {st2} hx hev _ _ _ h4 => by
                obtain ⟨q1, q2, q3⟩ := hb st2 hev
                simp only [opK, q1, q2]; rw [q3]; simp only [sliceK, h3, hx.arr _ _ hr, hz, cond_true, hq]; exact h4⟩
        · cases e
      · cases e
    · cases e
  · -- call
    rename_i c
    have hargs : ∀ {st' : St}, (∀ x ∈ (Op.call c).operands.toList, st'.ev x = st.ev x) → c.args.toList.map st'.ev = c.args.toList.map st.ev := fun hev =>
      List.map_congr_left fun x hx => hev x (by simp [Op.operands, Call.operands]; exact .inr (by simpa using hx))
    simp only [opK] at e
    unfold callK at e
    split at hc
    · rename_i f hcal
      split at hc
      · rename_i x hx
        rw [hcal] at e
        simp only [St.ev, hx] at e
        obtain ⟨s, h1, h2⟩ := hΓc f x hx hc e
        exact ⟨s, h1, calm_of fun hxt hev _ _ _ h3 => by
          simp only [opK, callK, hcal, St.ev, hx]
          have := hargs hev
          rw [this]
          exact h2 hxt h3⟩
      · cases hc
    · rename_i hcal
      rw [hcal] at e
      simp only at e
      split at e
      · rename_i x t h1 h2
        have hx' : ∀ {st' : St}, (∀ z ∈ (Op.call c).operands.toList, st'.ev z = st.ev z) → st'.ev x = st.ev x := fun hev => hev x (by simp [Op.operands, Call.operands]; exact .inr (by rw [← Array.mem_toList_iff, h1]; simp))
        split at e
        · rename_i s hs
          cases hst : isStr ty t
          · rw [hst] at e; cases e
          · rw [hst] at e
            exact ⟨_, e, calm_of fun hxt hev _ _ _ h3 => by simp only [opK, callK, hcal, h1, h2]; rw [hx' hev, hs]; simp only [hst, cond_true]; exact h3⟩
        · rename_i l hne hs
          cases hsz : (elemSz ty t).isSome
          · rw [hsz] at e; cases e
          · rw [hsz] at e
            obtain ⟨n, h4, h5⟩ := lenK_calm (k' := fun n => k st (.lf (.int .i64 n))) e
            refine ⟨_, h4, calm_of fun hxt hev _ _ _ h3 => ?_⟩
            simp only [opK, callK, hcal, h1, h2]
            rw [hx' hev, hs]
            cases l with
            | str s => exact absurd rfl (hne s)
            | _ => simp only [hsz, cond_true]; exact h5 hxt h3
        · cases e
      · cases e
    · rename_i hcal
      rw [hcal] at e
      simp only at e
      split at e
      · rename_i kd p ss hs
        obtain ⟨l, h4, h5⟩ := minK_calm e
        exact ⟨_, h4, calm_of fun hxt hev _ _ _ h3 => by
          simp only [opK, callK, hcal]
          have := hargs hev
          rw [this, hs]
          exact h5 h3⟩
      · cases e
    · rename_i hcal
      rw [hcal] at e
      simp only at e
      split at e
      · rename_i kd p ss hs
        obtain ⟨l, h4, h5⟩ := minK_calm e
        exact ⟨_, h4, calm_of fun hxt hev _ _ _ h3 => by
          simp only [opK, callK, hcal]
          have := hargs hev
          rw [this, hs]
          exact h5 h3⟩
      · cases e
    · cases hc
  · cases hc
end
end Go.Ev

namespace Go.Ev

def St.Low (st : St) : Prop := ∀ t s, st.env.get t = some s → t < 65000

section
variable {P : Program} {ty : Ty} {Γ : FuncId → Option SumX} {st : St} {R : Type} {r : R} {o : Oper} {ops : Array Oper}

theorem St.Ext.refl (st : St) : st.Ext st := ⟨fun _ _ h => h, fun _ _ h => h⟩
theorem put_n (d : Option Tmp) (s : Slot) : (st.put d s).n = st.n := by unfold St.put; split <;> rfl
theorem put_box (d : Option Tmp) (s : Slot) : (st.put d s).box = st.box := by unfold St.put; split <;> rfl
theorem put_arr (d : Option Tmp) (s : Slot) : (st.put d s).arr = st.arr := by unfold St.put; split <;> rfl
theorem put_get {d : Option Tmp} {s : Slot} {t : Tmp} (h : ∀ x, d = some x → t ≠ x) : (st.put d s).env.get t = st.env.get t := by
  cases d with
  | none => rfl
  | some x => exact Tr.get_set_ne _ _ (h x rfl)
theorem Low.put {d : Option Tmp} {s : Slot} (hd : d.getD 0 < 65000) (h : st.Low) : (st.put d s).Low := by
  intro t u ht
  cases d with
  | none => exact h t u ht
  | some x =>
    by_cases e : t = x
    · subst e; exact hd
    · exact h t u (by rw [← ht]; exact (Tr.get_set_ne _ _ e).symm)
theorem Ext.put {st' : St} {d d' : Option Tmp} {s s' : Slot} (h : st.Ext st') : (st.put d s).Ext (st'.put d' s') := by
  refine ⟨fun b ls hb => ?_, fun i r hi => ?_⟩
  · rw [put_box] at hb ⊢; exact h.box b ls hb
  · rw [put_arr] at hi ⊢; exact h.arr i r hi
theorem Ext.unput {d : Option Tmp} {s : Slot} : (st.put d s).Ext st := ⟨fun b ls hb => by rw [put_box] at hb; exact hb, fun i r hi => by rw [put_arr] at hi; exact hi⟩

theorem setEnv_same {g : Nat} {s : Slot} (hl : st.Low) (h : st.env.get g = some s) : st.setEnv g s = st := by
  unfold St.setEnv
  rw [Tr.set_get _ (hl g s h) h]

theorem looks_tmps {t : Tmp} (h : t ∈ tmpsOf o.op.operands.toList) : t ∈ looks ops o := List.mem_append_left _ h
theorem looks_guard {j : Nat} {b : Bool} {g : Tmp} (hg : o.guard = some (j, b)) (hj : (ops[j]?).bind (·.dst) = some g) : g ∈ looks ops o := by
  unfold looks
  rw [hg]
  simp only [hj]
  exact List.mem_append_right _ (by simp)

theorem calm_oper (hΓc : ∀ f x, Γ f = some x → x.calm = true → CalmSum x.g) (hc : calmOp Γ o = true) (hl : st.Low) {K : St → Option R} (e : evOper ty Γ ops o st K = some r) :
    ∃ s, K (st.put o.dst s) = some r ∧ ∀ {st' : St}, st.Ext st' → st'.n = st.n → (∀ t ∈ looks ops o, st'.env.get t = st.env.get t) → st'.Low → ∀ {R' : Type} {K' : St → Option R'} {r' : R'}, K' (st'.put o.dst s) = some r' → evOper ty Γ ops o st' K' = some r' := by
  unfold evOper at e
  cases hd : Nat.blt (o.dst.getD 0) st.n
  · rw [hd] at e; cases e
  · rw [hd] at e
    simp only [cond_true] at e
    split at e
    · rename_i hg
      obtain ⟨s, h1, h2⟩ := calm_op hΓc hc e
      refine ⟨s, h1, fun {st'} hx hn hev hl' _ K' _ h3 => ?_⟩
      unfold evOper
      rw [hn, hd, hg]
      exact h2 hx (fun t ht => hev t (looks_tmps ht)) (k' := fun st s => putK st o.dst s K') h3
    · rename_i j b hg
      split at e
      · cases e
      · rename_i g hj
        split at e
        · rename_i x hx
          have fin : ∀ y : Bool, x = y → (y == b) = true → (opK ty Γ o (st.setEnv g (.lf (.bool y))) fun st s => putK st o.dst s K) = some r → ∃ s, K (st.put o.dst s) = some r ∧ ∀ {st' : St}, st.Ext st' → st'.n = st.n → (∀ t ∈ looks ops o, st'.env.get t = st.env.get t) → st'.Low → ∀ {R' : Type} {K' : St → Option R'} {r' : R'}, K' (st'.put o.dst s) = some r' → evOper ty Γ ops o st' K' = some r' := by
            intro y hxy hyb e
            subst hxy
            rw [setEnv_same hl hx] at e
            obtain ⟨s, h1, h2⟩ := calm_op hΓc hc e
            refine ⟨s, h1, fun {st'} hxt hn hev hl' _ K' _ h3 => ?_⟩
            have hx' : st'.env.get g = some (.lf (.bool x)) := (hev g (looks_guard hg hj)).trans hx
            have h4 := h2 hxt (fun t ht => hev t (looks_tmps ht)) (k' := fun st s => putK st o.dst s K') h3
            unfold evOper
            rw [hn, hd, hg]
            simp only [cond_true, hj, hx']
            rw [← setEnv_same hl' hx'] at h4
            cases x <;> cases b <;> first | exact h4 | cases hyb
          have fin2 : ∀ y : Bool, x = y → (y == b) = false → putK (st.setEnv g (.lf (.bool y))) o.dst (.tp []) K = some r → ∃ s, K (st.put o.dst s) = some r ∧ ∀ {st' : St}, st.Ext st' → st'.n = st.n → (∀ t ∈ looks ops o, st'.env.get t = st.env.get t) → st'.Low → ∀ {R' : Type} {K' : St → Option R'} {r' : R'}, K' (st'.put o.dst s) = some r' → evOper ty Γ ops o st' K' = some r' := by
            intro y hxy hyb e
            subst hxy
            rw [setEnv_same hl hx] at e
            refine ⟨.tp [], e, fun {st'} hxt hn hev hl' _ K' _ h3 => ?_⟩
            have hx' : st'.env.get g = some (.lf (.bool x)) := (hev g (looks_guard hg hj)).trans hx
            unfold evOper
            rw [hn, hd, hg]
            simp only [cond_true, hj, hx']
            have h4 : putK st' o.dst (.tp []) K' = _ := h3
            rw [← setEnv_same hl' hx'] at h4
            cases x <;> cases b <;> first | exact h4 | cases hyb
          cases x <;> cases b <;> simp only [cond_true, cond_false] at e
          · exact fin false rfl rfl e
          · exact fin2 false rfl rfl e
          · exact fin2 true rfl rfl e
          · exact fin true rfl rfl e
        · rename_i hx
          refine ⟨.tp [], e, fun {st'} hxt hn hev hl' _ K' _ h3 => ?_⟩
          have hx' : st'.env.get g = some (.tp []) := (hev g (looks_guard hg hj)).trans hx
          unfold evOper
          rw [hn, hd, hg]
          simp only [cond_true, hj, hx']
          exact h3
        · cases e

/-- A new box, a new array. -/
theorem fresh_op {k : St → Slot → Option R} (hf : freshOp o = true) (e : opK ty Γ o st k = some r) :
    ∃ box' arr' s, k ⟨st.n, st.env, box', arr'⟩ s = some r ∧ st.Ext ⟨st.n, st.env, box', arr'⟩ ∧ ∀ {env' : Tr Slot}, (∀ t ∈ tmpsOf o.op.operands.toList, env'.get t = st.env.get t) → ∀ {R' : Type} {k' : St → Slot → Option R'} {r' : R'}, k' ⟨st.n, env', box', arr'⟩ s = some r' → opK ty Γ o ⟨st.n, env', st.box, st.arr⟩ k' = some r' := by
  have hsame : ∀ {env' : Tr Slot}, (∀ t ∈ tmpsOf o.op.operands.toList, env'.get t = st.env.get t) → ∀ x ∈ o.op.operands.toList, (⟨st.n, env', st.box, st.arr⟩ : St).ev x = st.ev x := fun h => ev_same (st' := ⟨st.n, _, st.box, st.arr⟩) h
  obtain ⟨dst, op, type, pos, after, guard⟩ := o
  unfold freshOp at hf
  simp only at hf
  split at hf
  · rename_i t
    simp only [opK, allocK] at e
    split at e
    · rename_i ti hti hb
      refine ⟨_, _, _, e, ⟨fun b ls h => ?_, fun _ _ h => h⟩, fun hev _ _ _ h2 => by simp only [opK, allocK, hti, hb]; exact h2⟩
      show Tr.get _ b = _
      rw [Tr.get_set_ne _ _ (fun hc => by rw [hc, hb] at h; cases h)]; exact h
    · cases e
  · rename_i t x
    simp only [opK, boxK] at e
    split at e
    · rename_i l hb hs
      refine ⟨_, _, _, e, ⟨fun b ls h => ?_, fun _ _ h => h⟩, fun hev _ _ _ h2 => by simp only [opK, boxK]; rw [hsame hev x (by simp [Op.operands])]; simp only [hb, hs]; exact h2⟩
      show Tr.get _ b = _
      rw [Tr.get_set_ne _ _ (fun hc => by rw [hc, hb] at h; cases h)]; exact h
    · rename_i l hb hs
      refine ⟨_, _, _, e, ⟨fun b ls h => ?_, fun _ _ h => h⟩, fun hev _ _ _ h2 => by simp only [opK, boxK]; rw [hsame hev x (by simp [Op.operands])]; simp only [hb, hs]; exact h2⟩
      show Tr.get _ b = _
      rw [Tr.get_set_ne _ _ (fun hc => by rw [hc, hb] at h; cases h)]; exact h
    · cases e
  · rename_i t x y
    simp only [opK] at e
    unfold makeSliceK at e
    split at e
    · rename_i et _ _ _ _ _ kl n kc m hti h1 h2
      split at e
      · rename_i _ _ _ bytes _ el hte
        split at e
        · cases e
        · rename_i hb
          cases hc : decide (0 ≤ n ∧ n ≤ m)
          · rw [hc] at e; cases e
          · rw [hc] at e
            simp only [cond_true] at e
            cases hrm : room m.toNat bytes
            · rw [hrm] at e; cases e
            · rw [hrm] at e
              simp only [cond_true] at e
              refine ⟨_, _, _, e, ⟨fun _ _ h => h, fun b ls h => ?_⟩, fun hev _ _ _ h3 => by
                simp only [opK]; rw [hsame hev x (by simp [Op.operands]), hsame hev y (by simp [Op.operands])]
                simp only [makeSliceK, hti, h1, h2, hte, hb, hc, hrm, cond_true]; exact h3⟩
              show Tr.get _ b = _
              simp only [St.newArr]
              rw [Tr.get_set_ne _ _ (fun hc => by
                rw [hc] at h
                rw [hb] at h; cases h)]; exact h
      · cases e
    · cases e
  · cases hf

theorem fresh_oper (hf : freshOp o = true) (hl : st.Low) {K : St → Option R} (e : evOper ty Γ ops o st K = some r) :
    ∃ box' arr' s, K ((⟨st.n, st.env, box', arr'⟩ : St).put o.dst s) = some r ∧ st.Ext ⟨st.n, st.env, box', arr'⟩ ∧ ∀ {env' : Tr Slot}, (∀ t ∈ looks ops o, env'.get t = st.env.get t) → (∀ t s, env'.get t = some s → t < 65000) → ∀ {R' : Type} {K' : St → Option R'} {r' : R'}, K' ((⟨st.n, env', box', arr'⟩ : St).put o.dst s) = some r' → evOper ty Γ ops o ⟨st.n, env', st.box, st.arr⟩ K' = some r' := by
  unfold evOper at e
  cases hd : Nat.blt (o.dst.getD 0) st.n
  · rw [hd] at e; cases e
  · rw [hd] at e
    simp only [cond_true] at e
    split at e
    · rename_i hg
      obtain ⟨b', a', s, h1, h0, h2⟩ := fresh_op hf e
      refine ⟨b', a', s, h1, h0, fun {env'} hev hl' _ K' _ h3 => ?_⟩
      unfold evOper
      simp only
      rw [hd, hg]
      exact h2 (fun t ht => hev t (looks_tmps ht)) (k' := fun st s => putK st o.dst s K') h3
    · rename_i j b hg
      split at e
      · cases e
      · rename_i g hj
        split at e
        · rename_i x hx
          have fin : ∀ y : Bool, x = y → (y == b) = true → (opK ty Γ o (st.setEnv g (.lf (.bool y))) fun st s => putK st o.dst s K) = some r → ∃ box' arr' s, K ((⟨st.n, st.env, box', arr'⟩ : St).put o.dst s) = some r ∧ st.Ext ⟨st.n, st.env, box', arr'⟩ ∧ ∀ {env' : Tr Slot}, (∀ t ∈ looks ops o, env'.get t = st.env.get t) → (∀ t s, env'.get t = some s → t < 65000) → ∀ {R' : Type} {K' : St → Option R'} {r' : R'}, K' ((⟨st.n, env', box', arr'⟩ : St).put o.dst s) = some r' → evOper ty Γ ops o ⟨st.n, env', st.box, st.arr⟩ K' = some r' := by
            intro y hxy hyb e
            subst hxy
            rw [setEnv_same hl hx] at e
            obtain ⟨b', a', s, h1, h0, h2⟩ := fresh_op hf e
            refine ⟨b', a', s, h1, h0, fun {env'} hev hl' _ K' _ h3 => ?_⟩
            have hx' : env'.get g = some (.lf (.bool x)) := (hev g (looks_guard hg hj)).trans hx
            have h4 := h2 (fun t ht => hev t (looks_tmps ht)) (k' := fun st s => putK st o.dst s K') h3
            unfold evOper
            simp only
            rw [hd, hg]
            simp only [cond_true, hj, hx']
            rw [← setEnv_same (st := ⟨st.n, env', st.box, st.arr⟩) hl' hx'] at h4
            cases x <;> cases b <;> first | exact h4 | cases hyb
          have fin2 : ∀ y : Bool, x = y → (y == b) = false → putK (st.setEnv g (.lf (.bool y))) o.dst (.tp []) K = some r → ∃ box' arr' s, K ((⟨st.n, st.env, box', arr'⟩ : St).put o.dst s) = some r ∧ st.Ext ⟨st.n, st.env, box', arr'⟩ ∧ ∀ {env' : Tr Slot}, (∀ t ∈ looks ops o, env'.get t = st.env.get t) → (∀ t s, env'.get t = some s → t < 65000) → ∀ {R' : Type} {K' : St → Option R'} {r' : R'}, K' ((⟨st.n, env', box', arr'⟩ : St).put o.dst s) = some r' → evOper ty Γ ops o ⟨st.n, env', st.box, st.arr⟩ K' = some r' := by
            intro y hxy hyb e
            subst hxy
            rw [setEnv_same hl hx] at e
            refine ⟨st.box, st.arr, .tp [], e, St.Ext.refl _, fun {env'} hev hl' _ K' _ h3 => ?_⟩
            have hx' : env'.get g = some (.lf (.bool x)) := (hev g (looks_guard hg hj)).trans hx
            unfold evOper
            simp only
            rw [hd, hg]
            simp only [cond_true, hj, hx']
            have h4 : putK (⟨st.n, env', st.box, st.arr⟩ : St) o.dst (.tp []) K' = _ := h3
            rw [← setEnv_same (st := ⟨st.n, env', st.box, st.arr⟩) hl' hx'] at h4
            cases x <;> cases b <;> first | exact h4 | cases hyb
          cases x <;> cases b <;> simp only [cond_true, cond_false] at e
          · exact fin false rfl rfl e
          · exact fin2 false rfl rfl e
          · exact fin2 true rfl rfl e
          · exact fin true rfl rfl e
        · rename_i hx
          refine ⟨st.box, st.arr, .tp [], e, St.Ext.refl _, fun {env'} hev hl' _ K' _ h3 => ?_⟩
          have hx' : env'.get g = some (.tp []) := (hev g (looks_guard hg hj)).trans hx
          unfold evOper
          simp only
          rw [hd, hg]
          simp only [cond_true, hj, hx']
          exact h3
        · cases e

theorem apartD_spec {x : Option Tmp} {l : List Tmp} (h : apartD x l = true) : ∀ t ∈ l, ∀ d, x = some d → t ≠ d := by
  intro t ht d hd e
  subst hd; subst e
  simp only [apartD, Bool.not_eq_true', List.any_eq_false] at h
  exact h t ht (by simp)

theorem put_comm {x y : Option Tmp} {s u : Slot} (h : ∀ d, x = some d → y ≠ some d) : (st.put x s).put y u = (st.put y u).put x s := by
  cases x with
  | none => cases y <;> rfl
  | some d =>
    cases y with
    | none => rfl
    | some e =>
      have hne : d ≠ e := fun he => h d rfl (he ▸ rfl)
      simp only [St.put]
      rw [Tr.set_comm _ _ _ hne]

/-- TWO NEIGHBOURS CHANGE PLACES. -/
theorem swap_ok (hΓc : ∀ f x, Γ f = some x → x.calm = true → CalmSum x.g) {x y : Oper} (hs : swapOk Γ ops x y = true) (hl : st.Low) {K : St → Option R}
    (e : evOper ty Γ ops x st (fun st => evOper ty Γ ops y st K) = some r) : evOper ty Γ ops y st (fun st => evOper ty Γ ops x st K) = some r := by
  unfold swapOk at hs
  simp only [Bool.and_eq_true] at hs
  obtain ⟨⟨h1, h2⟩, h3, h4, h5, h6⟩ := hs
  have hx65 : x.dst.getD 0 < 65000 := Nat.le_of_ble_eq_true h5
  have hy65 : y.dst.getD 0 < 65000 := Nat.le_of_ble_eq_true h6
  have a1 := apartD_spec h3
  have a2 := apartD_spec h4
  have hne : ∀ d, x.dst = some d → y.dst ≠ some d := fun d hd hy => a1 d (List.mem_append_right _ (by rw [hy]; simp)) d hd rfl
  have hne' : ∀ d, y.dst = some d → x.dst ≠ some d := fun d hd hx => hne d hx hd
  obtain ⟨s, k1, k2⟩ := calm_oper hΓc h1 hl e
  have hl1 := Low.put (s := s) hx65 hl
  have ly : ∀ t ∈ looks ops y, (st.put x.dst s).env.get t = st.env.get t := fun t ht => put_get fun d hd => a1 t (List.mem_append_left _ ht) d hd
  simp only [Bool.or_eq_true] at h2
  rcases h2 with h2 | h2
  · obtain ⟨u, k3, k4⟩ := calm_oper hΓc h2 hl1 k1
    refine k4 Ext.unput (put_n _ _).symm (fun t ht => (ly t ht).symm) hl ?_
    refine k2 (Ext.put (d := none) (s := s) (St.Ext.refl st)) (put_n _ _) (fun t ht => put_get fun d hd => a2 t ht d hd) (Low.put hy65 hl) ?_
    rw [← put_comm hne]; exact k3
  · obtain ⟨b', a', u, k3, k5, k4⟩ := fresh_oper h2 hl1 k1
    have k6 := @k4 st.env (fun t ht => (ly t ht).symm) hl R (fun st => evOper ty Γ ops x st K) r
    rw [put_n, put_box, put_arr] at k6
    refine k6 ?_
    have hst : (⟨st.n, (st.put x.dst s).env, b', a'⟩ : St) = (⟨st.n, st.env, b', a'⟩ : St).put x.dst s := by cases x.dst <;> rfl
    refine k2 (st' := (⟨st.n, st.env, b', a'⟩ : St).put y.dst u) ⟨fun b ls hb => ?_, fun i r hi => ?_⟩ (put_n _ _) (fun t ht => put_get (st := ⟨st.n, st.env, b', a'⟩) fun d hd => a2 t ht d hd) (Low.put hy65 (show St.Low ⟨st.n, st.env, b', a'⟩ from hl)) ?_
    · rw [put_box]; exact k5.box b ls (by rw [put_box]; exact hb)
    · rw [put_arr]; exact k5.arr i r (by rw [put_arr]; exact hi)
    · rw [put_n] at k3
      rw [hst] at k3
      rw [← put_comm hne]; exact k3
end
end Go.Ev

namespace Go.Ev

section
variable {P : Program} {ty : Ty} {C : Cx} {G : Gh} {st : St} {a : Act} {w : World} {R : Type} {r : R} {Γ : FuncId → Option SumX} {ops : Array Oper} {Q : Exit → Act → World → Prop}

theorem Rel.low (h : Rel C G st a w) : st.Low := fun t s ht => by have := (h.env t s ht).1; have := h.n; omega

theorem bindsOn_of {i j : Nat} {o : Oper} (hj : ops[j]? = some o) {e : Edge} (he : e ∈ o.after) (hb : Region.binds .any e = true) (hon : e.on = i) : bindsOn ops i j = true := by
  simp only [bindsOn, hj, List.any_eq_true, Bool.and_eq_true, beq_iff_eq]
  exact ⟨e, by simpa using he, hb, hon⟩
theorem of_bindsOn {i j : Nat} (h : bindsOn ops i j = true) : ∃ o, ops[j]? = some o ∧ ∃ e ∈ o.after, Region.binds .any e = true ∧ e.on = i := by
  unfold bindsOn at h
  split at h
  · rename_i o ho
    simp only [List.any_eq_true, Bool.and_eq_true, beq_iff_eq] at h
    obtain ⟨e, he, h1, h2⟩ := h
    exact ⟨o, ho, e, by simpa using he, h1, h2⟩
  · cases h

/-- What is listed has all listed that it stands behind. -/
def Closed (ops : Array Oper) (listed : Array Bool) : Prop := ∀ i j, bindsOn ops i j = true → listed.getD j false = true → listed.getD i false = true

theorem ordd_closed {listed : Array Bool} (hc : Closed ops listed) : ∀ {f i j : Nat}, ordd ops f i j = true → (∀ k, bindsOn ops k j = true → listed.getD k false = true) → listed.getD i false = true
  | 0, i, j, h, _ => by simp [ordd] at h
  | f + 1, i, j, h, hj => by
    simp only [ordd, Bool.or_eq_true, List.any_eq_true, Bool.and_eq_true] at h
    rcases h with h | ⟨k, _, h1, h2⟩
    · exact hj i h
    · exact hc i k h1 (ordd_closed hc h2 hj)

theorem drawOk_spec (h : drawOk Γ ops = true) : ∀ {j : Nat}, j < ops.size → ∃ oj, ops[j]? = some oj ∧ (∀ i, bindsOn ops i j = true → i < j) ∧ ∀ i, i < j → ∃ oi, ops[i]? = some oi ∧ (swapOk Γ ops oi oj = true ∨ ordd ops 8 i j = true) := by
  intro j hj
  have h1 := List.all_eq_true.1 h j (by simpa using hj)
  have hoj : ops[j]? = some ops[j] := Array.getElem?_eq_getElem hj
  rw [hoj] at h1
  simp only [Bool.and_eq_true] at h1
  refine ⟨_, hoj, fun i hb => ?_, fun i hi => ?_⟩
  · obtain ⟨o, ho, e, he, hbe, hon⟩ := of_bindsOn hb
    rw [hoj] at ho; cases ho
    have := List.all_eq_true.1 h1.1 e (by simpa using he)
    rw [hbe] at this
    simp only [Bool.not_true, Bool.false_or] at this
    have := Nat.le_of_ble_eq_true this
    omega
  · have h2 := List.all_eq_true.1 h1.2 i (by simpa using hi)
    have hoi : ops[i]? = some ops[i] := Array.getElem?_eq_getElem (by omega)
    rw [hoi] at h2
    simp only [Bool.or_eq_true] at h2
    exact ⟨_, hoi, h2⟩

/-- The operations at these places. -/
def atL (ops : Array Oper) (l : List Nat) : List Oper := l.filterMap (ops[·]?)

theorem bubble (hΓc : ∀ f x, Γ f = some x → x.calm = true → CalmSum x.g) {oi : Oper} : ∀ {pre : List Oper} {post : List Oper} {st : St} {K : St → Option R}, (∀ x ∈ pre, swapOk Γ ops x oi = true) → (∀ x ∈ pre, x.dst.getD 0 < 65000) → st.Low →
    evOps ty Γ ops (pre ++ oi :: post) st K = some r → evOps ty Γ ops (oi :: (pre ++ post)) st K = some r
  | [], post, st, K, _, _, _, e => e
  | x :: pre, post, st, K, hs, hd, hl, e => by
    -- x first, then the others: oi comes ahead of them behind x
    have hsx := hs x (by simp)
    have hcx : calmOp Γ x = true := by unfold swapOk at hsx; simp only [Bool.and_eq_true] at hsx; exact hsx.1.1
    have e1 : evOper ty Γ ops x st (fun st => evOper ty Γ ops oi st fun st => evOps ty Γ ops (pre ++ post) st K) = some r := by
      have e0 : evOper ty Γ ops x st (fun st => evOps ty Γ ops (pre ++ oi :: post) st K) = some r := e
      obtain ⟨s, h1, h2⟩ := calm_oper hΓc hcx hl e0
      refine h2 (St.Ext.refl st) rfl (fun _ _ => rfl) hl ?_
      exact bubble hΓc (fun y hy => hs y (by simp [hy])) (fun y hy => hd y (by simp [hy])) (Low.put (hd x (by simp)) hl) h1
    exact swap_ok hΓc hsx hl e1

/-- EACH ORDER DOES AS THE TEXT'S DOES. -/
theorem ok_any (hty : TyOk P ty) (hΓ : GOk P Γ) (hdr : drawOk Γ ops = true) {K : St → Option R} : ∀ (fuel : Nat) {listed : Array Bool} {rest : List Nat} {G : Gh} {st : St} {a : Act} {w : World}, listed.size = ops.size → rest.length ≤ fuel →
    (∀ i, i ∈ rest ↔ i < ops.size ∧ listed.getD i true = false) → rest.Pairwise (· < ·) → Closed ops listed → Rel C G st a w → evOps ty Γ ops (atL ops rest) st K = some r →
    (∀ G' st' a' w', Rel C G' st' a' w' → st'.n = st.n → K st' = some r → Q .normal a' w') → wpAny P .any ops Q fuel listed a w := by
  intro fuel
  have hΓc : ∀ f x, Γ f = some x → x.calm = true → CalmSum x.g := fun f x h => (hΓ f x h).2
  have hnil : ∀ {listed : Array Bool} {rest : List Nat}, listed.size = ops.size → (∀ i, i ∈ rest ↔ i < ops.size ∧ listed.getD i true = false) → rest.Pairwise (· < ·) → Region.ready .any ops listed = [] → rest = [] := by
    intro listed rest hsz hmem hsrt hr
    cases rest with
    | nil => rfl
    | cons i l =>
      exfalso
      obtain ⟨hi, hli⟩ := (hmem i).1 (by simp)
      obtain ⟨oi, hoi, hfw, _⟩ := drawOk_spec hdr hi
      have : i ∈ Region.ready .any ops listed := mem_ready.2 ⟨hli, oi, hoi, fun e he hb => by
        have h1 := hfw e.on (bindsOn_of hoi he hb rfl)
        by_cases hq : listed.getD e.on true = false
        · have h2 : e.on ∈ i :: l := (hmem e.on).2 ⟨by omega, hq⟩
          rcases List.mem_cons.1 h2 with h2 | h2
          · omega
          · have := List.rel_of_pairwise_cons hsrt h2; omega
        · have hlt : e.on < listed.size := by omega
          simp only [Array.getD_eq_getD_getElem?, Array.getElem?_eq_getElem hlt, Option.getD_some] at hq ⊢
          simpa using hq⟩
      rw [hr] at this; cases this
  induction fuel with
  | zero =>
    intro listed rest G st a w hsz hlen hmem hsrt hcl h e hK
    have : rest = [] := List.eq_nil_of_length_eq_zero (by omega)
    subst this
    refine ⟨?_, hK G st a w h rfl e⟩
    cases hr : Region.ready .any ops listed with
    | nil => rfl
    | cons i l =>
      have : i ∈ Region.ready .any ops listed := by rw [hr]; simp
      obtain ⟨h1, o, h2, _⟩ := mem_ready.1 this
      have := (hmem i).2 ⟨(Array.getElem?_eq_some_iff.1 h2).1, h1⟩
      cases this
  | succ fuel ih =>
    intro listed rest G st a w hsz hlen hmem hsrt hcl h e hK
    refine ⟨fun hr => ?_, fun i hi => ?_⟩
    · have := hnil hsz hmem hsrt hr
      subst this
      exact hK G st a w h rfl e
    · obtain ⟨hli, oi, hoi, hall⟩ := mem_ready.1 hi
      have hin : i ∈ rest := (hmem i).2 ⟨(Array.getElem?_eq_some_iff.1 hoi).1, hli⟩
      have hisz := (Array.getElem?_eq_some_iff.1 hoi).1
      obtain ⟨pre, post, rfl⟩ := List.append_of_mem hin
      have hpw := List.pairwise_append.1 hsrt
      have hpre : ∀ j ∈ pre, j < i := fun j hj => hpw.2.2 j hj i (by simp)
      have hat : atL ops (pre ++ i :: post) = atL ops pre ++ oi :: atL ops post := by
        simp [atL, List.filterMap_append, hoi]
      have hat2 : atL ops (pre ++ post) = atL ops pre ++ atL ops post := by simp [atL]
      rw [hat] at e
      obtain ⟨_, _, _, hsw⟩ := drawOk_spec hdr hisz
      have hpres : ∀ x ∈ atL ops pre, swapOk Γ ops x oi = true := fun x hx => by
        obtain ⟨j, hj, hxj⟩ := List.mem_filterMap.1 hx
        obtain ⟨oi', hoi', _, hsw⟩ := drawOk_spec hdr hisz
        rw [hoi] at hoi'; cases hoi'
        obtain ⟨oj, hoj, hh⟩ := hsw j (hpre j hj)
        rw [hoj] at hxj; cases hxj
        rcases hh with hh | hh
        · exact hh
        · exfalso
          have := ordd_closed hcl hh (fun k hk => by
            obtain ⟨o', ho', e', he', hb', hon'⟩ := of_bindsOn hk
            rw [hoi] at ho'; cases ho'
            rw [← hon']; exact hall e' he' hb')
          have hj2 := ((hmem j).1 (by simp [hj]))
          have hlt : j < listed.size := by omega
          simp only [Array.getD_eq_getD_getElem?, Array.getElem?_eq_getElem hlt, Option.getD_some] at this hj2
          rw [this] at hj2; cases hj2.2
      have hd65 : ∀ x ∈ atL ops pre, x.dst.getD 0 < 65000 := fun x hx => by
        have := hpres x hx
        unfold swapOk at this
        simp only [Bool.and_eq_true] at this
        exact Nat.le_of_ble_eq_true this.2.2.2.1
      have e2 := bubble hΓc hpres hd65 h.low e
      rw [← hat2] at e2
      have e3 : evOper ty Γ ops oi st (fun st => evOps ty Γ ops (atL ops (pre ++ post)) st K) = some r := e2
      have := ok_oper (Q := Q) hty hΓ (next := wpAny P .any ops Q fuel (listed.setIfInBounds i true)) h (fun G' st' a' w' h1 h2 h3 => by
        refine ih (listed := listed.setIfInBounds i true) (rest := pre ++ post) (by simpa using hsz) (by simp at hlen ⊢; omega) (fun j => ?_) ?_ (fun p q hb hq => ?_) h1 h3 (fun G2 st2 a2 w2 h4 h5 h6 => hK G2 st2 a2 w2 h4 (h5.trans h2) h6)
        · by_cases hji : j = i
          · subst hji
            have : (listed.setIfInBounds j true).getD j true = true := by
              have : j < listed.size := by omega
              simp [Array.getD_eq_getD_getElem?, this]
            rw [this]
            constructor
            · intro hm
              exfalso
              rcases List.mem_append.1 hm with hm | hm
              · have := hpre j hm; omega
              · have := List.rel_of_pairwise_cons hpw.2.1 hm; omega
            · rintro ⟨_, hh⟩; cases hh
          · have : (listed.setIfInBounds i true).getD j true = listed.getD j true := getD_set_ne true (Ne.symm hji)
            rw [this, ← hmem j]
            simp [hji]
        · rw [List.pairwise_append]
          exact ⟨hpw.1, (List.pairwise_cons.1 hpw.2.1).2, fun x hx y hy => hpw.2.2 x hx y (by simp [hy])⟩
        · by_cases hpi : p = i
          · subst hpi
            have : p < listed.size := by omega
            simp [Array.getD_eq_getD_getElem?, this]
          · rw [getD_set_ne false (Ne.symm hpi)]
            by_cases hqi : q = i
            · subst hqi
              obtain ⟨o', ho', e', he', hb', hon'⟩ := of_bindsOn hb
              rw [hoi] at ho'; cases ho'
              rw [← hon']; exact hall e' he' hb'
            · rw [getD_set_ne false (Ne.symm hqi)] at hq
              exact hcl p q hb hq) e3
      unfold wpOp
      rw [hoi]
      exact this
end
end Go.Ev

namespace Go.Ev

def RepV (w : World) (ok : Nat → Prop) (g : Bool) (k : K) (x : k.T) (v : Value) : Prop := ∃ cs, RepT w ok k x cs ∧ ((g = true ∧ v = .agg cs.toArray) ∨ (g = false ∧ cs = [v]))


section
variable {P : Program} {C : Cx} {G : Gh} {st : St} {a : Act} {w w' : World} {ok ok' : Nat → Prop}

theorem RepV.trans {g : Bool} {k : K} {x : k.T} {v : Value} (H : Keeps w w' ok ok') (h : RepV w ok g k x v) : RepV w' ok' g k x v := by
  obtain ⟨cs, h1, h2⟩ := h; exact ⟨cs, h1.trans H, h2⟩

theorem RepT.flat {k : K} {x : k.T} {cs : List Value} (hf : k.flat = true) (h : RepT w ok k x cs) : RepT w ok' k x cs := (h.own hf).rep (by simp)
theorem RepV.flat {g : Bool} {k : K} {x : k.T} {v : Value} (hf : k.flat = true) (h : RepV w ok g k x v) : RepV w ok' g k x v := by
  obtain ⟨cs, h1, h2⟩ := h; exact ⟨cs, h1.flat hf, h2⟩

theorem leaf1_rep {k : K} {x : k.T} {v : Value} (h : RepT w ok k x [v]) : RepLeaf w ok G (leaf1 (k.lv x)) v := by
  have h1 : RepLeafs w ok G (k.lv x) [v] := h.lv
  have hl := K.lv_length k x
  have h2 := h1.length
  cases hls : k.lv x with
  | nil => rw [hls] at h2; simp at h2
  | cons l ls =>
    cases ls with
    | nil => rw [hls] at h1; exact h1.1
    | cons l' ls => rw [hls] at h2; simp at h2

theorem mkS_rep {g : Bool} {k : K} {x : k.T} {v : Value} (h : RepV w ok g k x v) : RepSlot w ok G (mkS g k x) v := by
  obtain ⟨cs, h1, ⟨rfl, rfl⟩ | ⟨rfl, rfl⟩⟩ := h
  · exact ⟨cs, rfl, h1.lv⟩
  · exact leaf1_rep h1

theorem rep_agg {s : Slot} {v : Value} (hs : RepSlot w ok G s v) (hne : s.leafs ≠ []) {k : K} {x : k.T} (hr : RepT w ok' k x v.cells.toList) : RepV w ok' s.isAg k x v := by
  refine ⟨_, hr, ?_⟩
  cases s with
  | lf l =>
    right
    exact ⟨rfl, cells_one (RepLeaf.one (show RepLeaf w ok G l v from hs))⟩
  | ag ls =>
    left
    obtain ⟨vs, rfl, _⟩ := hs
    exact ⟨rfl, by simp [Value.cells]⟩
  | _ => simp [Slot.leafs] at hne

theorem fixLeaf_rep (h : Rel C G st a w) {f l : Leaf} {v : Value} (hl : RepLeaf w (G.ok C) G l v) (e : fixLeaf st f l = true) : RepLeaf w (G.ok C) G f v := by
  unfold fixLeaf at e
  split at e
  · rename_i i j
    have hij : i = j := by simpa using e
    subst hij; exact hl
  · rename_i i
    split at e
    · rename_i re rd hr
      obtain ⟨ai, hA, ha⟩ := h.mem.arrR i _ hr
      have hn : ai.n = 0 := by have := ha.n; simpa using this
      have hv : v = .slice none 0 0 := hl
      exact ⟨ai, none, 0, hA, by rw [hv, hn], by omega, fun h0 => by omega⟩
    · cases e
  · simp only [Bool.and_eq_true, beq_iff_eq] at e
    obtain ⟨rfl, rfl⟩ := e; exact hl
  · simp only [Bool.and_eq_true, beq_iff_eq] at e
    obtain ⟨rfl, rfl⟩ := e; exact hl
  · simp only [Bool.and_eq_true, beq_iff_eq] at e
    obtain ⟨⟨rfl, rfl⟩, rfl, rfl⟩ := e; exact hl
  · exact hl
  · exact hl
  · exact hl
  · exact hl
  · exact hl
  · obtain ⟨p, _, hp⟩ := hl; exact ⟨_, _, hp⟩
  · exact hl.one
  · cases e

theorem fixLeaf_no_sl {st : St} {f l : Leaf} (e : fixLeaf st f l = true) : ∀ k x b, f ≠ .sl k x b := by
  intro k x b hf
  subst hf
  simp [fixLeaf] at e


theorem rdSS_rep0 (h : Rel C G st a w) {s : SS} {sl : Slot} {v : Value} {x : s.T} (hs : RepSlot w (G.ok C) G sl v) (e : rdSS st s sl = some x) : RepSlot w (G.ok C) G (mkSS s x) v := by
  cases s with
  | val g k =>
    simp only [rdSS] at e
    cases hg : (sl.isAg == g)
    · rw [hg] at e; cases e
    · rw [hg] at e
      simp only [cond_true] at e
      have hg' : sl.isAg = g := by simpa using hg
      have hne : sl.leafs ≠ [] := fun hc => by rw [hc, K.rd_nil] at e; cases e
      have hr := rep_agg hs hne ((leafs_rep' hs hne).rd e)
      rw [hg'] at hr
      exact mkS_rep hr
  | rp k =>
    simp only [rdSS] at e
    split at e
    · rename_i ls
      obtain ⟨ad, h3, h4, cs, h5, h6⟩ := hs
      have hrt := (h5.take k.sz).rd e
      have hne : ls ≠ [] := fun hc => by rw [hc, List.take_nil, K.rd_nil] at e; cases e
      refine ⟨ad, h3, fun _ => h4 hne, cs.take k.sz, hrt.lv, fun j c hj => h6 j c ?_⟩
      rw [List.getElem?_take] at hj; split at hj
      · exact hj
      · cases hj
    · cases e
  | fix f =>
    simp only [rdSS] at e
    cases hfx : fixSlot st f sl
    · rw [hfx] at e; cases e
    · unfold fixSlot at hfx
      split at hfx
      · exact fixLeaf_rep h hs hfx
      · trivial
      · cases hfx
end

section
variable {P : Program} {ty : Ty} {C : Cx} {G : Gh} {st : St} {a : Act} {w : World} {R : Type} {r : R} {Γ : FuncId → Option SumX} {ops : Array Oper} {Q : Exit → Act → World → Prop}

theorem calm_ops (hΓc : ∀ f x, Γ f = some x → x.calm = true → CalmSum x.g) : ∀ {os : List Oper} {st : St} {K : St → Option R}, (∀ o ∈ os, calmOp Γ o = true ∧ o.dst.getD 0 < 65000) → st.Low → evOps ty Γ ops os st K = some r →
    ∃ st', K st' = some r ∧ st'.n = st.n ∧ st'.box = st.box ∧ st'.arr = st.arr ∧ (∀ t, (∀ o ∈ os, o.dst ≠ some t) → st'.env.get t = st.env.get t) ∧ ∀ {R' : Type} {K' : St → Option R'} {r' : R'}, K' st' = some r' → evOps ty Γ ops os st K' = some r'
  | [], st, K, _, _, e => ⟨st, e, rfl, rfl, rfl, fun _ _ => rfl, fun h => h⟩
  | o :: os, st, K, ho, hl, e => by
    have e0 : evOper ty Γ ops o st (fun st => evOps ty Γ ops os st K) = some r := e
    obtain ⟨hc, hd⟩ := ho o (by simp)
    obtain ⟨s, h1, h2⟩ := calm_oper hΓc hc hl e0
    obtain ⟨st', g1, g2, g3, g4, g5, g6⟩ := calm_ops hΓc (fun x hx => ho x (by simp [hx])) (Low.put hd hl) h1
    refine ⟨st', g1, g2.trans (put_n _ _), g3.trans (put_box _ _), g4.trans (put_arr _ _), fun t ht => ?_, fun h3 => ?_⟩
    · rw [g5 t fun x hx => ht x (by simp [hx])]
      exact put_get fun x hx e => ht o (by simp) (e ▸ hx)
    · exact h2 (St.Ext.refl st) rfl (fun _ _ => rfl) hl (K' := fun st => evOps ty Γ ops os st _) (g6 h3)

theorem dropEnv_get : ∀ {os : List Oper} {t : Tr Slot} {i : Nat} {s : Slot}, (∀ o ∈ os, o.dst.getD 0 < 65000) → (dropEnv os t).get i = some s → (∀ o ∈ os, o.dst ≠ some i) ∧ t.get i = some s
  | [], t, i, s, _, h => ⟨fun _ h => (by cases h), h⟩
  | o :: os, t, i, s, hd, h => by
    unfold dropEnv at h
    split at h
    · rename_i d hdst
      have hd0 : d < 65000 := by have := hd o (by simp); rw [hdst] at this; exact this
      by_cases e : i = d
      · subst e; rw [Tr.get_set_same _ _ hd0] at h; cases h
      · rw [Tr.get_set_ne _ _ e] at h
        obtain ⟨h1, h2⟩ := dropEnv_get (fun x hx => hd x (by simp [hx])) h
        refine ⟨fun x hx => ?_, h2⟩
        rcases List.mem_cons.1 hx with rfl | hx
        · rw [hdst]; exact fun hc => e (Option.some.inj hc).symm
        · exact h1 x hx
    · rename_i hdst
      obtain ⟨h1, h2⟩ := dropEnv_get (fun x hx => hd x (by simp [hx])) h
      refine ⟨fun x hx => ?_, h2⟩
      rcases List.mem_cons.1 hx with rfl | hx
      · rw [hdst]; exact fun hc => by cases hc
      · exact h1 x hx

theorem addEnv_get {st : St} : ∀ {l : List (Nat × SS)} {x : EArgs l} {t0 : Tr Slot} {t : Nat} {s' : Slot}, l.all (fun q => Nat.blt q.1 65000) = true → rdEnv st l = some x → (addEnv l x t0).get t = some s' →
    (∃ q ∈ l, ∃ sl y, q.1 = t ∧ st.env.get t = some sl ∧ rdSS st q.2 sl = some y ∧ s' = mkSS q.2 y) ∨ t0.get t = some s'
  | [], x, t0, t, s', _, _, e => .inr e
  | p :: l, x, t0, t, s', hl, hr, e => by
    simp only [List.all_cons, Bool.and_eq_true] at hl
    simp only [rdEnv] at hr
    split at hr
    · rename_i sl hsl
      split at hr
      · rename_i y hy
        split at hr
        · rename_i ys h2
          cases hr
          simp only [addEnv] at e
          by_cases et : t = p.1
          · subst et
            rw [Tr.get_set_same _ _ (Nat.le_of_ble_eq_true hl.1)] at e; cases e
            exact .inl ⟨p, by simp, sl, y, rfl, hsl, hy, rfl⟩
          · rw [Tr.get_set_ne _ _ et] at e
            rcases addEnv_get hl.2 h2 e with ⟨q, h3, h4⟩ | h3
            · exact .inl ⟨q, by simp [h3], h4⟩
            · exact .inr h3
        · cases hr
      · cases hr
    · cases hr

theorem wpReg (hty : TyOk P ty) (hm : P.follows .mixedOrders = true) (hΓ : GOk P Γ) {id : Nat} {draw : Bool} (hdr : (!draw || drawOk Γ ops) = true) {K : St → Option R} (h : Rel C G st a w)
    (hK : ∀ G' st' a' w', Rel C G' st' a' w' → st'.n = st.n → K st' = some r → Q .normal a' w') (e : evOps ty Γ ops ops.toList st K = some r) : (Code.region id ops draw).wp P Q a w := by
  cases draw with
  | false => exact wp_region_list (ok_ops hty hΓ h hK e)
  | true =>
    have hdr' : drawOk Γ ops = true := by simpa using hdr
    refine wp_region_any hm ?_
    have hat : atL ops (List.range ops.size) = ops.toList := by
      apply List.ext_getElem?
      intro i
      have : atL ops (List.range ops.size) = ops.toList := by
        have h1 : ∀ (l : List Oper) (k : Nat), (∀ j, l[j]? = ops[k + j]?) → atL ops (List.range' k l.length) = l := by
          intro l
          induction l with
          | nil => intro k _; rfl
          | cons o l ih =>
            intro k hk
            have h0 : ops[k]? = some o := by simpa using (hk 0).symm
            have := ih (k + 1) (fun j => by have := hk (j + 1); simpa [Nat.add_assoc, Nat.add_comm 1 j] using this)
            simp only [atL, List.length_cons, List.range'_succ, List.filterMap_cons, h0] at this ⊢
            rw [this]
        have := h1 ops.toList 0 (by simp)
        rwa [← List.range_eq_range', Array.length_toList] at this
      rw [this]
    refine ok_any (st := st) hty hΓ hdr' ops.size (rest := List.range ops.size) (by simp) (by simp) (fun i => ?_) List.pairwise_lt_range (fun i j _ hj => ?_) (h.drawn (w.drawn + 1)) (by rw [hat]; exact e) hK
    · simp only [List.mem_range]
      constructor
      · intro hi; exact ⟨hi, by simp [hi]⟩
      · exact fun h => h.1
    · exfalso
      by_cases hjs : j < ops.size
      · simp [hjs] at hj
      · simp [hjs] at hj

theorem ok_region (hty : TyOk P ty) (hm : P.follows .mixedOrders = true) (hΓ : GOk P Γ) {J : Nat → Option (List (Nat × SS))} {id : Nat} {draw : Bool} (hdr : (!draw || drawOk Γ ops) = true) {K : St → Option R} (h : Rel C G st a w)
    (hK : ∀ G' st' a' w', Rel C G' st' a' w' → st'.n = st.n → K st' = some r → Q .normal a' w') (e : evReg ty Γ J id ops st K = some r) : (Code.region id ops draw).wp P Q a w := by
  unfold evReg at e
  split at e
  · rename_i ds _
    unfold evJoin at e
    cases hc : (ops.toList.all (fun o => calmOp Γ o && Nat.blt (o.dst.getD 0) 65000) && ds.all (fun p => Nat.blt p.1 65000))
    · rw [hc] at e; cases e
    · rw [hc] at e
      simp only [cond_true] at e
      simp only [Bool.and_eq_true] at hc
      obtain ⟨y, e1, e2⟩ := Option.bind_eq_some_iff.1 e
      have hall : ∀ o ∈ ops.toList, calmOp Γ o = true ∧ o.dst.getD 0 < 65000 := fun o ho => by
        have := List.all_eq_true.1 hc.1 o ho
        simp only [Bool.and_eq_true] at this
        exact ⟨this.1, Nat.le_of_ble_eq_true this.2⟩
      obtain ⟨st1, g1, g2, g3, g4, g5, g6⟩ := calm_ops (fun f x h => (hΓ f x h).2) hall h.low e1
      have key := g6 (R' := Unit) (K' := fun s => open Classical in if s = st1 then some () else none) (r' := ()) (by simp)
      refine wpReg hty hm hΓ hdr h (fun G' st' a' w' h1 h2 h3 => ?_) key
      have hst : st' = st1 := by
        by_cases hh : st' = st1
        · exact hh
        · simp [hh] at h3
      subst hst
      refine hK G' { st with env := addEnv ds y (dropEnv ops.toList st.env) } a' w' ⟨h1.size.trans h2, h.n, h1.dfr, fun t s ht => ?_, ?_, h1.fr⟩ rfl e2
      · rcases addEnv_get hc.2 g1 ht with ⟨q, hq, sl, u, rfl, q1, q2, rfl⟩ | hh
        · obtain ⟨hlt, hs⟩ := h1.env _ _ q1
          exact ⟨by show q.1 < st.n; rw [← h2]; exact hlt, rdSS_rep0 h1 hs q2⟩
        · obtain ⟨q1, q2⟩ := dropEnv_get (fun o ho => (hall o ho).2) hh
          rw [← g5 t q1] at q2
          obtain ⟨hlt, hs⟩ := h1.env _ _ q2
          exact ⟨by show t < st.n; rw [← h2]; exact hlt, hs⟩
      · have := h1.mem
        rw [g3, g4] at this
        exact this
  · exact wpReg hty hm hΓ hdr h hK e

def Ex.exit' : Ex → Exit
  | .normal => .normal
  | .exit i => .exit i
  | .ret => .ret

/-- What a summary says of a loop is so. -/
def LSumOk (P : Program) (b : Code) (L : LSum) : Prop :=
  ∀ {C : Cx} {G : Gh} {st : St} {a : Act} {w : World} {R : Type} {K : Ex → St → Option R} {r : R} {Q : Exit → Act → World → Prop}, Rel C G st a w →
    (∀ ex G' st' a' w', Rel C G' st' a' w' → st'.n = st.n → K ex st' = some r → Q ex.exit' a' w') → L st R K = some r → (Code.loop b).wp P Q a w

/-- The loops of a code that lie in no other. -/
def loops : Code → List Code
  | .seq a b | .cond _ a b => loops a ++ loops b
  | .block _ a => loops a
  | .loop a => [a]
  | _ => []

theorem ok_code (hty : TyOk P ty) (hm : P.follows .mixedOrders = true) {J : Nat → Option (List (Nat × SS))} {Γ : FuncId → Option SumX} (hΓ : GOk P Γ) {Λ : Nat → Option LSum} : ∀ {c : Code} {G : Gh} {st : St} {a : Act} {w : World} {R : Type} {K : Ex → St → Option R} {r : R} {Q : Exit → Act → World → Prop},
    (∀ b ∈ loops c, ∀ L, (firstRegion b).bind Λ = some L → LSumOk P b L) → Rel C G st a w →
    (∀ ex G' st' a' w', Rel C G' st' a' w' → st'.n = st.n → K ex st' = some r → Q ex.exit' a' w') → evCode ty Γ J Λ c st K = some r → c.wp P Q a w
  | .skip, G, st, a, w, R, K, r, Q, hΛ, h, hK, e => wp_skip (hK .normal G st a w h rfl e)
  | .region id ops draw, G, st, a, w, R, K, r, Q, hΛ, h, hK, e => by
    unfold evCode at e
    cases hdr : (!draw || drawOk Γ ops)
    · rw [hdr] at e; cases e
    · rw [hdr] at e
      simp only [cond_true] at e
      exact ok_region hty hm hΓ hdr h (fun G' st' a' w' h1 h2 h3 => hK .normal G' st' a' w' h1 h2 h3) e
  | .seq x y, G, st, a, w, R, K, r, Q, hΛ, h, hK, e => by
    unfold evCode at e
    refine wp_seq (ok_code hty hm hΓ (fun b hb => hΛ b (by simp [loops, hb])) h (fun ex G' st' a' w' h1 h2 h3 => ?_) e)
    cases ex with
    | normal => exact ok_code hty hm hΓ (fun b hb => hΛ b (by simp [loops, hb])) h1 (fun ex G2 st2 a2 w2 h4 h5 h6 => hK ex G2 st2 a2 w2 h4 (h5.trans h2) h6) h3
    | exit i => exact hK (.exit i) G' st' a' w' h1 h2 h3
    | ret => exact hK .ret G' st' a' w' h1 h2 h3
  | .cond c x y, G, st, a, w, R, K, r, Q, hΛ, h, hK, e => by
    unfold evCode at e
    split at e
    · rename_i t
      split at e
      · rename_i b hb
        obtain ⟨hlt, hv⟩ := h.env t _ hb
        have hv' : a.eval (.tmp t) = .bool b := hv
        have hst : Rel C G (st.setEnv t (.lf (.bool b))) a w := h.setEnv hlt hv
        cases b
        · exact wp_cond_false hv' (ok_code hty hm hΓ (fun b hb => hΛ b (by simp [loops, hb])) hst hK e)
        · exact wp_cond_true hv' (ok_code hty hm hΓ (fun b hb => hΛ b (by simp [loops, hb])) hst hK e)
      · cases e
    · rename_i b
      cases b
      · exact wp_cond_false rfl (ok_code hty hm hΓ (fun b hb => hΛ b (by simp [loops, hb])) h hK e)
      · exact wp_cond_true rfl (ok_code hty hm hΓ (fun b hb => hΛ b (by simp [loops, hb])) h hK e)
    · cases e
  | .block id x, G, st, a, w, R, K, r, Q, hΛ, h, hK, e => by
    unfold evCode at e
    refine wp_block (ok_code hty hm hΓ (fun b hb => hΛ b (by simpa [loops] using hb)) h (fun ex G' st' a' w' h1 h2 h3 => ?_) e)
    cases ex with
    | normal => exact hK .normal G' st' a' w' h1 h2 h3
    | exit i =>
      show if i = id then Q .normal a' w' else Q (.exit i) a' w'
      cases hi : (i == id)
      · simp only [hi, cond_false] at h3
        rw [if_neg (by simpa using hi)]
        exact hK (.exit i) G' st' a' w' h1 h2 h3
      · simp only [hi, cond_true] at h3
        rw [if_pos (by simpa using hi)]
        exact hK .normal G' st' a' w' h1 h2 h3
    | ret => exact hK .ret G' st' a' w' h1 h2 h3
  | .loop x, G, st, a, w, R, K, r, Q, hΛ, h, hK, e => by
    unfold evCode at e
    split at e
    · rename_i L hL
      exact hΛ x (by simp [loops]) L hL h hK e
    · cases e
  | .exit id, G, st, a, w, R, K, r, Q, hΛ, h, hK, e => wp_exit (hK (.exit id) G st a w h rfl e)
  | .ret, G, st, a, w, R, K, r, Q, hΛ, h, hK, e => wp_ret (hK .ret G st a w h rfl e)
  | .rangeFunc .., G, st, a, w, R, K, r, Q, hΛ, h, hK, e | .scope _, G, st, a, w, R, K, r, Q, hΛ, h, hK, e | .label _, G, st, a, w, R, K, r, Q, hΛ, h, hK, e | .goto _, G, st, a, w, R, K, r, Q, hΛ, h, hK, e | .refuse _, G, st, a, w, R, K, r, Q, hΛ, h, hK, e => by
    unfold evCode at e; cases e
end
end Go.Ev

namespace Go.Ev

/-- A parameter: a value; a pointer that is read; a pointer whose cells may be written; a function. -/
inductive AS where
  | val (g : Bool) (k : K) | rp (k : K) | wp (k : K) | fn (f : FuncId)
@[reducible] def AS.T : AS → Type
  | .val _ k | .rp k | .wp k => k.T
  | .fn _ => Unit
@[reducible] def Args : List AS → Type
  | [] => Unit
  | a :: as => a.T × Args as
@[reducible] def Outs : List AS → Type
  | [] => Unit
  | .wp k :: as => k.T × Outs as
  | _ :: as => Outs as

/-- A result: a value; a slice that is the caller's own from then on; an error (is it one?). -/
inductive RS where
  | val (g : Bool) (k : K) | own (e : K) | err
@[reducible] def RS.T : RS → Type
  | .val _ k => k.T
  | .own e => List e.T
  | .err => Bool
@[reducible] def Ress : List RS → Type
  | [] => Unit
  | r :: rs => r.T × Ress rs

/-- Cells from a place on. -/
def CellsAt (w : World) (ok : Nat → Prop) (k : K) (x : k.T) (blk base : Nat) : Prop :=
  (∃ cs, RepT w ok k x cs ∧ ∀ j v, cs[j]? = some v → w.cell? ⟨blk, base + j, none⟩ = some v) ∧ ∀ j, j < k.sz → w.frozen? ⟨blk, base + j, none⟩ = false

/-- A place: block, offset, size. -/
abbrev Pl := Nat × Nat × Nat

def RepArgs (w : World) (ok : Nat → Prop) : (as : List AS) → Args as → List Value → List Pl → Prop
  | [], _, [], [] => True
  | .val g k :: as, x, v :: vs, ps => RepV w ok g k x.1 v ∧ RepArgs w ok as x.2 vs ps
  | .rp k :: as, x, v :: vs, ps => (∃ ad cs, v = .pointer (some ad) ∧ ok ad.block ∧ RepT w ok k x.1 cs ∧ ∀ j c, cs[j]? = some c → w.cell? (ad.add j) = some c) ∧ RepArgs w ok as x.2 vs ps
  | .wp k :: as, x, v :: vs, p :: ps => (v = .pointer (some ⟨p.1, p.2.1, none⟩) ∧ p.2.2 = k.sz ∧ CellsAt w ok k x.1 p.1 p.2.1 ∧ ¬ ok p.1 ∧ ∀ q ∈ ps, q.1 = p.1 → p.2.1 + p.2.2 ≤ q.2.1 ∨ q.2.1 + q.2.2 ≤ p.2.1) ∧ RepArgs w ok as x.2 vs ps
  | .fn f :: as, x, v :: vs, ps => v = .func (.func f) #[] #[] ∧ RepArgs w ok as x.2 vs ps
  | _, _, _, _ => False

def RepOuts (w : World) (ok : Nat → Prop) : (as : List AS) → Outs as → List Pl → Prop
  | [], _, [] => True
  | .wp k :: as, x, p :: ps => CellsAt w ok k x.1 p.1 p.2.1 ∧ RepOuts w ok as x.2 ps
  | .val _ _ :: as, x, ps => RepOuts w ok as x ps
  | .rp _ :: as, x, ps => RepOuts w ok as x ps
  | .fn _ :: as, x, ps => RepOuts w ok as x ps
  | _, _, _ => False

def RepRess (w : World) (ok : Nat → Prop) : (rs : List RS) → Ress rs → List Value → List Nat → Prop
  | [], _, [], F => F = []
  | .val g k :: rs, y, v :: vs, F => RepV w ok g k y.1 v ∧ RepRess w ok rs y.2 vs F
  | .own e :: rs, y, v :: vs, F => ∃ F1 F2, F = F1 ++ F2 ∧ OwnT w (.sl e) y.1 [v] F1 ∧ RepRess w ok rs y.2 vs F2
  | .err :: rs, y, v :: vs, F => ((y.1 = false ∧ v = .nilIface) ∨ (y.1 = true ∧ ∃ t x, v = .iface t x)) ∧ RepRess w ok rs y.2 vs F
  | _, _, _, _ => False

def inPl (ps : List Pl) (x : Addr) : Prop := ∃ p ∈ ps, ∃ j, j < p.2.2 ∧ x = ⟨p.1, p.2.1 + j, none⟩

/-- THE CONTRACT OF A FUNCTION. -/
def FnC (P : Program) (f : FuncId) (as : List AS) (rs : List RS) (F : Args as → Option (Outs as × Ress rs)) : Prop :=
  Callable P f ∧ ∀ (w : World) (ok : Nat → Prop) (x : Args as) (vals : List Value) (ps : List Pl) (o : Outs as) (y : Ress rs), F x = some (o, y) → RepArgs w ok as x vals ps →
    Calls P f vals.toArray w fun e w' => ∃ v vs Fb, e = .returned v ∧ v = (if h : vs.toArray.size = 1 then vs.toArray[0] else .tuple vs.toArray) ∧ Fr ⟨fun _ => False, inPl ps, w, fun _ => none⟩ w' ∧
      Fb.Nodup ∧ (∀ b ∈ Fb, w.heap.size ≤ b ∧ b < w'.heap.size) ∧ RepRess w' (fun i => (ok i ∨ w.heap.size ≤ i) ∧ i ∉ Fb) rs y vs Fb ∧ RepOuts w' (fun i => (ok i ∨ w.heap.size ≤ i) ∧ i ∉ Fb) as o ps

/-! ### The function's side -/

def env0 : Nat → (as : List AS) → Args as → Tr Slot
  | _, [], _ => .nil
  | i, .val g k :: as, x => (env0 (i + 1) as x.2).set i (some (mkS g k x.1))
  | i, .rp k :: as, x => (env0 (i + 1) as x.2).set i (some (.rp (k.lv x.1)))
  | i, .wp k :: as, x => (env0 (i + 1) as x.2).set i (some (.lf (.ptr (60000 + i) 0)))
  | i, .fn f :: as, x => (env0 (i + 1) as x.2).set i (some (.lf (.fn f [])))
def box0 : Nat → (as : List AS) → Args as → Tr (List Leaf)
  | _, [], _ => .nil
  | i, .wp k :: as, x => (box0 (i + 1) as x.2).set (60000 + i) (some (k.lv x.1))
  | i, .val _ _ :: as, x => box0 (i + 1) as x.2
  | i, .rp _ :: as, x => box0 (i + 1) as x.2
  | i, .fn _ :: as, x => box0 (i + 1) as x.2
def st0 (n : Nat) (as : List AS) (x : Args as) : St := ⟨n, env0 0 as x, box0 0 as x, .nil⟩

/-- Where the boxes lie. -/
def pl0 : Nat → List AS → List Pl → Nat → Option (Nat × Nat)
  | i, .wp _ :: as, p :: ps, b => if b = 60000 + i then some (p.1, p.2.1) else pl0 (i + 1) as ps b
  | i, .val _ _ :: as, ps, b => pl0 (i + 1) as ps b
  | i, .rp _ :: as, ps, b => pl0 (i + 1) as ps b
  | i, .fn _ :: as, ps, b => pl0 (i + 1) as ps b
  | _, _, _, _ => none

def rdR (st : St) (g : Bool) (k : K) (s : Slot) : Option (St × k.T × Bool) :=
  bif s.isAg == g then
    let r := pack st s.leafs
    match k.rd r.2.1 with
    | some y => some (r.1, y, r.2.2)
    | none => none
  else none

/-- The slot of a result. -/
def resS (ty : Ty) (st : St) : ResultVar → Option Slot
  | .tmp t => some (st.ev (.tmp t))
  | .cell a t => match ty t with
    | some ti => match st.leafsAt ti.size (st.ev (.tmp a)) with
      | some ls => bif ls.length == ti.size then mkSlot ti.agg ls else none
      | none => none
    | none => none

def finR (ty : Ty) : (rs : List RS) → St → List ResultVar → Option (St × Ress rs)
  | [], st, [] => some (st, ())
  | .val g k :: rs, st, v :: vs =>
    match resS ty st v with
    | some s => match rdR st g k s with
      | some (st', y, _) => match finR ty rs st' vs with
        | some (st2, ys) => some (st2, (y, ys))
        | none => none
      | none => none
    | none => none
  | .own e :: rs, st, v :: vs =>
    match resS ty st v with
    | some s => match rdR st false (.sl e) s with
      | some (st', y, true) => match finR ty rs st' vs with
        | some (st2, ys) => some (st2, (y, ys))
        | none => none
      | _ => none
    | none => none
  | .err :: rs, st, v :: vs =>
    match resS ty st v with
    | some (.lf .nili) => match finR ty rs st vs with
      | some (st2, ys) => some (st2, (false, ys))
      | none => none
    | some (.lf .ifx) => match finR ty rs st vs with
      | some (st2, ys) => some (st2, (true, ys))
      | none => none
    | some (.lf (.ifp ..)) => match finR ty rs st vs with
      | some (st2, ys) => some (st2, (true, ys))
      | none => none
    | _ => none
  | _, _, _ => none

def finO : Nat → (as : List AS) → St → Option (St × Outs as)
  | _, [], st => some (st, ())
  | i, .wp k :: as, st =>
    match st.box.get (60000 + i) with
    | some ls =>
      let r := pack st ls
      match k.rd r.2.1 with
      | some y => match finO (i + 1) as r.1 with
        | some (st2, ys) => some (st2, (y, ys))
        | none => none
      | none => none
    | none => none
  | i, .val _ _ :: as, st => finO (i + 1) as st
  | i, .rp _ :: as, st => finO (i + 1) as st
  | i, .fn _ :: as, st => finO (i + 1) as st

def fin (ty : Ty) (as : List AS) (rs : List RS) (vs : List ResultVar) : Ex → St → Option (Outs as × Ress rs)
  | .exit _, _ => none
  | _, st => match finR ty rs st vs with
    | some (st', y) => match finO 0 as st' with
      | some (_, o) => some (o, y)
      | none => none
    | none => none

def RS.isOwn : RS → Bool
  | .own _ => true
  | _ => false
def RS.flat : RS → Bool
  | .val _ k => k.flat
  | _ => true
def AS.outFlat : AS → Bool
  | .wp k => k.flat
  | _ => true
/-- Beside a slice that is handed over there is nothing that might lie in it. -/
def rsOk (as : List AS) (rs : List RS) : Bool := !rs.any (·.isOwn) || (rs.all (·.flat) && as.all (·.outFlat))

section
variable {P : Program} {C : Cx} {G : Gh} {st : St} {a : Act} {w w' : World} {ok ok' : Nat → Prop}

theorem rdR_rep (h : Rel C G st a w) {g : Bool} {k : K} {s : Slot} {v : Value} (hs : RepSlot w (G.ok C) G s v) {st' : St} {y : k.T} {fl : Bool} (e : rdR st g k s = some (st', y, fl)) :
    ∃ G', Rel C G' st' a w ∧ Keeps w w (G.ok C) (G'.ok C) ∧ G'.Sub G ∧ st'.n = st.n ∧ RepV w (G'.ok C) g k y v ∧ (fl = true → ∃ F, OwnT w k y v.cells.toList F ∧ Loose C G' w F ∧ ∀ b ∈ F, G.wr b ∨ ∃ id, b ∈ G.inner id) := by
  unfold rdR at e
  cases hg : (s.isAg == g)
  · rw [hg] at e; cases e
  · rw [hg] at e
    simp only [cond_true] at e
    split at e
    · rename_i y' hy
      simp only [Option.some.injEq, Prod.mk.injEq] at e
      obtain ⟨rfl, rfl, rfl⟩ := e
      have hne : s.leafs ≠ [] := fun hc => by
        rw [hc] at hy
        have : (pack st []).2.1 = [] := rfl
        rw [this, K.rd_nil] at hy; cases hy
      have hr := leafs_rep' hs hne
      obtain ⟨G', g1, H, g2, g3, g4, g5, g6⟩ := pack_rep h hr
      have hrt := g5.rd hy
      refine ⟨G', g1, H, g2, g4, ⟨_, hrt, ?_⟩, fun hf => ?_⟩
      · have hg' : s.isAg = g := by simpa using hg
        cases s with
        | lf l =>
          right
          have hone : v.cells.toList = [v] := cells_one (RepLeaf.one (show RepLeaf w (G.ok C) G l v from hs))
          exact ⟨hg'.symm, hone⟩
        | ag ls =>
          left
          obtain ⟨vs, rfl, _⟩ := hs
          exact ⟨hg'.symm, by simp [Value.cells]⟩
        | _ => simp [Slot.leafs] at hne
      · obtain ⟨F, q1, q2, q3⟩ := g6 hf
        exact ⟨F, q1.rd hy, q2, q3⟩
    · cases e
end
end Go.Ev

namespace Go.Ev

section
variable {P : Program} {C : Cx} {G : Gh} {st : St} {a : Act} {w w' : World} {ok ok' : Nat → Prop}

theorem RepRess.trans (H : Keeps w w ok ok') : ∀ {rs : List RS} {y : Ress rs} {vs : List Value} {F : List Nat}, RepRess w ok rs y vs F → RepRess w ok' rs y vs F
  | [], _, [], _, h => h
  | .val g k :: rs, y, v :: vs, F, h => ⟨h.1.trans H, h.2.trans H⟩
  | .own e :: rs, y, v :: vs, F, h => by obtain ⟨F1, F2, h1, h2, h3⟩ := h; exact ⟨F1, F2, h1, h2, h3.trans H⟩
  | .err :: rs, y, v :: vs, F, h => ⟨h.1, h.2.trans H⟩
  | [], _, _ :: _, _, h | .val _ _ :: _, _, [], _, h | .own _ :: _, _, [], _, h | .err :: _, _, [], _, h => h.elim
theorem RepRess.flat : ∀ {rs : List RS} {y : Ress rs} {vs : List Value} {F : List Nat}, rs.all (·.flat) = true → RepRess w ok rs y vs F → RepRess w ok' rs y vs F
  | [], _, [], _, _, h => h
  | .val g k :: rs, y, v :: vs, F, hf, h => by
    simp only [List.all_cons, Bool.and_eq_true] at hf
    exact ⟨h.1.flat hf.1, h.2.flat hf.2⟩
  | .own e :: rs, y, v :: vs, F, hf, h => by
    simp only [List.all_cons, Bool.and_eq_true] at hf
    obtain ⟨F1, F2, h1, h2, h3⟩ := h; exact ⟨F1, F2, h1, h2, h3.flat hf.2⟩
  | .err :: rs, y, v :: vs, F, hf, h => by
    simp only [List.all_cons, Bool.and_eq_true] at hf
    exact ⟨h.1, h.2.flat hf.2⟩
  | [], _, _ :: _, _, _, h | .val _ _ :: _, _, [], _, _, h | .own _ :: _, _, [], _, _, h | .err :: _, _, [], _, _, h => h.elim
theorem RepRess.noOwn : ∀ {rs : List RS} {y : Ress rs} {vs : List Value} {F : List Nat}, rs.any (·.isOwn) = false → RepRess w ok rs y vs F → F = []
  | [], _, [], _, _, h => h
  | .val g k :: rs, y, v :: vs, F, hf, h => by
    simp only [List.any_cons, Bool.or_eq_false_iff] at hf; exact RepRess.noOwn hf.2 h.2
  | .own e :: rs, y, v :: vs, F, hf, h => by simp [RS.isOwn] at hf
  | .err :: rs, y, v :: vs, F, hf, h => by
    simp only [List.any_cons, Bool.or_eq_false_iff] at hf; exact RepRess.noOwn hf.2 h.2
  | [], _, _ :: _, _, _, h | .val _ _ :: _, _, [], _, _, h | .own _ :: _, _, [], _, _, h | .err :: _, _, [], _, _, h => h.elim

theorem CellsAt.trans {k : K} {x : k.T} {b o : Nat} (H : Keeps w w ok ok') (h : CellsAt w ok k x b o) : CellsAt w ok' k x b o := by
  obtain ⟨⟨cs, h1, h2⟩, h3⟩ := h; exact ⟨⟨cs, h1.trans H, h2⟩, h3⟩
theorem CellsAt.flat {k : K} {x : k.T} {b o : Nat} (hf : k.flat = true) (h : CellsAt w ok k x b o) : CellsAt w ok' k x b o := by
  obtain ⟨⟨cs, h1, h2⟩, h3⟩ := h; exact ⟨⟨cs, h1.flat hf, h2⟩, h3⟩
theorem RepOuts.trans (H : Keeps w w ok ok') : ∀ {as : List AS} {o : Outs as} {ps : List Pl}, RepOuts w ok as o ps → RepOuts w ok' as o ps
  | [], _, [], h => h
  | .wp k :: as, x, p :: ps, h => ⟨h.1.trans H, RepOuts.trans H (as := as) h.2⟩
  | .val g k :: as, x, ps, h => RepOuts.trans H (as := as) (show RepOuts w ok as x ps from h)
  | .rp k :: as, x, ps, h => RepOuts.trans H (as := as) (show RepOuts w ok as x ps from h)
  | .fn k :: as, x, ps, h => RepOuts.trans H (as := as) (show RepOuts w ok as x ps from h)
  | [], _, _ :: _, h | .wp _ :: _, _, [], h => h.elim
theorem RepOuts.flat : ∀ {as : List AS} {o : Outs as} {ps : List Pl}, as.all (·.outFlat) = true → RepOuts w ok as o ps → RepOuts w ok' as o ps
  | [], _, [], _, h => h
  | .wp k :: as, x, p :: ps, hf, h => by
    simp only [List.all_cons, Bool.and_eq_true] at hf
    exact ⟨h.1.flat hf.1, RepOuts.flat (as := as) hf.2 h.2⟩
  | .val g k :: as, x, ps, hf, h => by
    simp only [List.all_cons, Bool.and_eq_true] at hf
    exact RepOuts.flat (as := as) hf.2 (show RepOuts w ok as x ps from h)
  | .rp k :: as, x, ps, hf, h => by
    simp only [List.all_cons, Bool.and_eq_true] at hf
    exact RepOuts.flat (as := as) hf.2 (show RepOuts w ok as x ps from h)
  | .fn k :: as, x, ps, hf, h => by
    simp only [List.all_cons, Bool.and_eq_true] at hf
    exact RepOuts.flat (as := as) hf.2 (show RepOuts w ok as x ps from h)
  | [], _, _ :: _, _, h | .wp _ :: _, _, [], _, h => h.elim

def resFn (tm : Array Value) : ResultVar → Sem Value
  | .tmp t => pure (tm.getD t undef)
  | .cell a t => do loadVar t (← asAddr (tm.getD a undef))

theorem run_loadVar_gen {t : TypeId} {i : TypeInfo} {d : TypeDesc} (hi : P.info? t = some i) (hd : P.underlying t = some d) {ad : Addr} {cs : List Value} (hl : cs.length = i.size)
    (hc : ∀ j v, cs[j]? = some v → w.cell? (ad.add j) = some v) (v : Value) (hv : if d.isRow then v = .agg cs.toArray else cs = [v]) :
    (loadVar t ad).run P w = .ok v w := by
  simp only [Sem.run_bind, Sem.run_pure, Result.andThen_ok, loadVar, run_isAgg hd]
  cases hr : d.isRow
  · rw [hr] at hv
    simp at hv
    subst hv
    have := hc 0 v rfl
    rw [Addr.add_zero'] at this
    simpa using run_load_cell (P := P) this
  · rw [hr] at hv
    simp at hv
    subst hv
    have := run_loadCells_list (P := P) w ad cs hc
    simp [Sem.run_bind, run_sizeOf hi, ← hl, this]

theorem resS_rep {ty : Ty} (hty : TyOk P ty) (h : Rel C G st a w) {v : ResultVar} {s : Slot} (e : resS ty st v = some s) : ∃ u, (resFn a.tmps v).run P w = .ok u w ∧ RepSlot w (G.ok C) G s u := by
  cases v with
  | tmp t =>
    simp only [resS, Option.some.injEq] at e
    subst e
    exact ⟨a.tmps.getD t undef, by simp only [resFn, Sem.run_pure], h.ev (.tmp t)⟩
  | cell x t =>
    simp only [resS] at e
    split at e
    · rename_i ti hti
      split at e
      · rename_i ls hls
        cases hlen : (ls.length == ti.size)
        · rw [hlen] at e; cases e
        · rw [hlen] at e
          simp only [cond_true] at e
          obtain ⟨ad, cs, hv, hr, hc⟩ := leafsAt_rep h (h.ev (.tmp x)) hls
          obtain ⟨v, h1, h2⟩ := mkSlot_rep hr e
          obtain ⟨i, z, hi, hsz, _⟩ := (hty t ti hti).info
          obtain ⟨d, hd, hrow, _⟩ := (hty t ti hti).und
          have hl : cs.length = i.size := by rw [hsz, ← hr.length]; simpa using hlen
          refine ⟨v, ?_, h1⟩
          have hv' : a.tmps.getD x undef = .pointer (some ad) := hv
          simp only [resFn, hv', asAddr, Sem.run_bind, Sem.run_pure, Result.andThen_ok]
          exact run_loadVar_gen hi hd hl hc v (by rw [hrow]; exact h2)
      · cases e
    · cases e

theorem finR_rep {ty : Ty} (hty : TyOk P ty) : ∀ {rs : List RS} {G : Gh} {st st' : St} {vs : List ResultVar} {y : Ress rs}, Rel C G st a w → finR ty rs st vs = some (st', y) →
    ∃ G' us F, (vs.mapM (resFn a.tmps)).run P w = .ok us w ∧ Rel C G' st' a w ∧ Keeps w w (G.ok C) (G'.ok C) ∧ G'.Sub G ∧ st'.n = st.n ∧ RepRess w (G'.ok C) rs y us F ∧ Loose C G' w F ∧ ∀ b ∈ F, G.wr b ∨ ∃ id, b ∈ G.inner id
  | [], G, st, st', [], y, h, e => by
    simp only [finR, Option.some.injEq, Prod.mk.injEq] at e
    obtain ⟨rfl, _⟩ := e
    exact ⟨G, [], [], by simp, h, Keeps.refl _ _, Gh.Sub.refl G, rfl, rfl, Loose.nil _ _ _, by simp⟩
  | .val g k :: rs, G, st, st', v :: vs, y, h, e => by
    simp only [finR] at e
    split at e
    · rename_i s hs
      obtain ⟨u, u1, u2⟩ := resS_rep hty h hs
      split at e
      · rename_i st1 y1 fl h1
        split at e
        · rename_i st2 ys h2
          simp only [Option.some.injEq, Prod.mk.injEq] at e
          obtain ⟨rfl, rfl⟩ := e
          obtain ⟨G1, g1, H1, g2, g3, g4, _⟩ := rdR_rep h u2 h1
          obtain ⟨G2, us, F, f0, f1, H2, f2, f3, f4, f5, f6⟩ := finR_rep hty g1 h2
          refine ⟨G2, u :: us, F, by simp [List.mapM_cons, Sem.run_bind, u1, f0], f1, fun b x hb hu => H2 b x (H1 b x hb hu).1 hu, f2.trans g2, f3.trans g3, ⟨g4.trans H2, f4⟩, f5, fun b hb => ?_⟩
          rcases f6 b hb with q | ⟨id, q⟩
          · exact .inl (g2.wr q)
          · exact .inr ⟨id, g2.inn _ _ q⟩
        · cases e
      · cases e
    · cases e
  | .own el :: rs, G, st, st', v :: vs, y, h, e => by
    simp only [finR] at e
    split at e
    · rename_i s hs
      obtain ⟨u, u1, u2⟩ := resS_rep hty h hs
      split at e
      · rename_i st1 y1 h1
        split at e
        · rename_i st2 ys h2
          simp only [Option.some.injEq, Prod.mk.injEq] at e
          obtain ⟨rfl, rfl⟩ := e
          obtain ⟨G1, g1, H1, g2, g3, g4, g5⟩ := rdR_rep h u2 h1
          obtain ⟨F1, q1, q2, q3⟩ := g5 rfl
          obtain ⟨G2, us, F, f0, f1, H2, f2, f3, f4, f5, f6⟩ := finR_rep hty g1 h2
          have hv : u.cells.toList = [u] := by
            obtain ⟨cs, hc, ⟨hg, _⟩ | ⟨_, hcs⟩⟩ := g4
            · cases hg
            · have := hc.one u (by rw [hcs]; simp)
              exact cells_one this
          have q1' : OwnT w (.sl el) y1 [u] F1 := by rw [← hv]; exact q1
          refine ⟨G2, u :: us, F1 ++ F, by simp [List.mapM_cons, Sem.run_bind, u1, f0], f1, fun b x hb hu => H2 b x (H1 b x hb hu).1 hu, f2.trans g2, f3.trans g3, ⟨F1, F, rfl, q1', f4⟩, ⟨?_, ?_, ?_, ?_, ?_⟩, fun b hb => ?_⟩
          · refine List.nodup_append.2 ⟨q2.nd, f5.nd, fun b hb c hc e => ?_⟩
            subst e
            rcases f6 b hc with q | ⟨id, q⟩
            · exact q2.wr b hb q
            · exact q2.inn b hb id q
          · intro b hb; rcases List.mem_append.1 hb with hb | hb
            · exact q2.new b hb
            · exact f5.new b hb
          · intro b hb; rcases List.mem_append.1 hb with hb | hb
            · exact q2.lt b hb
            · exact f5.lt b hb
          · intro b hb; rcases List.mem_append.1 hb with hb | hb
            · exact (q2.sub f2).wr b hb
            · exact f5.wr b hb
          · intro b hb; rcases List.mem_append.1 hb with hb | hb
            · exact (q2.sub f2).inn b hb
            · exact f5.inn b hb
          · rcases List.mem_append.1 hb with hb | hb
            · exact q3 b hb
            · rcases f6 b hb with q | ⟨id, q⟩
              · exact .inl (g2.wr q)
              · exact .inr ⟨id, g2.inn _ _ q⟩
        · cases e
      · cases e
    · cases e
  | .err :: rs, G, st, st', v :: vs, y, h, e => by
    simp only [finR] at e
    split at e
    · rename_i hs
      obtain ⟨u, u1, u2⟩ := resS_rep hty h hs
      split at e
      · rename_i st2 ys h2
        simp only [Option.some.injEq, Prod.mk.injEq] at e
        obtain ⟨rfl, rfl⟩ := e
        obtain ⟨G2, us, F, f0, f1, H2, f2, f3, f4, f5, f6⟩ := finR_rep hty h h2
        exact ⟨G2, u :: us, F, by simp [List.mapM_cons, Sem.run_bind, u1, f0], f1, H2, f2, f3, ⟨.inl ⟨rfl, u2⟩, f4⟩, f5, f6⟩
      · cases e
    · rename_i hs
      obtain ⟨u, u1, u2⟩ := resS_rep hty h hs
      split at e
      · rename_i st2 ys h2
        simp only [Option.some.injEq, Prod.mk.injEq] at e
        obtain ⟨rfl, rfl⟩ := e
        obtain ⟨G2, us, F, f0, f1, H2, f2, f3, f4, f5, f6⟩ := finR_rep hty h h2
        exact ⟨G2, u :: us, F, by simp [List.mapM_cons, Sem.run_bind, u1, f0], f1, H2, f2, f3, ⟨.inr ⟨rfl, u2⟩, f4⟩, f5, f6⟩
      · cases e
    · rename_i hs
      obtain ⟨u, u1, u2⟩ := resS_rep hty h hs
      split at e
      · rename_i st2 ys h2
        simp only [Option.some.injEq, Prod.mk.injEq] at e
        obtain ⟨rfl, rfl⟩ := e
        obtain ⟨p, _, hp⟩ := u2
        obtain ⟨G2, us, F, f0, f1, H2, f2, f3, f4, f5, f6⟩ := finR_rep hty h h2
        exact ⟨G2, u :: us, F, by simp [List.mapM_cons, Sem.run_bind, u1, f0], f1, H2, f2, f3, ⟨.inr ⟨rfl, _, _, hp⟩, f4⟩, f5, f6⟩
      · cases e
    · cases e
  | [], _, _, _, _ :: _, _, _, e | .val _ _ :: _, _, _, _, [], _, _, e | .own _ :: _, _, _, _, [], _, _, e | .err :: _, _, _, _, [], _, _, e => by simp [finR] at e

theorem finO_rep {C : Cx} {a : Act} {w : World} : ∀ {as : List AS} {i : Nat} {G : Gh} {st st' : St} {ps : List Pl} {o : Outs as} {vals : List Value} {x : Args as} {w0 : World} {ok0 : Nat → Prop}, RepArgs w0 ok0 as x vals ps → (∀ j q, i ≤ j → pl0 i as ps (60000 + j) = some q → G.B (60000 + j) = some q) → Rel C G st a w → finO i as st = some (st', o) →
    ∃ G' : Gh, Keeps w w (G.ok C) (G'.ok C) ∧ G'.Sub G ∧ RepOuts w (G'.ok C) as o ps
  | [], i, G, st, st', [], o, [], x, w0, ok0, hra, hp, h, e => ⟨G, Keeps.refl _ _, Gh.Sub.refl G, trivial⟩
  | .wp k :: as, i, G, st, st', p :: ps, o, v :: vals, x, w0, ok0, hra, hp, h, e => by
    simp only [finO] at e
    split at e
    · rename_i ls hls
      split at e
      · rename_i y hy
        split at e
        · rename_i st2 ys h2
          simp only [Option.some.injEq, Prod.mk.injEq] at e
          obtain ⟨rfl, rfl⟩ := e
          obtain ⟨blk, base, hB, hat⟩ := h.mem.boxR _ _ hls
          have hB' := hp i (p.1, p.2.1) (Nat.le_refl i) (by simp [pl0])
          rw [hB] at hB'
          simp only [Option.some.injEq, Prod.mk.injEq] at hB'
          obtain ⟨rfl, rfl⟩ := hB'
          obtain ⟨cs, hc1, hc2⟩ := hat.vs
          obtain ⟨G1, g1, H1, g2, g3, g4, g5, _⟩ := pack_rep h hc1
          have hyr := g5.rd hy
          obtain ⟨G2, H2, f2, h3⟩ := finO_rep hra.2 (fun j q hj hq => by
            rw [g2.B]
            by_cases hji : j = i
            · omega
            · exact hp j q (by omega) (by simp only [pl0]; rw [if_neg (by omega)]; exact hq)) g1 h2
          refine ⟨G2, fun b u hb hu => H2 b u (H1 b u hb hu).1 hu, f2.trans g2, ⟨⟨cs, hyr.trans H2, hc2⟩, fun j hj => ?_⟩, h3⟩
          have hl := hc1.length
          have hl2 := hyr.length
          exact hat.fz j (by omega)
        · cases e
      · cases e
    · cases e
  | .val g k :: as, i, G, st, st', ps, o, v :: vals, x, w0, ok0, hra, hp, h, e =>
    finO_rep (as := as) (i := i + 1) (o := o) hra.2 (fun j q hj hq => hp j q (by omega) (by simp only [pl0]; exact hq)) h (by simpa only [finO] using e)
  | .rp k :: as, i, G, st, st', ps, o, v :: vals, x, w0, ok0, hra, hp, h, e =>
    finO_rep (as := as) (i := i + 1) (o := o) hra.2 (fun j q hj hq => hp j q (by omega) (by simp only [pl0]; exact hq)) h (by simpa only [finO] using e)
  | .fn k :: as, i, G, st, st', ps, o, v :: vals, x, w0, ok0, hra, hp, h, e =>
    finO_rep (as := as) (i := i + 1) (o := o) hra.2 (fun j q hj hq => hp j q (by omega) (by simp only [pl0]; exact hq)) h (by simpa only [finO] using e)
  | [], _, _, _, _, _ :: _, _, [], _, _, _, hra, _, _, _ | [], _, _, _, _, _, _, _ :: _, _, _, _, hra, _, _, _ | .wp _ :: _, _, _, _, _, [], _, _ :: _, _, _, _, hra, _, _, _ => hra.elim
  | .wp _ :: _, _, _, _, _, _, _, [], _, _, _, hra, _, _, _ | .val _ _ :: _, _, _, _, _, _, _, [], _, _, _, hra, _, _, _ | .rp _ :: _, _, _, _, _, _, _, [], _, _, _, hra, _, _, _ | .fn _ :: _, _, _, _, _, _, _, [], _, _, _, hra, _, _, _ => hra.elim
end
end Go.Ev

namespace Go.Ev

theorem pl0_ge : ∀ {i : Nat} {as : List AS} {ps : List Pl} {b : Nat} {q : Nat × Nat}, pl0 i as ps b = some q → 60000 + i ≤ b ∧ b < 60000 + i + as.length ∧ ∃ p ∈ ps, q = (p.1, p.2.1)
  | i, .wp k :: as, p :: ps, b, q, h => by
    simp only [pl0] at h
    split at h
    · rename_i hb
      cases h
      exact ⟨by omega, by simp; omega, p, by simp, rfl⟩
    · obtain ⟨h1, h2, p', h3, h4⟩ := pl0_ge h
      exact ⟨by omega, by simp; omega, p', by simp [h3], h4⟩
  | i, .val g k :: as, ps, b, q, h => by
    simp only [pl0] at h
    obtain ⟨h1, h2, h3⟩ := pl0_ge h
    exact ⟨by omega, by simp; omega, h3⟩
  | i, .rp k :: as, ps, b, q, h => by
    simp only [pl0] at h
    obtain ⟨h1, h2, h3⟩ := pl0_ge h
    exact ⟨by omega, by simp; omega, h3⟩
  | i, .fn k :: as, ps, b, q, h => by
    simp only [pl0] at h
    obtain ⟨h1, h2, h3⟩ := pl0_ge h
    exact ⟨by omega, by simp; omega, h3⟩
  | _, [], _, _, _, h => by simp [pl0] at h
  | _, .wp _ :: _, [], _, _, h => by simp [pl0] at h

section
variable {P : Program} {w : World} {ok : Nat → Prop}

/-- What a box of the state at first is. -/
def BoxP (w : World) (ok : Nat → Prop) (ls : List Leaf) (p : Pl) : Prop := p.2.2 = ls.length ∧ ¬ ok p.1 ∧ ∃ (k : K) (y : k.T), ls = k.lv y ∧ CellsAt w ok k y p.1 p.2.1

theorem box0_spec : ∀ {as : List AS} {i : Nat} {x : Args as} {vals : List Value} {ps : List Pl}, RepArgs w ok as x vals ps → i + as.length ≤ 1000 →
    (∀ b q, pl0 i as ps b = some q → ∃ ls, (box0 i as x).get b = some ls) ∧
    (∀ b ls, (box0 i as x).get b = some ls → ∃ p ∈ ps, pl0 i as ps b = some (p.1, p.2.1) ∧ BoxP w ok ls p) ∧
    (∀ b b' ls ls' p p', b ≠ b' → (box0 i as x).get b = some ls → (box0 i as x).get b' = some ls' → pl0 i as ps b = some p → pl0 i as ps b' = some p' → p.1 = p'.1 → p.2 + ls.length ≤ p'.2 ∨ p'.2 + ls'.length ≤ p.2)
  | [], i, x, [], [], h, hi => ⟨fun b q h => by simp [pl0] at h, fun b ls h => by simp [box0, Tr.get] at h, fun b b' ls ls' p p' _ h => by simp [box0, Tr.get] at h⟩
  | .wp k :: as, i, x, v :: vals, p :: ps, h, hi => by
    simp only [List.length_cons] at hi
    obtain ⟨⟨_, h2, h3, h4, h5⟩, h6⟩ := h
    obtain ⟨s1, s2, s3⟩ := box0_spec (i := i + 1) h6 (by omega)
    have hlt : 60000 + i < 65000 := by omega
    have hbp : BoxP w ok (k.lv x.1) p := ⟨by rw [K.lv_length]; exact h2, h4, k, x.1, rfl, h3⟩
    refine ⟨fun b q hq => ?_, fun b ls hb => ?_, fun b b' ls ls' q q' hne hb hb' hq hq' hqq => ?_⟩
    · simp only [pl0] at hq
      simp only [box0]
      split at hq
      · rename_i hb; subst hb; exact ⟨_, Tr.get_set_same _ _ hlt⟩
      · rename_i hb
        obtain ⟨ls, hls⟩ := s1 b q hq
        exact ⟨ls, by rw [Tr.get_set_ne _ _ hb]; exact hls⟩
    · simp only [box0] at hb
      by_cases e : b = 60000 + i
      · subst e
        rw [Tr.get_set_same _ _ hlt] at hb; cases hb
        exact ⟨p, by simp, by simp [pl0], hbp⟩
      · rw [Tr.get_set_ne _ _ e] at hb
        obtain ⟨p', g1, g2, g3⟩ := s2 b ls hb
        exact ⟨p', by simp [g1], by simp only [pl0]; rw [if_neg e]; exact g2, g3⟩
    · simp only [box0] at hb hb'
      simp only [pl0] at hq hq'
      by_cases e : b = 60000 + i
      · subst e
        rw [Tr.get_set_same _ _ hlt] at hb; cases hb
        rw [if_pos rfl] at hq; cases hq
        have hne' : b' ≠ 60000 + i := Ne.symm hne
        rw [Tr.get_set_ne _ _ hne'] at hb'
        rw [if_neg hne'] at hq'
        obtain ⟨p', g1, g2, g3, _⟩ := s2 b' ls' hb'
        rw [hq'] at g2; cases g2
        rw [K.lv_length, ← h2, ← g3]
        exact h5 p' g1 hqq.symm
      · rw [Tr.get_set_ne _ _ e] at hb
        rw [if_neg e] at hq
        by_cases e' : b' = 60000 + i
        · subst e'
          rw [Tr.get_set_same _ _ hlt] at hb'; cases hb'
          rw [if_pos rfl] at hq'; cases hq'
          obtain ⟨p', g1, g2, g3, _⟩ := s2 b ls hb
          rw [hq] at g2; cases g2
          rw [K.lv_length, ← h2, ← g3]
          exact (h5 p' g1 hqq).symm
        · rw [Tr.get_set_ne _ _ e'] at hb'
          rw [if_neg e'] at hq'
          exact s3 b b' ls ls' q q' hne hb hb' hq hq' hqq
  | .val g k :: as, i, x, v :: vals, ps, h, hi => by
    simp only [List.length_cons] at hi
    simpa only [pl0, box0] using box0_spec (i := i + 1) h.2 (by omega)
  | .rp k :: as, i, x, v :: vals, ps, h, hi => by
    simp only [List.length_cons] at hi
    simpa only [pl0, box0] using box0_spec (i := i + 1) h.2 (by omega)
  | .fn k :: as, i, x, v :: vals, ps, h, hi => by
    simp only [List.length_cons] at hi
    simpa only [pl0, box0] using box0_spec (i := i + 1) h.2 (by omega)
  | [], _, _, [], _ :: _, h, _ | [], _, _, _ :: _, _, h, _ | .wp _ :: _, _, _, _ :: _, [], h, _ => h.elim
  | .wp _ :: _, _, _, [], _, h, _ | .val _ _ :: _, _, _, [], _, h, _ | .rp _ :: _, _, _, [], _, h, _ | .fn _ :: _, _, _, [], _, h, _ => h.elim

theorem env0_rep {ok' : Nat → Prop} {G : Gh} (H : Keeps w w ok ok') : ∀ {as : List AS} {i : Nat} {x : Args as} {vals : List Value} {ps : List Pl}, RepArgs w ok as x vals ps → i + as.length ≤ 1000 → (∀ b q, pl0 i as ps b = some q → G.B b = some q) →
    ∀ t s, (env0 i as x).get t = some s → i ≤ t ∧ ∃ v, vals[t - i]? = some v ∧ RepSlot w ok' G s v
  | [], i, x, [], [], h, hi, hB, t, s, e => by simp [env0, Tr.get] at e
  | .wp k :: as, i, x, v :: vals, p :: ps, h, hi, hB, t, s, e => by
    simp only [List.length_cons] at hi
    simp only [env0] at e
    by_cases et : t = i
    · subst et
      rw [Tr.get_set_same _ _ (by omega)] at e; cases e
      refine ⟨Nat.le_refl _, v, by simp, ?_⟩
      exact ⟨p.1, p.2.1, hB _ _ (by simp [pl0]), h.1.1⟩
    · rw [Tr.get_set_ne _ _ et] at e
      obtain ⟨h1, u, h2, h3⟩ := env0_rep H (i := i + 1) h.2 (by omega) (fun b q hq => hB b q (by
        have := (pl0_ge hq).1
        simp only [pl0]; rw [if_neg (by omega)]; exact hq)) t s e
      exact ⟨by omega, u, by rw [show t - i = (t - (i + 1)) + 1 by omega]; simpa using h2, h3⟩
  | .val g k :: as, i, x, v :: vals, ps, h, hi, hB, t, s, e => by
    simp only [List.length_cons] at hi
    simp only [env0] at e
    by_cases et : t = i
    · subst et
      rw [Tr.get_set_same _ _ (by omega)] at e; cases e
      exact ⟨Nat.le_refl _, v, by simp, mkS_rep (h.1.trans H)⟩
    · rw [Tr.get_set_ne _ _ et] at e
      obtain ⟨h1, u, h2, h3⟩ := env0_rep H (i := i + 1) h.2 (by omega) (fun b q hq => hB b q (by simp only [pl0]; exact hq)) t s e
      exact ⟨by omega, u, by rw [show t - i = (t - (i + 1)) + 1 by omega]; simpa using h2, h3⟩
  | .rp k :: as, i, x, v :: vals, ps, h, hi, hB, t, s, e => by
    simp only [List.length_cons] at hi
    simp only [env0] at e
    by_cases et : t = i
    · subst et
      rw [Tr.get_set_same _ _ (by omega)] at e; cases e
      obtain ⟨⟨ad, cs, h1, h2, h3, h4⟩, _⟩ := h
      refine ⟨Nat.le_refl _, v, by simp, ad, h1, fun _ => ?_, cs, (h3.trans H).lv, fun j c hj => h4 j c hj⟩
      have hl := h3.length
      have := k.sz_pos
      have h0 := h4 0 _ (List.getElem?_eq_getElem (by omega))
      have := (H _ _ (by rw [addr_add_block]; exact h2) h0).1
      rwa [addr_add_block] at this
    · rw [Tr.get_set_ne _ _ et] at e
      obtain ⟨h1, u, h2, h3⟩ := env0_rep H (i := i + 1) h.2 (by omega) (fun b q hq => hB b q (by simp only [pl0]; exact hq)) t s e
      exact ⟨by omega, u, by rw [show t - i = (t - (i + 1)) + 1 by omega]; simpa using h2, h3⟩
  | .fn f :: as, i, x, v :: vals, ps, h, hi, hB, t, s, e => by
    simp only [List.length_cons] at hi
    simp only [env0] at e
    by_cases et : t = i
    · subst et
      rw [Tr.get_set_same _ _ (by omega)] at e; cases e
      exact ⟨Nat.le_refl _, v, by simp, [], h.1, trivial⟩
    · rw [Tr.get_set_ne _ _ et] at e
      obtain ⟨h1, u, h2, h3⟩ := env0_rep H (i := i + 1) h.2 (by omega) (fun b q hq => hB b q (by simp only [pl0]; exact hq)) t s e
      exact ⟨by omega, u, by rw [show t - i = (t - (i + 1)) + 1 by omega]; simpa using h2, h3⟩
  | [], _, _, [], _ :: _, h, _, _, _, _, _ | [], _, _, _ :: _, _, h, _, _, _, _, _ | .wp _ :: _, _, _, _ :: _, [], h, _, _, _, _, _ => h.elim
  | .wp _ :: _, _, _, [], _, h, _, _, _, _, _ | .val _ _ :: _, _, _, [], _, h, _, _, _, _, _ | .rp _ :: _, _, _, [], _, h, _, _, _, _, _ | .fn _ :: _, _, _, [], _, h, _, _, _, _, _ => h.elim

theorem RepArgs.len : ∀ {as : List AS} {x : Args as} {vals : List Value} {ps : List Pl}, RepArgs w ok as x vals ps → vals.length = as.length
  | [], _, [], [], _ => rfl
  | .wp k :: as, x, v :: vals, p :: ps, h => by simp [RepArgs.len h.2]
  | .val g k :: as, x, v :: vals, ps, h => by simp [RepArgs.len h.2]
  | .rp k :: as, x, v :: vals, ps, h => by simp [RepArgs.len h.2]
  | .fn k :: as, x, v :: vals, ps, h => by simp [RepArgs.len h.2]
  | [], _, [], _ :: _, h | [], _, _ :: _, _, h | .wp _ :: _, _, _ :: _, [], h => h.elim
  | .wp _ :: _, _, [], _, h | .val _ _ :: _, _, [], _, h | .rp _ :: _, _, [], _, h | .fn _ :: _, _, [], _, h => h.elim

theorem pl0_all : ∀ {as : List AS} {i : Nat} {x : Args as} {vals : List Value} {ps : List Pl}, RepArgs w ok as x vals ps → ∀ p ∈ ps, ∃ b, pl0 i as ps b = some (p.1, p.2.1)
  | [], _, _, [], [], _, p, hp => by simp at hp
  | .wp k :: as, i, x, v :: vals, q :: ps, h, p, hp => by
    rcases List.mem_cons.1 hp with rfl | hp
    · exact ⟨60000 + i, by simp [pl0]⟩
    · obtain ⟨b, hb⟩ := pl0_all (i := i + 1) h.2 p hp
      have := (pl0_ge hb).1
      exact ⟨b, by simp only [pl0]; rw [if_neg (by omega)]; exact hb⟩
  | .val g k :: as, i, x, v :: vals, ps, h, p, hp => by simpa only [pl0] using pl0_all (i := i + 1) h.2 p hp
  | .rp k :: as, i, x, v :: vals, ps, h, p, hp => by simpa only [pl0] using pl0_all (i := i + 1) h.2 p hp
  | .fn k :: as, i, x, v :: vals, ps, h, p, hp => by simpa only [pl0] using pl0_all (i := i + 1) h.2 p hp
  | [], _, _, [], _ :: _, h, _, _ | [], _, _, _ :: _, _, h, _, _ | .wp _ :: _, _, _, _ :: _, [], h, _, _ => h.elim
  | .wp _ :: _, _, _, [], _, h, _, _ | .val _ _ :: _, _, _, [], _, h, _, _ | .rp _ :: _, _, _, [], _, h, _, _ | .fn _ :: _, _, _, [], _, h, _, _ => h.elim

/-- The frame of the function. -/
def cx0 (w : World) (ok : Nat → Prop) (as : List AS) (ps : List Pl) : Cx := ⟨fun i => ¬ ok i ∧ i < w.heap.size ∧ ∀ p ∈ ps, p.1 ≠ i, inPl ps, w, pl0 0 as ps⟩
def gh0 (as : List AS) (ps : List Pl) : Gh := ⟨pl0 0 as ps, fun _ => none, fun _ => []⟩

theorem rel0 {as : List AS} {x : Args as} {vals : List Value} {ps : List Pl} {n : Nat} (h : RepArgs w ok as x vals ps) (hn : n ≤ 16000) (has : as.length ≤ 16) (hle : as.length ≤ n) :
    Keeps w w ok ((gh0 as ps).ok (cx0 w ok as ps)) ∧ Rel (cx0 w ok as ps) (gh0 as ps) (st0 n as x) { tmps := vals.toArray ++ Array.replicate (n - vals.toArray.size) undef, defers := [] } w := by
  have hlen := h.len
  obtain ⟨s1, s2, s3⟩ := box0_spec (i := 0) h (by omega)
  have hwr : ∀ i, (gh0 as ps).wr i → ∃ p ∈ ps, p.1 = i ∧ ¬ ok i ∧ i < w.heap.size := by
    rintro i (⟨b, base, hb⟩ | ⟨id, ai, base, m, hA, _⟩)
    · obtain ⟨ls, hls⟩ := s1 b _ hb
      obtain ⟨p, hp, hpl, hsz, hnok, k, y, rfl, ⟨cs, hc1, hc2⟩, _⟩ := s2 b ls hls
      have hpl' : pl0 0 as ps b = some (i, base) := hb
      rw [hpl'] at hpl; cases hpl
      have hl := hc1.length
      have := k.sz_pos
      have h0 := hc2 0 _ (List.getElem?_eq_getElem (by omega))
      exact ⟨p, hp, rfl, hnok, World.block_lt_of_cell? w _ h0⟩
    · cases hA
  have H : Keeps w w ok ((gh0 as ps).ok (cx0 w ok as ps)) := fun a v hok hc => ⟨⟨fun hx => hx.1 hok, fun hw => by
    obtain ⟨p, _, _, hn, _⟩ := hwr _ hw; exact hn hok⟩, hc⟩
  refine ⟨H, ⟨by simp [st0]; omega, hn, rfl, fun t s ht => ?_, ?_, ?_⟩⟩
  · obtain ⟨_, v, h1, h2⟩ := env0_rep (G := gh0 as ps) H h (by omega) (fun b q hq => hq) t s ht
    have ht' : t < vals.length := by simpa using (List.getElem?_eq_some_iff.1 h1).1
    refine ⟨by show t < n; omega, ?_⟩
    have : (vals.toArray ++ Array.replicate (n - vals.toArray.size) undef).getD t undef = v := by
      rw [Array.getD_eq_getD_getElem?, Array.getElem?_append_left (by simpa using ht')]
      simp at h1
      simp [h1]
    rw [this]; exact h2
  · refine ⟨fun b p hb => s1 b p hb, fun id ai hA => (by cases hA), fun b ls hb => ?_, fun id a hA => by simp [st0, Tr.get] at hA, fun i hi => ?_, fun b b' ls ls' blk base base' hne h1 h2 hB hB' => ?_,
      fun _ _ _ _ _ _ _ _ _ _ hA => (by cases hA), fun _ _ _ _ _ _ _ _ hA => (by cases hA), fun _ _ _ _ hA => (by cases hA), fun id => by simp [gh0, Gh.inner], fun _ _ _ b hb => by simp [gh0, Gh.inner] at hb, fun _ b hb => by simp [gh0, Gh.inner] at hb,
      fun i hx hm => ?_, Nat.le_refl _, fun _ _ hA => (by cases hA), fun b p hb => ?_, fun b p hb => ⟨hb, by have := pl0_ge (i := 0) hb; omega⟩⟩
    · obtain ⟨p, hp, hpl, hsz, hnok, k, y, rfl, ⟨cs, hc1, hc2⟩, hfz⟩ := s2 b ls hb
      have hlv := K.lv_length k y
      refine ⟨p.1, p.2.1, hpl, fun i hi => .inr ⟨p, hp, i, by rw [hsz]; exact hi, rfl⟩, fun i hi => hfz i (by omega), cs, (hc1.trans H).lv, fun j v hj => hc2 j v hj⟩
    · obtain ⟨_, _, _, _, hlt⟩ := hwr i hi; exact hlt
    · have := s3 b b' ls ls' _ _ hne h1 h2 hB hB' rfl
      exact this
    · rcases hm with hm | ⟨o, p, hp, j, _, he⟩
      · have := hx.2.1; exact absurd hm (by show ¬ (w.heap.size ≤ i); omega)
      · injection he with e1 e2
        exact hx.2.2 p hp e1.symm
    · have := pl0_ge (i := 0) hb
      omega
  · exact ⟨rfl, rfl, rfl, Nat.le_refl _, fun _ _ _ => rfl, fun _ _ _ => ⟨rfl, rfl⟩⟩

theorem results_run {fn : Func} {tm : Array Value} {us : List Value} (h : (fn.results.toList.mapM (resFn tm)).run P w = Result.ok us w) :
    (results fn tm).run P w = Result.ok (if h : us.toArray.size = 1 then us.toArray[0] else .tuple us.toArray) w := by
  have e : results fn tm = (do let vs ← fn.results.mapM (resFn tm); pure (if h : vs.size = 1 then vs[0] else .tuple vs)) := rfl
  have e2 : fn.results = fn.results.toList.toArray := by simp
  rw [e, e2, List.mapM_toArray]
  simp only [map_eq_pure_bind, Sem.run_bind, h, Result.andThen_ok, Sem.run_pure]

/-- THE CONTRACT, BY THE EVALUATOR. -/
theorem fnC_of_ev {ty : Ty} (hty : TyOk P ty) (hm : P.follows .mixedOrders = true) {Γ : FuncId → Option SumX} (hΓ : GOk P Γ) {J : Nat → Option (List (Nat × SS))} {Λ : Nat → Option LSum} {f : FuncId} {fn : Func} {c : Code} (hf : P.funcs[f]? = some fn) (hb : fn.body = some c) (hname : (fn.name == "runtime.NumGoroutine") = false)
    {as : List AS} {rs : List RS} (hn : (fn.ntmps ≤ 16000 ∧ as.length ≤ 16 ∧ as.length ≤ fn.ntmps)) (hrs : rsOk as rs = true)
    (hΛ : ∀ b ∈ loops c, ∀ L, (firstRegion b).bind Λ = some L → LSumOk P b L) {F : Args as → Option (Outs as × Ress rs)}
    (hev : ∀ x, evCode ty Γ J Λ c (st0 fn.ntmps as x) (fin ty as rs fn.results.toList) = F x) : FnC P f as rs F := by
  refine ⟨⟨fn, hf, by rw [hb]; rfl, hname⟩, fun w ok x vals ps o y hF hra => ?_⟩
  obtain ⟨H, hrel⟩ := rel0 (n := fn.ntmps) hra hn.1 hn.2.1 hn.2.2
  refine calls_of_wp hf hb (ok_code hty hm hΓ hΛ hrel (r := (o, y)) (fun ex G' st' a' w' h1 h2 h3 => ?_) ((hev x).trans hF))
  have hfin : ∀ (h3 : (match finR ty rs st' fn.results.toList with
      | some (st', y) => match finO 0 as st' with
        | some (_, o) => some (o, y)
        | none => none
      | none => none) = some (o, y)), a'.defers = [] ∧ ∃ v, (results fn a'.tmps).run P w' = .ok v w' ∧ ∃ v0 vs Fb, Ending.returned v = .returned v0 ∧ v0 = (if h : vs.toArray.size = 1 then vs.toArray[0] else .tuple vs.toArray) ∧ Fr ⟨fun _ => False, inPl ps, w, fun _ => none⟩ w' ∧
      Fb.Nodup ∧ (∀ b ∈ Fb, w.heap.size ≤ b ∧ b < w'.heap.size) ∧ RepRess w' (fun i => (ok i ∨ w.heap.size ≤ i) ∧ i ∉ Fb) rs y vs Fb ∧ RepOuts w' (fun i => (ok i ∨ w.heap.size ≤ i) ∧ i ∉ Fb) as o ps := by
    intro h3
    refine ⟨h1.dfr, ?_⟩
    split at h3
    · rename_i st2 y2 hr
      split at h3
      · rename_i st3 o3 ho
        cases h3
        obtain ⟨G1, us, Fb, q0, q1, q2, q3, q4, q5, q6, q7⟩ := finR_rep hty h1 hr
        obtain ⟨G2, q8, q8', q9⟩ := finO_rep (i := 0) hra (fun j q _ hq => (q1.mem.pin _ _ hq).1) q1 ho
        have hfr := q1.fr
        have hres : (results fn a'.tmps).run P w' = .ok (if h : us.toArray.size = 1 then us.toArray[0] else .tuple us.toArray) w' := by
          exact results_run q0
        refine ⟨_, hres, _, _, Fb, rfl, rfl, ⟨hfr.os, hfr.tape, hfr.output, hfr.size, hfr.block, hfr.cell⟩, q6.nd, fun b hb => ⟨q6.new b hb, q6.lt b hb⟩, ?_⟩
        have hpl : ∀ p ∈ ps, G2.wr p.1 := fun p hp => by
          obtain ⟨b, hb⟩ := pl0_all (i := 0) hra p hp
          exact Gh.wr_of_B (by rw [q8'.B]; exact (q1.mem.pin _ _ hb).1)
        have hK : Keeps w' w' (G2.ok (cx0 w ok as ps)) (fun i => ok i ∨ w.heap.size ≤ i) := fun u v hg hu => ⟨by
          by_cases h1 : ok u.block
          · exact .inl h1
          · refine .inr (Nat.le_of_not_lt fun hlt => hg.1 ⟨h1, hlt, fun p hp he => hg.2 (he ▸ hpl p hp)⟩), hu⟩
        have hr1 : RepRess w' (fun i => ok i ∨ w.heap.size ≤ i) rs y us Fb := (q5.trans q8).trans hK
        have ho1 : RepOuts w' (fun i => ok i ∨ w.heap.size ≤ i) as o ps := q9.trans hK
        unfold rsOk at hrs
        cases ha : rs.any (·.isOwn) with
        | false =>
          have hF0 := hr1.noOwn ha
          subst hF0
          exact ⟨hr1.trans fun u v hu hv => ⟨⟨hu, by simp⟩, hv⟩, ho1.trans fun u v hu hv => ⟨⟨hu, by simp⟩, hv⟩⟩
        | true =>
          rw [ha] at hrs
          simp only [Bool.not_true, Bool.false_or, Bool.and_eq_true] at hrs
          exact ⟨hr1.flat hrs.1, ho1.flat hrs.2⟩
      · cases h3
    · cases h3
  cases ex with
  | normal => exact hfin h3
  | exit i => cases h3
  | ret => exact hfin h3
end
end Go.Ev
