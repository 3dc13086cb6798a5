/- What is proved here: the operations of the evaluator are sound; no condition. -/
import Derived.Deep.Upon
import Derived.Laws.BitsLemmas
import Derived.Laws.IdiomCopy
import Derived.Laws.MakeOwn
import Derived.Laws.Slices
import Derived.Laws.Small
import Derived.Laws.Tables
import Derived.Lib.LazyBuf
import Derived.Test.YtfglckpbconanaaGreatLa
set_option linter.unusedVariables false
set_option linter.unusedSimpArgs false
namespace Go.Ev
section
variable {P : Program} {ty : Ty} {C : Cx} {G : Gh} {st : St} {a : Act} {w : World} {R : Type} {k : St → Slot → Option R} {r : R} {o : Oper} {next : Act → World → Prop} {Q : Exit → Act → World → Prop}
theorem ok_binOp (hty : TyOk P ty) {op : BinOp} {t t2 : TypeId} {x y : Operand} (hop : o.op = .binOp op t x y t2) (h : Rel C G st a w) (hT : Then C a o.dst st.n k r next)
    (e : (match st.ev x, st.ev y with | .lf l, .lf m => binK (isBoolT ty t) op l m fun l => k st (.lf l) | _, _ => none) = some r) : o.wp P a w next Q := by
  have hx := h.ev x
  have hy := h.ev y
  have fin : ∀ (l : Leaf) (v : Value), (binOp op t (a.eval x) (a.eval y)).run P w = .ok v w → (eqGuard op t x y (a.eval x) (a.eval y)).run P w = .ok () w → RepLeaf w (G.ok C) G l v → k st (.lf l) = some r → o.wp P a w next Q := by
    intro l v h1 h2 h3 h4
    refine wp_value (w' := w) ?_ (hT G st (.lf l) v w h rfl h3 h4)
    simp only [execOp, hop]
    refine run_v (α := Value) ?_
    simp [Sem.run_bind, h2, h1]
  have finI : ∀ (kd : IntKind) (n : Int), k st (.lf (.int kd n)) = some r → (binOp op t (a.eval x) (a.eval y)).run P w = .ok (.int kd n) w → (eqGuard op t x y (a.eval x) (a.eval y)).run P w = .ok () w → o.wp P a w next Q :=
    fun kd n h4 h1 h2 => fin (.int kd n) (.int kd n) h1 h2 rfl h4
  have finB : ∀ (b : Bool), k st (.lf (.bool b)) = some r → (binOp op t (a.eval x) (a.eval y)).run P w = .ok (.bool b) w → (eqGuard op t x y (a.eval x) (a.eval y)).run P w = .ok () w → o.wp P a w next Q :=
    fun b h4 h1 h2 => fin (.bool b) (.bool b) h1 h2 rfl h4
  have finS : ∀ (b : ByteArray), k st (.lf (.str b)) = some r → (binOp op t (a.eval x) (a.eval y)).run P w = .ok (.string b) w → (eqGuard op t x y (a.eval x) (a.eval y)).run P w = .ok () w → o.wp P a w next Q :=
    fun b h4 h1 h2 => fin (.str b) (.string b) h1 h2 rfl h4
  split at e
  · rename_i l m hs1 hs2
    rw [hs1] at hx; rw [hs2] at hy
    unfold binK at e
    split at e
    · rename_i kd p kd' q
      have hx' : a.eval x = .int kd p := hx
      have hy' : a.eval y = .int kd' q := hy
      have hg : (eqGuard op t x y (a.eval x) (a.eval y)).run P w = .ok () w := by rw [hx', eqGuard_at_int]; rfl
      split at e
      · cases hq : decide (q < 0)
        · rw [hq] at e
          refine finI _ _ e ?_ hg
          have : ¬ q < 0 := by simpa using hq
          rw [hx', hy', binOp_shl]
          simp [Op.shift, this]
        · rw [hq] at e; cases e
      · cases hq : decide (q < 0)
        · rw [hq] at e
          refine finI _ _ e ?_ hg
          have : ¬ q < 0 := by simpa using hq
          rw [hx', hy', binOp_shr]
          simp [Op.shift, this]
        · rw [hq] at e; cases e
      · split at e
        · cases e
        · rename_i hne hkk
          have hkk' : kd = kd' := Classical.byContradiction hkk
          subst hkk'
          split at e
          · exact finI _ _ e (by rw [hx', hy', binOp_add]; simp [Op.intArith]) hg
          · exact finI _ _ e (by rw [hx', hy', binOp_sub]; simp [Op.intArith]) hg
          · exact finI _ _ e (by rw [hx', hy', binOp_mul]; simp [Op.intArith]) hg
          · cases hq : (q == 0)
            · rw [hq] at e
              have : q ≠ 0 := by simpa using hq
              exact finI _ _ e (by rw [hx', hy', binOp_quo]; simp [Op.intDiv, this]) hg
            · rw [hq] at e; cases e
          · cases hq : (q == 0)
            · rw [hq] at e
              have : q ≠ 0 := by simpa using hq
              exact finI _ _ e (by rw [hx', hy', binOp_rem]; simp [Op.intDiv, this]) hg
            · rw [hq] at e; cases e
          · exact finI _ _ e (by rw [hx', hy', binOp_and]; simp [Op.intBits]) hg
          · exact finI _ _ e (by rw [hx', hy', binOp_or]; simp [Op.intBits]) hg
          · exact finI _ _ e (by rw [hx', hy', binOp_xor]; simp [Op.intBits]) hg
          · exact finB _ e (by rw [hx', hy', binOp_eql]; simp) hg
          · exact finB _ e (by rw [hx', hy', binOp_neq]; simp) hg
          · exact finB _ e (by rw [hx', hy', binOp_lss]; simp) hg
          · exact finB _ e (by rw [hx', hy', binOp_leq]; simp) hg
          · exact finB _ e (by rw [hx', hy', binOp_gtr]; simp) hg
          · exact finB _ e (by rw [hx', hy', binOp_geq]; simp) hg
          · cases e
    · rename_i p q
      have hx' : a.eval x = .string p := hx
      have hy' : a.eval y = .string q := hy
      have hg : (eqGuard op t x y (a.eval x) (a.eval y)).run P w = .ok () w := by rw [hx', eqGuard_at_string]; rfl
      split at e
      · exact finB _ e (by rw [hx', hy']; simp [binOp, Op.stringOp]) hg
      · exact finB _ e (by rw [hx', hy']; simp [binOp, Op.stringOp]) hg
      · cases hq : decide (((p.size + q.size : Nat) : Int) > 9223372036854775807)
        · rw [hq] at e
          have : ¬ (((p.size + q.size : Nat) : Int) > 9223372036854775807) := by simpa using hq
          refine finS _ e ?_ hg
          rw [hx', hy']
          have h2 : ¬ (((p.size + q.size : Nat) : Int) > IntKind.i64.max) := by rw [IntKind.max_i64]; exact this
          simp only [binOp, Op.stringOp]
          rw [if_neg h2]; rfl
        · rw [hq] at e; cases e
      · cases e
    · rename_i p q
      have hx' : a.eval x = .bool p := hx
      have hy' : a.eval y = .bool q := hy
      have hg : (eqGuard op t x y (a.eval x) (a.eval y)).run P w = .ok () w := by rw [hx', eqGuard_at_bool]; rfl
      cases hb : isBoolT ty t
      · rw [hb] at e; split at e <;> cases e
      · rw [hb] at e
        have hu := isBoolT_spec hty hb
        split at e
        · exact finB _ e (by rw [hx', hy']; exact run_eql_bool w t p q hu) hg
        · exact finB _ e (by rw [hx', hy']; exact run_neq_bool w t p q hu) hg
        · cases e
    · cases e
  · cases e
theorem ok_nilCmp (hty : TyOk P ty) {op : BinOp} {t t2 : TypeId} {x y : Operand} (hop : o.op = .binOp op t x y t2) (hy : isNilC y = true) (h : Rel C G st a w) (hT : Then C a o.dst st.n k r next)
    (e : nilK ty op t (st.ev x) st k = some r) : o.wp P a w next Q := by
  have hyv : a.eval y = .slice none 0 0 := by
    unfold isNilC at hy
    split at hy
    · rfl
    · cases hy
  have hx := h.ev x
  unfold nilK at e
  cases hsz : elemSz ty t with
  | none => rw [hsz] at e; cases e
  | some sz =>
    rw [hsz] at e
    simp only [Option.isSome_some, cond_true] at e
    obtain ⟨et, ti, hu, _, _⟩ := elemSz_spec hty hsz
    have fin : ∀ (p : Option Addr) (n c : Nat), op = .eql → a.eval x = .slice p n c → k st (.lf (.bool p.isNone)) = some r → o.wp P a w next Q := by
      intro p n c ho hv h4
      subst ho
      refine wp_value (v := .bool p.isNone) (w' := w) ?_ (hT G st (.lf (.bool p.isNone)) (.bool p.isNone) w h rfl rfl h4)
      simp only [execOp, hop]
      refine run_v (α := Value) ?_
      rw [hv, hyv, eqGuard_at_slice]
      have hb : (binOp .eql t (.slice p n c) (.slice none 0 0)).run P w = .ok (.bool p.isNone) w := by
        exact Go.run_eql_slice_nil w t et p n c hu
      simp [Sem.run_bind, hb]
    have both : ∀ (b : Bool) (p : Option Addr) (n c : Nat), op = .eql → a.eval x = .slice p n c → (p = none → b = true) → nilB b (k st (.lf (.bool true))) (k st (.lf (.bool false))) = some r → o.wp P a w next Q := by
      intro b p n c ho hv hb he
      unfold nilB at he
      cases b with
      | true =>
        simp only [cond_true] at he
        by_cases hq : k st (.lf (.bool true)) = k st (.lf (.bool false))
        · rw [if_pos hq] at he
          refine fin p n c ho hv ?_
          cases p
          · exact hq.trans he
          · exact he
        · rw [if_neg hq] at he; cases he
      | false =>
        simp only [cond_false] at he
        cases p with
        | none => cases hb rfl
        | some ad => exact fin _ n c ho hv he
    split at e
    · split at e
      · rename_i hs
        rw [hs] at hx
        exact fin none 0 0 rfl hx e
      · rename_i el l b hs
        rw [hs] at hx
        obtain ⟨⟨A, c, hv, _, hr⟩, _⟩ := hx
        simp only [List.cons.injEq, and_true] at hv
        refine both _ A _ c rfl hv (fun hA => ?_) e
        cases l with
        | nil => rfl
        | cons z zs => obtain ⟨ad, h1, _⟩ := hr 0 (by simp); rw [hA] at h1; cases h1
      · rename_i id hs
        rw [hs] at hx
        split at e
        · rename_i rr hr
          obtain ⟨ai, p, c, hA, hv, hc, hp⟩ := hx
          obtain ⟨ai', hA', ha⟩ := h.mem.arrR id rr hr
          rw [hA] at hA'; cases hA'
          refine both _ p _ c rfl hv (fun hpn => ?_) e
          have : ¬ 0 < c := fun h0 => by obtain ⟨blk, base, m, _, h2, _⟩ := hp h0; rw [hpn] at h2; cases h2
          have hn := ha.n
          have : rr.l = [] := List.eq_nil_of_length_eq_zero (by omega)
          rw [this]; rfl
        · cases e
      · cases e
    · cases e
theorem capsOf_rep (h : Rel C G st a w) : ∀ {caps : List Operand} {cs : List (Nat × Nat)}, capsOf st caps = some cs → CapsAt G cs (caps.map a.eval)
  | [], cs, e => by simp [capsOf] at e; subst e; trivial
  | c :: caps, cs, e => by
    simp only [capsOf] at e
    split at e
    · rename_i b off r hs hr
      cases e
      have := h.ev c
      rw [hs] at this
      exact ⟨this, capsOf_rep h hr⟩
    · cases e
theorem ok_makeFunc {f : FuncId} {first caps : Array Operand} (hop : o.op = .makeFunc (.func f) first caps) (h : Rel C G st a w) (hT : Then C a o.dst st.n k r next)
    (e : (bif first.size == 0 then (match capsOf st caps.toList with | some cs => k st (.lf (.fn f cs)) | none => none) else none) = some r) : o.wp P a w next Q := by
  cases h0 : (first.size == 0)
  · rw [h0] at e; cases e
  · rw [h0] at e
    simp only [cond_true] at e
    split at e
    · rename_i cs hcs
      have hf : first = #[] := Array.eq_empty_of_size_eq_zero (by simpa using h0)
      refine wp_value (v := .func (.func f) #[] (caps.toList.map a.eval).toArray) (w' := w) ?_ (hT G st (.lf (.fn f cs)) _ w h rfl ⟨_, rfl, capsOf_rep h hcs⟩ e)
      simp only [execOp, hop]
      refine run_v (α := Value) ?_
      subst hf
      have hm : caps.map a.eval = (caps.toList.map a.eval).toArray := by apply Array.ext'; simp
      simp only [Instr.makeFunc, Sem.run_pure, hm]
      simp
    · cases e
theorem lenK_rep (h : Rel C G st a w) {l : Leaf} {v : Value} (hl : RepLeaf w (G.ok C) G l v) {k' : Nat → Option R} (e : lenK st l k' = some r) :
    ∃ p n c, v = .slice p n c ∧ k' n = some r := by
  unfold lenK at e
  split at e
  · obtain ⟨⟨A, c, hv, _⟩, _⟩ := hl
    simp only [List.cons.injEq, and_true] at hv
    exact ⟨A, _, c, hv, e⟩
  · exact ⟨none, 0, 0, hl, e⟩
  · split at e
    · rename_i id _ rr hr
      obtain ⟨ai, p, c, hA, hv, _⟩ := hl
      obtain ⟨ai', hA', ha⟩ := h.mem.arrR id rr hr
      rw [hA] at hA'; cases hA'
      rw [ha.n] at hv
      exact ⟨p, _, c, hv, e⟩
    · cases e
  · obtain ⟨ai, p, c, hA, hv, _⟩ := hl
    exact ⟨p, _, c, hv, e⟩
  · cases e
theorem run_callBuiltin {c : Call} {b : Builtin} (hc : c.callee = .builtin b) (hop : o.op = .call c) {s : Next} {w' : World} (hr : (builtin b c.argTypes o.type (c.args.map fun | .const _ => true | _ => false) (c.args.map a.eval)).run P w = .ok s w') :
    (execOp a.eval o).run P w = .ok s w' := by
  simp only [execOp, hop, resolve, hc, Sem.run_bind, Sem.run_pure, Result.andThen_ok, invoke]
  exact hr
theorem ok_len (hty : TyOk P ty) {c : Call} (hop : o.op = .call c) (hc : c.callee = .builtin .len) (h : Rel C G st a w) (hT : Then C a o.dst st.n k r next)
    (e : (match c.args.toList, c.argTypes.toList with
    | [x], [t] => match st.ev x with
      | .lf (.str s) => bif isStr ty t then k st (.lf (.int .i64 s.size)) else none
      | .lf l => bif (elemSz ty t).isSome then lenK st l fun n => k st (.lf (.int .i64 n)) else none
      | _ => none
    | _, _ => none) = some r) : o.wp P a w next Q := by
  split at e
  · rename_i x t h1 h2
    have ha : c.args = #[x] := by apply Array.ext'; simpa using h1
    have hat : c.argTypes = #[t] := by apply Array.ext'; simpa using h2
    have hx := h.ev x
    have fin : ∀ n : Nat, (Builtin.len_ #[t] o.type #[a.eval x]).run P w = .ok (goInt n) w → k st (.lf (.int .i64 n)) = some r → o.wp P a w next Q := fun n h3 h4 => by
      refine wp_value (v := goInt n) (w' := w) (run_callBuiltin hc hop ?_) (hT G st (.lf (.int .i64 n)) _ w h rfl rfl h4)
      rw [ha, hat]
      simp [builtin, Sem.run_bind, h3]
    split at e
    · rename_i s hs
      rw [hs] at hx
      have hx' : a.eval x = .string s := hx
      cases hst : isStr ty t
      · rw [hst] at e; cases e
      · rw [hst] at e
        refine fin _ ?_ e
        simp [Builtin.len_, Sem.run_bind, hx', run_underlying (isStr_spec hty hst)]
    · rename_i l _ hs
      rw [hs] at hx
      cases hsz : elemSz ty t with
      | none => rw [hsz] at e; cases e
      | some sz =>
        rw [hsz] at e
        obtain ⟨p, n, cc, hv, he⟩ := lenK_rep h hx (show lenK st l (fun n => k st (.lf (.int .i64 n))) = some r from e)
        obtain ⟨et, ti, hu, _, _⟩ := elemSz_spec hty hsz
        refine fin _ ?_ he
        simp [Builtin.len_, Sem.run_bind, hv, run_underlying hu]
    · cases e
  · cases e
theorem ok_cap (hty : TyOk P ty) {c : Call} (hop : o.op = .call c) (hc : c.callee = .builtin .cap) (h : Rel C G st a w) (hT : Then C a o.dst st.n k r next)
    (e : (match c.args.toList, c.argTypes.toList with
    | [x], [t] => match st.ev x with
      | .lf .nil => bif (elemSz ty t).isSome then k st (.lf (.int .i64 0)) else none
      | _ => none
    | _, _ => none) = some r) : o.wp P a w next Q := by
  split at e
  · rename_i x t h1 h2
    have ha : c.args = #[x] := by apply Array.ext'; simpa using h1
    have hat : c.argTypes = #[t] := by apply Array.ext'; simpa using h2
    have hx := h.ev x
    split at e
    · rename_i hs
      rw [hs] at hx
      have hx' : a.eval x = .slice none 0 0 := hx
      cases hsz : elemSz ty t with
      | none => rw [hsz] at e; cases e
      | some sz =>
        rw [hsz] at e
        obtain ⟨et, ti, hu, _, _⟩ := elemSz_spec hty hsz
        refine wp_value (v := goInt 0) (w' := w) (run_callBuiltin hc hop ?_) (hT G st (.lf (.int .i64 0)) _ w h rfl rfl e)
        rw [ha, hat]
        simp [builtin, Sem.run_bind, Builtin.cap_, hx', run_underlying hu]
    · cases e
  · cases e
theorem minK_rep (h : Rel C G st a w) {g : Int → Int → Int} {f : Value → Value → Sem Value} (hf : ∀ kd p q, f (.int kd p) (.int kd q) = pure (.int kd (g p q))) {kd : IntKind} {k' : Leaf → Option R} :
    ∀ {xs : List Operand} {p : Int}, minK g kd p (xs.map st.ev) k' = some r → ∃ q, ((xs.map a.eval).foldlM f (.int kd p)).run P w = .ok (.int kd q) w ∧ k' (.int kd q) = some r
  | [], p, e => ⟨p, by simp, e⟩
  | x :: xs, p, e => by
    simp only [List.map_cons] at e
    unfold minK at e
    split at e
    · rename_i heq; simp at heq
    · rename_i k'' q ls heq
      simp only [List.cons.injEq] at heq
      obtain ⟨h1, h2⟩ := heq
      split at e
      · rename_i hk
        subst hk
        have hx := h.ev x
        rw [h1] at hx
        have hx' : a.eval x = .int k'' q := hx
        rw [← h2] at e
        obtain ⟨q', h3, h4⟩ := minK_rep h hf e
        refine ⟨q', ?_, h4⟩
        simp [List.foldlM_cons, hx', hf, h3]
      · cases e
    · cases e
theorem ok_min {c : Call} {b : Builtin} (hop : o.op = .call c) {g : Int → Int → Int} {f : Value → Value → Sem Value} (hb : ∀ at_ t (xs : List Value), (builtin b at_ t (c.args.map fun | .const _ => true | _ => false) xs.toArray) = (do pure (.value (← (match xs with | [] => stuck "x" | x :: rest => rest.foldlM f x)))) ∨ xs = [])
    (hf : ∀ kd p q, f (.int kd p) (.int kd q) = pure (.int kd (g p q))) (hc : c.callee = .builtin b) (h : Rel C G st a w) (hT : Then C a o.dst st.n k r next)
    (e : (match c.args.toList.map st.ev with | .lf (.int kd p) :: ss => minK g kd p ss fun l => k st (.lf l) | _ => none) = some r) : o.wp P a w next Q := by
  split at e
  · rename_i kd p ss hs
    cases hl : c.args.toList with
    | nil => rw [hl] at hs; simp at hs
    | cons x xs =>
      rw [hl] at hs
      simp only [List.map_cons, List.cons.injEq] at hs
      obtain ⟨h1, h2⟩ := hs
      have hx := h.ev x
      rw [h1] at hx
      have hx' : a.eval x = .int kd p := hx
      rw [← h2] at e
      obtain ⟨q, h3, h4⟩ := minK_rep (P := P) h hf e
      refine wp_value (v := .int kd q) (w' := w) (run_callBuiltin hc hop ?_) (hT G st (.lf (.int kd q)) _ w h rfl rfl h4)
      have ha : c.args.map a.eval = (a.eval x :: xs.map a.eval).toArray := by apply Array.ext'; simp [hl]
      rw [ha]
      rcases hb c.argTypes o.type (a.eval x :: xs.map a.eval) with hb | hb
      · rw [hb]
        simp only [hx']
        exact run_v (α := Value) h3
      · cases hb
  · cases e
theorem ok_min' {c : Call} (hop : o.op = .call c) (hc : c.callee = .builtin .min) (h : Rel C G st a w) (hT : Then C a o.dst st.n k r next)
    (e : (match c.args.toList.map st.ev with | .lf (.int kd p) :: ss => minK mn kd p ss fun l => k st (.lf l) | _ => none) = some r) : o.wp P a w next Q :=
  ok_min hop (f := Builtin.min2) (fun _ _ xs => by cases xs with | nil => exact .inr rfl | cons x xs => exact .inl rfl) (fun _ _ _ => rfl) hc h hT e
theorem ok_max' {c : Call} (hop : o.op = .call c) (hc : c.callee = .builtin .max) (h : Rel C G st a w) (hT : Then C a o.dst st.n k r next)
    (e : (match c.args.toList.map st.ev with | .lf (.int kd p) :: ss => minK mx kd p ss fun l => k st (.lf l) | _ => none) = some r) : o.wp P a w next Q :=
  ok_min hop (f := Builtin.max2) (fun _ _ xs => by cases xs with | nil => exact .inr rfl | cons x xs => exact .inl rfl) (fun _ _ _ => rfl) hc h hT e
end
end Go.Ev

namespace Go.Ev
section
variable {P : Program} {ty : Ty} {C : Cx} {G : Gh} {st : St} {a : Act} {w : World} {R : Type} {k : St → Slot → Option R} {r : R} {o : Oper} {next : Act → World → Prop} {Q : Exit → Act → World → Prop}
theorem asI_rep {ok : Nat → Prop} {s : Slot} {v : Value} (h : RepSlot w ok G s v) {n : Int} (e : asI s = some n) : ∃ kd, v = .int kd n := by
  unfold asI at e
  split at e
  · cases e; exact ⟨_, h⟩
  · cases e
theorem bnd_rep (h : Rel C G st a w) {x : Option Operand} {n : Option Int} (e : bnd st x = some n) :
    (x = none ∧ n = none) ∨ ∃ y m kd, x = some y ∧ n = some m ∧ a.eval y = .int kd m := by
  unfold bnd at e
  split at e
  · cases e; exact .inl ⟨rfl, rfl⟩
  · rename_i y
    obtain ⟨m, h1, h2⟩ := Option.map_eq_some_iff.1 e
    obtain ⟨kd, hv⟩ := asI_rep (h.ev y) h1
    exact .inr ⟨y, m, kd, rfl, h2.symm, hv⟩
theorem run_bounds (isSlice : Bool) (len cap : Nat) {lo hi : Option Value} {l h : Int} (hl : lo = none ∧ l = 0 ∨ ∃ kd, lo = some (.int kd l)) (hh : hi = none ∧ h = len ∨ ∃ kd, hi = some (.int kd h))
    (h0 : 0 ≤ l) (h1 : l ≤ h) (h2 : h ≤ len) (h3 : len ≤ cap) (w : World) : (Instr.sliceBounds isSlice len cap lo hi none).run P w = .ok (l.toNat, h.toNat, cap) w := by
  have e1 : (h.toNat : Int) = h := Int.toNat_of_nonneg (by omega)
  rcases hh with ⟨rfl, rfl⟩ | ⟨kh, rfl⟩ <;> rcases hl with ⟨rfl, rfl⟩ | ⟨kl, rfl⟩
  · simp [Instr.sliceBounds]
  · simp [Instr.sliceBounds, run_sliceBound, h0, h1]
  · simp [Instr.sliceBounds, run_sliceBound, (show 0 ≤ h by omega), (show h ≤ cap by omega)]
  · simp [Instr.sliceBounds, run_sliceBound, (show 0 ≤ h by omega), (show h ≤ cap by omega), h0, e1, h1]
theorem run_bounds3 (len cap : Nat) {lo : Option Value} {l h : Int} {kh km : IntKind} (hl : lo = none ∧ l = 0 ∨ ∃ kd, lo = some (.int kd l))
    (h0 : 0 ≤ l) (h1 : l ≤ h) (h2 : h ≤ len) (h3 : len ≤ cap) (w : World) : (Instr.sliceBounds true len cap lo (some (.int kh h)) (some (.int km h))).run P w = .ok (l.toNat, h.toNat, h.toNat) w := by
  have e1 : (h.toNat : Int) = h := Int.toNat_of_nonneg (by omega)
  rcases hl with ⟨rfl, rfl⟩ | ⟨kl, rfl⟩
  · simp [Instr.sliceBounds, run_sliceBound, (show 0 ≤ h by omega), (show h ≤ cap by omega), e1]
  · simp [Instr.sliceBounds, run_sliceBound, (show 0 ≤ h by omega), (show h ≤ cap by omega), h0, e1, h1]
theorem run_sliceAt_of {t e : TypeId} (hu : P.underlying t = some (.slice e)) {i : TypeInfo} (hi : P.info? e = some i) {A : Option Addr} {len cap : Nat} {lo hi' mx : Option Value} {l h m : Nat} (hb : (Instr.sliceBounds true len cap lo hi' mx).run P w = .ok (l, h, m) w) :
    (Instr.sliceAt t (.slice A len cap) lo hi' mx).run P w = .ok (.slice (if m = l then A else A.map (·.add (l * i.size))) (h - l) (m - l)) w := by
  simp [Instr.sliceAt, Sem.run_bind, run_underlying hu, Instr.slice, hb, run_sizeOf hi]
theorem run_sliceAt_str {t : TypeId} (hu : P.underlying t = some .string) {s : ByteArray} {lo hi' : Option Value} {l h m : Nat} (hb : (Instr.sliceBounds false s.size s.size lo hi' none).run P w = .ok (l, h, m) w) :
    (Instr.sliceAt t (.string s) lo hi' none).run P w = .ok (.string (s.extract l h)) w := by
  simp [Instr.sliceAt, Sem.run_bind, run_underlying hu, Instr.slice, hb]
theorem RepT.piece {ok : Nat → Prop} {e : K} {l : List e.T} {A : Option Addr} {c : Nat} (h : RepT w ok (.sl e) l [.slice A l.length c]) {lo hi m : Nat} (h1 : lo ≤ hi) (h2 : hi ≤ l.length) (h3 : hi ≤ m) :
    RepT w ok (.sl e) ((l.take hi).drop lo) [.slice (if m = lo then A else A.map (·.add (lo * e.sz))) (hi - lo) (m - lo)] := by
  obtain ⟨A', c', hv, hc, hel⟩ := h
  simp only [List.cons.injEq, and_true, Value.slice.injEq] at hv
  obtain ⟨rfl, _, rfl⟩ := hv
  have hlen : ((l.take hi).drop lo).length = hi - lo := by simp; omega
  refine ⟨_, _, by rw [hlen], by omega, fun i hi' => ?_⟩
  rw [hlen] at hi'
  obtain ⟨ad, rfl, hok, cs, h4, h5⟩ := hel (lo + i) (by omega)
  refine ⟨ad.add (lo * e.sz), by rw [if_neg (by omega)]; rfl, by rw [addr_add_block]; exact hok, cs, ?_, fun j v hj => ?_⟩
  · have : ((l.take hi).drop lo).getD i e.zero = l.getD (lo + i) e.zero := by
      rw [List.getD_eq_getElem?_getD, List.getD_eq_getElem?_getD, List.getElem?_drop, List.getElem?_take, if_pos (by omega)]
    rw [this]; exact h4
  · rw [addr_add_add]
    have := h5 j v hj
    rw [Nat.add_mul] at this
    rw [show lo * e.sz + (i * e.sz + j) = lo * e.sz + i * e.sz + j by omega]
    exact this
theorem ok_slice (hty : TyOk P ty) {t : TypeId} {x : Operand} {lo hi : Option Operand} (hop : o.op = .slice t x lo hi none) (h : Rel C G st a w) (hT : Then C a o.dst st.n k r next) {l' h' : Option Int} (hlo : bnd st lo = some l') (hhi : bnd st hi = some h')
    (e : sliceK ty t (st.ev x) l' h' st k = some r) : o.wp P a w next Q := by
  have hx := h.ev x
  have hl : (lo.map a.eval) = none ∧ l'.getD 0 = 0 ∨ ∃ kd, (lo.map a.eval) = some (.int kd (l'.getD 0)) := by
    rcases bnd_rep h hlo with ⟨rfl, rfl⟩ | ⟨y, m, kd, rfl, rfl, hv⟩
    · exact .inl ⟨rfl, rfl⟩
    · exact .inr ⟨kd, by simp [hv]⟩
  have hh : ∀ n : Nat, (hi.map a.eval) = none ∧ h'.getD n = n ∨ ∃ kd, (hi.map a.eval) = some (.int kd (h'.getD n)) := by
    intro n
    rcases bnd_rep h hhi with ⟨rfl, rfl⟩ | ⟨y, m, kd, rfl, rfl, hv⟩
    · exact .inl ⟨rfl, rfl⟩
    · exact .inr ⟨kd, by simp [hv]⟩
  have fin : ∀ (s : Slot) (v : Value), (Instr.sliceAt t (a.eval x) (lo.map a.eval) (hi.map a.eval) none).run P w = .ok v w → RepSlot w (G.ok C) G s v → k st s = some r → o.wp P a w next Q := fun s v h1 h2 h3 => by
    refine wp_value (w' := w) ?_ (hT G st s v w h rfl h2 h3)
    simp only [execOp, hop]
    exact run_v (α := Value) h1
  unfold sliceK at e
  split at e
  · rename_i s hs
    rw [hs] at hx
    have hx' : a.eval x = .string s := hx
    cases hst : isStr ty t
    · rw [hst] at e; cases e
    · rw [hst] at e
      simp only [cond_true] at e
      cases hc : decide (0 ≤ l'.getD 0 ∧ l'.getD 0 ≤ h'.getD s.size ∧ h'.getD s.size ≤ s.size)
      · rw [hc] at e; cases e
      · rw [hc] at e
        have hc' := of_decide_eq_true hc
        refine fin (.lf (.str _)) (.string _) ?_ rfl e
        rw [hx']
        exact run_sliceAt_str (isStr_spec hty hst) (run_bounds false _ _ hl (hh _) hc'.1 hc'.2.1 hc'.2.2 (Nat.le_refl _) w)
  · rename_i el l xf hs
    rw [hs] at hx
    cases hsz : (elemSz ty t == some el.sz)
    · rw [hsz] at e; cases e
    · rw [hsz] at e
      simp only [cond_true] at e
      obtain ⟨et, ti, hu, hi', hs'⟩ := elemSz_spec hty (by simpa using hsz)
      cases hc : decide (0 ≤ l'.getD 0 ∧ l'.getD 0 ≤ h'.getD l.length ∧ h'.getD l.length ≤ l.length)
      · rw [hc] at e; cases e
      · rw [hc] at e
        have hc' := of_decide_eq_true hc
        obtain ⟨hrep, _⟩ := hx
        obtain ⟨A, c, hv, hcap, _⟩ := id hrep
        simp only [List.cons.injEq, and_true] at hv
        rw [hv] at hrep
        refine fin (.lf (.sl el _ .no)) _ ?_ ⟨hrep.piece (lo := (l'.getD 0).toNat) (hi := (h'.getD l.length).toNat) (m := c) (by omega) (by omega) (by omega), fun h => (by cases h), fun _ _ h => (by cases h)⟩ e
        rw [hv, ← hs']
        exact run_sliceAt_of hu hi' (run_bounds true _ _ hl (hh _) hc'.1 hc'.2.1 hc'.2.2 hcap w)
  · rename_i id hs
    rw [hs] at hx
    split at e
    · rename_i rr hr
      cases hsz : (elemSz ty t == some rr.e.sz)
      · rw [hsz] at e; cases e
      · rw [hsz] at e
        simp only [cond_true] at e
        obtain ⟨et, ti, hu, hi', hs'⟩ := elemSz_spec hty (by simpa using hsz)
        cases hc : decide (0 ≤ l'.getD 0 ∧ l'.getD 0 ≤ h'.getD rr.l.length ∧ h'.getD rr.l.length ≤ rr.l.length)
        · rw [hc] at e; cases e
        · rw [hc] at e
          have hc' := of_decide_eq_true hc
          obtain ⟨ai, p, c, hA, hv, hcap, hp⟩ := hx
          obtain ⟨ai', hA', ha⟩ := h.mem.arrR id rr hr
          rw [hA] at hA'; cases hA'
          rw [ha.n] at hv hcap
          refine fin (.lf (.sub id _ _)) (.slice (if c = (l'.getD 0).toNat then p else p.map (·.add ((l'.getD 0).toNat * ti.size))) ((h'.getD rr.l.length).toNat - (l'.getD 0).toNat) (c - (l'.getD 0).toNat)) ?_
            ⟨ai, _, _, hA, rfl, by omega, by rw [ha.n]; omega, fun h0 => ?_⟩ e
          · rw [hv]
            exact run_sliceAt_of hu hi' (run_bounds true _ _ hl (hh _) hc'.1 hc'.2.1 hc'.2.2 hcap w)
          · have hne : ¬ c = (l'.getD 0).toNat := by omega
            have heq : (l'.getD 0).toNat + (c - (l'.getD 0).toNat) = c := by omega
            obtain ⟨blk, base, m, h1, rfl, h2⟩ := hp (by omega)
            refine ⟨blk, base, m, h1, ?_, ?_⟩
            · rw [if_neg hne]; simp [Addr.add_mid, hs', ha.sz]
            · rw [heq]; exact h2
    · cases e
  · rename_i id off n hs
    rw [hs] at hx
    split at e
    · rename_i rr hr
      cases hsz : (elemSz ty t == some rr.e.sz)
      · rw [hsz] at e; cases e
      · rw [hsz] at e
        simp only [cond_true] at e
        obtain ⟨et, ti, hu, hi', hs'⟩ := elemSz_spec hty (by simpa using hsz)
        cases hc : decide (0 ≤ l'.getD 0 ∧ l'.getD 0 ≤ h'.getD n ∧ h'.getD n ≤ n)
        · rw [hc] at e; cases e
        · rw [hc] at e
          have hc' := of_decide_eq_true hc
          obtain ⟨ai, p, c, hA, hv, hcap, hlen, hp⟩ := hx
          obtain ⟨ai', hA', ha⟩ := h.mem.arrR id rr hr
          rw [hA] at hA'; cases hA'
          refine fin (.lf (.sub id _ _)) (.slice (if c = (l'.getD 0).toNat then p else p.map (·.add ((l'.getD 0).toNat * ti.size))) ((h'.getD n).toNat - (l'.getD 0).toNat) (c - (l'.getD 0).toNat)) ?_
            ⟨ai, _, _, hA, rfl, by omega, by omega, fun h0 => ?_⟩ e
          · rw [hv]
            exact run_sliceAt_of hu hi' (run_bounds true _ _ hl (hh _) hc'.1 hc'.2.1 hc'.2.2 hcap w)
          · have hne : ¬ c = (l'.getD 0).toNat := by omega
            have heq : off + (l'.getD 0).toNat + (c - (l'.getD 0).toNat) = off + c := by omega
            obtain ⟨blk, base, m, h1, rfl, h2⟩ := hp (by omega)
            refine ⟨blk, base, m, h1, ?_, ?_⟩
            · rw [if_neg hne]; simp [Addr.add_mid, hs', ha.sz, Nat.add_mul, Nat.add_assoc]
            · rw [heq]; exact h2
    · cases e
  · rename_i hs
    rw [hs] at hx
    have hv : a.eval x = .slice none 0 0 := hx
    cases hsz : elemSz ty t with
    | none => rw [hsz] at e; cases e
    | some sz =>
      rw [hsz] at e
      simp only [Option.isSome_some, cond_true] at e
      obtain ⟨et, ti, hu, hi', hs'⟩ := elemSz_spec hty hsz
      cases hc : decide (0 ≤ l'.getD 0 ∧ l'.getD 0 ≤ h'.getD 0 ∧ h'.getD 0 ≤ 0)
      · rw [hc] at e; cases e
      · rw [hc] at e
        have hc' := of_decide_eq_true hc
        have hl0 : l'.getD 0 = 0 := by omega
        have hh0 : h'.getD 0 = 0 := by omega
        refine fin (.lf .nil) (.slice (if 0 = (l'.getD 0).toNat then none else none) ((h'.getD 0).toNat - (l'.getD 0).toNat) (0 - (l'.getD 0).toNat)) ?_ ?_ e
        · rw [hv]
          exact run_sliceAt_of hu hi' (run_bounds true _ _ hl (hh 0) hc'.1 hc'.2.1 hc'.2.2 (Nat.le_refl _) w)
        · rw [hl0, hh0]; rfl
  · cases e
theorem ok_slice3 (hty : TyOk P ty) {t : TypeId} {x : Operand} {lo : Option Operand} {hi mx : Operand} (hop : o.op = .slice t x lo (some hi) (some mx)) (h : Rel C G st a w) (hT : Then C a o.dst st.n k r next) {l' : Option Int} {h' m' : Int} (hlo : bnd st lo = some l') (hhi : asI (st.ev hi) = some h') (hmx : asI (st.ev mx) = some m') (hhm : h' = m')
    (e : slice3K ty t (st.ev x) l' h' st k = some r) : o.wp P a w next Q := by
  subst hhm
  have hx := h.ev x
  have hl : (lo.map a.eval) = none ∧ l'.getD 0 = 0 ∨ ∃ kd, (lo.map a.eval) = some (.int kd (l'.getD 0)) := by
    rcases bnd_rep h hlo with ⟨rfl, rfl⟩ | ⟨y, m, kd, rfl, rfl, hv⟩
    · exact .inl ⟨rfl, rfl⟩
    · exact .inr ⟨kd, by simp [hv]⟩
  obtain ⟨kh, hhv⟩ := asI_rep (h.ev hi) hhi
  obtain ⟨km, hmv⟩ := asI_rep (h.ev mx) hmx
  have fin : ∀ (G' : Gh) (st' : St) (s : Slot) (v : Value), Rel C G' st' a w → st'.n = st.n → (Instr.sliceAt t (a.eval x) (lo.map a.eval) (some (.int kh h')) (some (.int km h'))).run P w = .ok v w → RepSlot w (G'.ok C) G' s v → k st' s = some r → o.wp P a w next Q := fun G' st' s v h0 hn h1 h2 h3 => by
    refine wp_value (w' := w) ?_ (hT G' st' s v w h0 hn h2 h3)
    simp only [execOp, hop, Option.map_some, hhv, hmv]
    exact run_v (α := Value) h1
  unfold slice3K at e
  split at e
  · rename_i el l xf hs
    rw [hs] at hx
    cases hsz : (elemSz ty t == some el.sz)
    · rw [hsz] at e; cases e
    · rw [hsz] at e
      simp only [cond_true] at e
      obtain ⟨et, ti, hu, hi', hs'⟩ := elemSz_spec hty (by simpa using hsz)
      cases hc : decide (0 ≤ l'.getD 0 ∧ l'.getD 0 ≤ h' ∧ h' ≤ l.length)
      · rw [hc] at e; cases e
      · rw [hc] at e
        have hc' := of_decide_eq_true hc
        obtain ⟨hrep, _⟩ := hx
        have hrep0 := hrep
        obtain ⟨A, c, hv, hcap, _⟩ := hrep0
        simp only [List.cons.injEq, and_true] at hv
        rw [hv] at hrep
        have hpc := hrep.piece (lo := (l'.getD 0).toNat) (hi := h'.toNat) (m := h'.toNat) (by omega) (by omega) (by omega)
        have hlen : ((l.take h'.toNat).drop (l'.getD 0).toNat).length = h'.toNat - (l'.getD 0).toNat := by simp; omega
        refine fin G st (.lf (.sl el ((l.take h'.toNat).drop (l'.getD 0).toNat) .cap)) _ h rfl ?_ ⟨hpc, fun _ => ⟨_, by rw [hlen]⟩, fun _ _ h => (by cases h)⟩ e
        rw [hv, ← hs']
        exact run_sliceAt_of hu hi' (run_bounds3 _ _ hl hc'.1 hc'.2.1 hc'.2.2 hcap w)
  · rename_i id hs
    rw [hs] at hx
    split at e
    · rename_i rr hr
      cases hsz : (elemSz ty t == some rr.e.sz)
      · rw [hsz] at e; cases e
      · rw [hsz] at e
        simp only [cond_true] at e
        obtain ⟨et, ti, hu, hi', hs'⟩ := elemSz_spec hty (by simpa using hsz)
        cases hc : decide (0 ≤ l'.getD 0 ∧ l'.getD 0 ≤ h' ∧ h' ≤ rr.l.length)
        · rw [hc] at e; cases e
        · rw [hc] at e
          have hc' := of_decide_eq_true hc
          have hidlt : id < 65000 := by obtain ⟨ai, hA, _⟩ := h.mem.arrR id rr hr; exact h.mem.ia id ai hA
          obtain ⟨h1, H, ai, hA, ha, hblk⟩ := h.freeze hidlt hr
          have hfz := Leaf.freeze_rep (x := none) (F := []) hA ha H hblk (l := .own id) hx
          simp only [Leaf.freeze, beq_self_eq_true, cond_true, RepLeaf] at hfz
          obtain ⟨hrep, _⟩ := hfz
          have hrep0 := hrep
          obtain ⟨A, c, hv, hcap, _⟩ := hrep0
          simp only [List.cons.injEq, and_true] at hv
          rw [hv] at hrep
          have hpc := hrep.piece (lo := (l'.getD 0).toNat) (hi := h'.toNat) (m := h'.toNat) (by omega) (by omega) (by omega)
          have hlen : ((rr.l.take h'.toNat).drop (l'.getD 0).toNat).length = h'.toNat - (l'.getD 0).toNat := by simp; omega
          refine fin _ _ (.lf (.sl rr.e ((rr.l.take h'.toNat).drop (l'.getD 0).toNat) .cap)) _ h1 rfl ?_ ⟨hpc, fun _ => ⟨_, by rw [hlen]⟩, fun _ _ h => (by cases h)⟩ e
          rw [hv, ← hs']
          exact run_sliceAt_of hu hi' (run_bounds3 _ _ hl hc'.1 hc'.2.1 hc'.2.2 hcap w)
    · cases e
  · cases e
end
end Go.Ev

namespace Go.Ev
theorem foldl_set : ∀ (l : List Value) (k : Nat) (cells : Array Value) (off : Nat), off + k + l.length ≤ cells.size →
    ((l.zipIdx k).foldl (fun cs (p : Value × Nat) => cs.setIfInBounds (off + p.2) p.1) cells).toList = cells.toList.take (off + k) ++ (l ++ cells.toList.drop (off + k + l.length))
  | [], k, cells, off, h => by simp
  | v :: l, k, cells, off, h => by
    simp only [List.zipIdx_cons, List.foldl_cons]
    simp only [List.length_cons] at h
    rw [foldl_set l (k + 1) _ off (by simp; omega)]
    have hs : (cells.setIfInBounds (off + k) v).toList = cells.toList.set (off + k) v := by simp
    rw [hs]
    have hlt : off + k < cells.toList.length := by simp; omega
    rw [show off + (k + 1) = off + k + 1 by omega, List.take_set, List.drop_set_of_lt (by omega), List.take_add_one, List.getElem?_eq_getElem hlt]
    have : (cells.toList.take (off + k) ++ (some cells.toList[off + k]).toList).set (off + k) v = cells.toList.take (off + k) ++ [v] := by
      rw [List.set_append_right _ _ (by rw [List.length_take]; exact Nat.min_le_left _ _)]
      congr 1
      simp only [List.length_take, Option.toList_some]
      rw [Nat.min_eq_left (by omega), Nat.sub_self]
      rfl
    rw [this]
    simp only [List.length_cons, List.append_assoc, List.cons_append, List.nil_append]
    rw [show off + k + 1 + l.length = off + k + (l.length + 1) by omega]
theorem fill_cells {v : Value} {cells : Array Value} {off : Nat} (h : off + v.cells.size ≤ cells.size) :
    (v.cells.zipIdx.foldl (fun cs (p : Value × Nat) => cs.setIfInBounds (off + p.2) p.1) cells).toList = splice cells.toList off v.cells.toList := by
  rw [← Array.foldl_toList, Array.toList_zipIdx]
  have := foldl_set v.cells.toList 0 cells off (by simpa using h)
  simpa [splice] using this
section
variable {P : Program} {ty : Ty} {C : Cx} {G : Gh} {st : St} {a : Act} {w : World} {R : Type} {k : St → Slot → Option R} {r : R} {o : Oper} {next : Act → World → Prop} {Q : Exit → Act → World → Prop}
theorem RepLeafs.splice {ok : Nat → Prop} {ls us : List Leaf} {vs ws : List Value} (h : RepLeafs w ok G ls vs) (h' : RepLeafs w ok G us ws) (off : Nat) : RepLeafs w ok G (Ev.splice ls off us) (Ev.splice vs off ws) := by
  unfold Ev.splice
  rw [h'.length]
  exact (h.take _).append (h'.append (h.drop _))
theorem places_of : ∀ {fs : List (Nat × Nat × Bool)} {fields : List Field}, fieldsAre P fs fields = true →
    fields.mapM (fun f => (P.info? f.type).map fun i => (f.offset, i.size)) = some (fs.map fun x => (x.1, x.2.1))
  | [], [], _ => rfl
  | x :: xs, f :: fl, h => by
    have h' := h
    simp only [fieldsAre, Bool.and_eq_true, beq_iff_eq] at h
    obtain ⟨⟨⟨⟨⟨⟨h1, h2⟩, h3⟩, h4⟩, h5⟩, h6⟩, h7⟩ := h
    obtain ⟨ti, hti⟩ := Option.isSome_iff_exists.1 h5
    rw [List.mapM_cons, places_of h7]
    simp [hti, h1, h2, Program.cellsOf]
  | [], _ :: _, h => by cases h
  | _ :: _, [], h => by cases h
theorem fill_rep (h : Rel C G st a w) {fs : List (Nat × Nat × Bool)} {fields : List Field} (hfs : fieldsAre P fs fields = true) : ∀ {ps : List (Nat × Operand)} {ls ls' : List Leaf} {cells : Array Value},
    RepLeafs w (G.ok C) G ls cells.toList → fillLeafs fs st ps ls = some ls' →
    ∃ cells', Instr.fill (fun i => (fs.map fun x => (x.1, x.2.1))[i]?) cells (ps.map fun p => (p.1, a.eval p.2)) = some cells' ∧ RepLeafs w (G.ok C) G ls' cells'.toList
  | [], ls, ls', cells, hr, e => by simp [fillLeafs] at e; subst e; exact ⟨cells, rfl, hr⟩
  | (i, x) :: ps, ls, ls', cells, hr, e => by
    simp only [fillLeafs] at e
    split at e
    · rename_i off size agg hf
      obtain ⟨f, _, _, h0, _⟩ := fieldsAre_get hfs hf
      cases hc : ((st.ev x).leafs.length == size && (st.ev x).isAg == agg && Nat.ble (off + size) ls.length)
      · rw [hc] at e; cases e
      · rw [hc] at e
        simp only [cond_true] at e
        simp only [Bool.and_eq_true, beq_iff_eq] at hc
        obtain ⟨⟨h1, _⟩, h3⟩ := hc
        have h3' : off + size ≤ ls.length := Nat.le_of_ble_eq_true h3
        simp only at h0
        obtain ⟨h4, _⟩ := leafs_rep (h.ev x) h1 (by omega)
        have hl := h4.length
        have hl2 := hr.length
        have hsz : (a.eval x).cells.size = size := by rw [← h1, hl]; simp
        have hle : off + (a.eval x).cells.size ≤ cells.size := by rw [hsz]; simpa [hl2] using h3'
        have hfc := fill_cells (v := a.eval x) (cells := cells) (off := off) hle
        obtain ⟨cells', h5, h6⟩ := fill_rep h hfs (ps := ps) (ls := splice ls off (st.ev x).leafs) (cells := (a.eval x).cells.zipIdx.foldl (fun cs (p : Value × Nat) => cs.setIfInBounds (off + p.2) p.1) cells) (by rw [hfc]; exact hr.splice h4 off) e
        refine ⟨cells', ?_, h6⟩
        have hpl : (fs.map fun x => (x.1, x.2.1))[i]? = some (off, size) := by simp [hf]
        simp only [List.map_cons, Instr.fill, hpl]
        rw [if_neg (by simp [hsz]; simpa [hsz] using hle)]
        exact h5
    · cases e
theorem ok_build (hty : TyOk P ty) {t : TypeId} {ps : Array (Nat × Operand)} (hop : o.op = .build t ps) (h : Rel C G st a w) (hT : Then C a o.dst st.n k r next) (e : buildK ty t ps.toList st k = some r) : o.wp P a w next Q := by
  unfold buildK at e
  split at e
  · rename_i fs b1 b2 b3 zero b5 hti
    obtain ⟨i, z, hi, _, _, hz, _, hzl, _⟩ := (hty t _ hti).info
    obtain ⟨d, hd, _, hst, _⟩ := (hty t _ hti).und
    obtain ⟨fields, rfl, hfs⟩ := hst fs rfl
    split at e
    · rename_i ls hls
      obtain ⟨cells, h1, h2⟩ := fill_rep h hfs (leafsAre_rep hzl) hls
      refine wp_value (v := .agg cells) (w' := w) ?_ (hT G st (.ag ls) _ w h rfl ⟨cells.toList, by simp, h2⟩ e)
      simp only [execOp, hop]
      refine run_v (α := Value) (run_build w t _ cells ?_)
      have hp := places_of hfs
      simp only [Program.built, hi, hd, hz, hp]
      rw [show (ps.map fun x => (x.1, a.eval x.2)).toList = ps.toList.map fun p => (p.1, a.eval p.2) by simp]
      simpa using h1
    · cases e
  · cases e
theorem Rel.new_arr (h : Rel C G st a w) {id : Nat} (hid0 : id < 64000) (hnone : st.arr.get id = none) {e : K} {l : List e.T} {dp : Bool} {cells : Array Value} (et : TypeId) (hm : l.length * e.sz ≤ cells.size)
    (hel : ∀ i, i < l.length → ∃ cs, RepT w (G.ok C) e (l.getD i e.zero) cs ∧ ∀ j v, cs[j]? = some v → cells[i * e.sz + j]? = some v)
    (hdp : dp = true → ∃ Fs : List (List Nat), Fs.length = l.length ∧ Loose C G w Fs.flatten ∧ ∀ i, i < l.length → ∃ cs, OwnT w e (l.getD i e.zero) cs (Fs.getD i []) ∧ ∀ j v, cs[j]? = some v → cells[i * e.sz + j]? = some v) :
    ∃ G', Rel C G' (st.newArr id ⟨e, l, dp⟩) a (w.alloc (.cells cells et)) ∧
      ∀ cap, l.length ≤ cap → cap * e.sz ≤ cells.size → RepLeaf (w.alloc (.cells cells et)) (G'.ok C) G' (.own id) (.slice (some ⟨w.heap.size, 0, none⟩) l.length cap) := by
  have hid : id < 65000 := by omega
  have hA : G.A id = none := by
    cases hq : G.A id with
    | none => rfl
    | some ai => obtain ⟨r, h1⟩ := h.mem.adom id ai hq; rw [hnone] at h1; cases h1
  have hsz := h.mem.size
  have hcell : ∀ j v, cells[j]? = some v → (w.alloc (.cells cells et)).cell? ⟨w.heap.size, 0 + j, none⟩ = some v := fun j v hj => by
    rw [Nat.zero_add, World.cell?_alloc_new]; exact hj
  have hG : ∃ Fs : List (List Nat), (dp = true → Fs.length = l.length ∧ Loose C G w Fs.flatten ∧ ∀ i, i < l.length → ∃ cs, OwnT w e (l.getD i e.zero) cs (Fs.getD i []) ∧ ∀ j v, cs[j]? = some v → cells[i * e.sz + j]? = some v) ∧ Loose C G w Fs.flatten := by
    cases dp with
    | false => exact ⟨[], fun h => (by cases h), Loose.nil C G w⟩
    | true => obtain ⟨Fs, h1, h2, h3⟩ := hdp rfl; exact ⟨Fs, fun _ => ⟨h1, h2, h3⟩, h2⟩
  obtain ⟨Fs, hF, hL⟩ := hG
  have hwr : ∀ i, (G.setA id (some ⟨e.sz, l.length, some (w.heap.size, 0, cells.size)⟩) Fs).wr i → G.wr i ∨ i = w.heap.size := by
    rintro i (⟨b, base, hb⟩ | ⟨j, aj, base, m, hj, hl⟩)
    · exact .inl (Gh.wr_of_B hb)
    · by_cases e : j = id
      · subst e; rw [Gh.setA_same] at hj; cases hj; simp at hl; exact .inr hl.1.symm
      · rw [Gh.setA_ne _ _ _ e] at hj; exact .inl (Gh.wr_of_A hj hl)
  obtain ⟨h1, H, hle⟩ := h.set_arr (w' := w.alloc (.cells cells et)) hid (a' := ⟨e, l, dp⟩) (ai' := ⟨e.sz, l.length, some (w.heap.size, 0, cells.size)⟩) (F' := Fs)
    (fun ai hai => by rw [hA] at hai; cases hai) (.inl hid0) (by simp) (fun x v _ hx => alloc_keeps w _ x v hx)
    (fun blk base m hl => by simp at hl; obtain ⟨rfl, rfl, rfl⟩ := hl; exact .inl ⟨Nat.le_refl _, by simp⟩)
    (fun H => by
      refine ⟨rfl, rfl, fun hn => (by cases hn), fun blk base m hl => ?_, fun blk base m hl j hj => ?_, fun blk base m hl => ?_, fun blk base m hl j hj => ?_, fun blk base m hl i hi => ?_⟩ <;>
        (simp only [Option.some.injEq, Prod.mk.injEq] at hl; obtain ⟨rfl, rfl, rfl⟩ := hl)
      · exact .inl hsz
      · exact .inl hsz
      · exact hm
      · exact ⟨cells[j], hcell j _ (Array.getElem?_eq_getElem hj), by simp⟩
      · obtain ⟨cs, h1, h2⟩ := hel i hi
        exact ⟨cs, h1.trans H, fun j v hj => hcell _ _ (h2 j v hj)⟩)
    (fun hd => by
      obtain ⟨h1, _, h3⟩ := hF hd
      refine ⟨fun blk base m hl => ?_, h1, fun blk base m hl i hi => ?_⟩ <;> (simp only [Option.some.injEq, Prod.mk.injEq] at hl; obtain ⟨rfl, rfl, rfl⟩ := hl)
      · exact .inl hsz
      · obtain ⟨cs, h4, h5⟩ := h3 i hi
        exact ⟨cs, h4.trans fun x v _ hx => alloc_keeps w _ x v hx, fun j v hj => hcell _ _ (h5 j v hj)⟩)
    hL.nd
    (fun b hb => ⟨hL.new b hb, by have := hL.lt b hb; simp; omega, fun hc => by
      rcases hwr b hc with hc | hc
      · exact hL.wr b hb hc
      · have := hL.lt b hb; omega, fun id' _ => hL.inn b hb id'⟩)
    (h.fr.alloc _)
  refine ⟨_, h1, fun cap h2 h3 => ?_⟩
  exact ⟨_, _, cap, Gh.setA_same .., rfl, h2, fun _ => ⟨w.heap.size, 0, cells.size, rfl, rfl, h3⟩⟩
theorem room_spec {n b : Nat} (h : room n b = true) : n * b ≤ 140737488355328 := by simpa [room] using h
theorem getElem?_madeCells (cs : Array Value) (n j : Nat) (hj : j < n) (h0 : 0 < cs.size) : (madeCells cs n)[j]? = cs[j % cs.size]? := by
  have : j % cs.size < cs.size := Nat.mod_lt _ h0
  simp [madeCells, hj, this]
theorem ok_makeSlice (hty : TyOk P ty) {t : TypeId} {x y : Operand} (hop : o.op = .makeSlice t x y) (h : Rel C G st a w) (hd : o.dst.getD 0 < st.n) (hT : Then C a o.dst st.n k r next) (e : makeSliceK ty (o.dst.getD 0) t (st.ev x) (st.ev y) st k = some r) : o.wp P a w next Q := by
  have hx := h.ev x
  have hy := h.ev y
  unfold makeSliceK at e
  split at e
  · rename_i et b1 b2 b3 b4 b5 kl n kc m hti hs1 hs2
    rw [hs1] at hx; rw [hs2] at hy
    have hx' : a.eval x = .int kl n := hx
    have hy' : a.eval y = .int kc m := hy
    obtain ⟨d, hd2, _, _, hsl, _⟩ := (hty t _ hti).und
    have hu : P.underlying t = some (.slice et) := by rw [hd2, hsl et rfl]
    split at e
    · rename_i dd c1 c2 bytes c4 el hte
      obtain ⟨i, z, hi, hisz, hiby, hz, hzs, _, hkd⟩ := (hty et _ hte).info
      obtain ⟨hk1, hk2, hk3⟩ := hkd el rfl
      split at e
      · cases e
      · rename_i hnone
        cases hc : decide (0 ≤ n ∧ n ≤ m)
        · rw [hc] at e; cases e
        · rw [hc] at e
          simp only [cond_true] at e
          obtain ⟨h0, h1⟩ := of_decide_eq_true hc
          cases hrm : room m.toNat bytes
          · rw [hrm] at e; cases e
          · rw [hrm] at e
            simp only [cond_true] at e
            have hrm' := room_spec hrm
            simp only at hk1 hk2 hisz hiby hzs
            have hm0 : m.toNat ≤ m.toNat * bytes := Nat.le_mul_of_pos_right _ hk2
            have hmm : ((m.toNat : Nat) : Int) = m := Int.toNat_of_nonneg (by omega)
            have hbm : (i.bytes : Int) * m ≤ 281474976710656 := by
              rw [hiby, ← hmm]
              have : ((bytes * m.toNat : Nat) : Int) ≤ 281474976710656 := by rw [Nat.mul_comm] at hrm'; omega
              rwa [Int.natCast_mul] at this
            have hrun := run_make (P := P) w t et i z hu hi hz kl kc n m h0 h1 hbm (by omega)
            have hn := h.n
            have hidlt : o.dst.getD 0 * 4 < 64000 := by
              have : o.dst.getD 0 < 16000 := Nat.lt_of_lt_of_le hd hn
              exact Nat.lt_of_lt_of_le (Nat.mul_lt_mul_of_pos_right this (by decide)) (by decide)
            have hzl : z.cells.toList.length = el.sz := by simp [hzs, hk1]
            have hz0 : 0 < z.cells.size := by rw [hzs, ← hk1]; exact el.sz_pos
            have hcells : ∀ q, q < n.toNat → ∀ j v, z.cells.toList[j]? = some v → (madeCells z.cells (m.toNat * i.size))[q * el.sz + j]? = some v := fun q hq j v hj => by
              have hjl : j < el.sz := by rw [← hzl]; exact (List.getElem?_eq_some_iff.1 hj).1
              have hzz : z.cells.size = el.sz := by rw [hzs, hk1]
              have hlt : q * el.sz + j < m.toNat * i.size := by
                rw [hisz, ← hk1]
                have : (q + 1) * el.sz ≤ m.toNat * el.sz := Nat.mul_le_mul_right _ (by omega)
                rw [Nat.add_mul] at this; omega
              rw [getElem?_madeCells _ _ _ hlt hz0, hzz, Nat.mul_comm q, Nat.mul_add_mod, Nat.mod_eq_of_lt hjl]
              simpa using hj
            have hrep : ∀ q, q < n.toNat → (List.replicate n.toNat el.zero).getD q el.zero = el.zero := fun q hq => by rw [List.getD_eq_getElem?_getD]; simp [hq]
            obtain ⟨G', h2, h3⟩ := h.new_arr hidlt hnone (e := el) (l := List.replicate n.toNat el.zero) (dp := true) (cells := madeCells z.cells (m.toNat * i.size)) et
              (by simp only [List.length_replicate, size_madeCells]; rw [hisz, ← hk1]; exact Nat.mul_le_mul_right _ (by omega))
              (fun q hq => ⟨z.cells.toList, by rw [hrep q (by simpa using hq)]; exact (zeroIs_own hk3).rep (by simp), hcells q (by simpa using hq)⟩)
              (fun _ => ⟨List.replicate n.toNat [], by simp, by simp [Loose.nil], fun q hq => ⟨z.cells.toList, by
                have hq' : q < n.toNat := by simpa using hq
                rw [hrep q hq']
                have : (List.replicate n.toNat ([] : List Nat)).getD q [] = [] := by rw [List.getD_eq_getElem?_getD]; simp [hq']
                rw [this]; exact zeroIs_own hk3, hcells q (by simpa using hq)⟩⟩)
            have h4 := h3 m.toNat (by simp; omega) (by simp only [size_madeCells]; rw [hisz, ← hk1]; exact Nat.le_refl _)
            rw [List.length_replicate] at h4
            refine wp_value ?_ (hT G' _ (.lf (.own (o.dst.getD 0 * 4))) _ _ h2 rfl h4 e)
            simp only [execOp, hop]
            refine run_v (α := Value) ?_
            rw [hx', hy']
            exact hrun
    · cases e
  · cases e
end
end Go.Ev

namespace Go.Ev
theorem K.rd_nil : ∀ k : K, k.rd [] = none
  | .int _ | .bool | .str | .sl _ => rfl
  | .pr a b => by simp [K.rd, K.rd_nil a]
theorem pack_rep {C : Cx} {G : Gh} {st : St} {a : Act} {w : World} {ls : List Leaf} {vs : List Value} (h : Rel C G st a w) (hr : RepLeafs w (G.ok C) G ls vs) :
    ∃ G', Rel C G' (pack st ls).1 a w ∧ Keeps w w (G.ok C) (G'.ok C) ∧ G'.Sub G ∧ (∀ id r, (pack st ls).1.arr.get id = some r → st.arr.get id = some r) ∧
      (pack st ls).1.n = st.n ∧ RepLeafs w (G'.ok C) G' (pack st ls).2.1 vs ∧
      ((pack st ls).2.2 = true → ∃ F, OwnLeafs w (pack st ls).2.1 vs F ∧ Loose C G' w F ∧ ∀ b ∈ F, G.wr b ∨ ∃ id, b ∈ G.inner id) := packN_rep ls.length (Nat.le_refl _) h hr
section
variable {P : Program} {ty : Ty} {C : Cx} {G : Gh} {st : St} {a : Act} {w : World} {R : Type} {k : St → Slot → Option R} {r : R} {o : Oper} {next : Act → World → Prop} {Q : Exit → Act → World → Prop}
theorem leafs_rep' {ok : Nat → Prop} {s : Slot} {v : Value} (hs : RepSlot w ok G s v) (h0 : s.leafs ≠ []) : RepLeafs w ok G s.leafs v.cells.toList :=
  (leafs_rep hs rfl (List.length_pos_iff.2 h0)).1
theorem partsOf_rep {e : K} : ∀ {ps : List (Nat × Operand)} {j : Nat} {G : Gh} {st st' : St} {l : List e.T} {dp : Bool}, Rel C G st a w → partsOf st e ps j = some (st', l, dp) →
    ∃ G', Rel C G' st' a w ∧ Keeps w w (G.ok C) (G'.ok C) ∧ G'.Sub G ∧ st'.n = st.n ∧ (∀ id r, st'.arr.get id = some r → st.arr.get id = some r) ∧ l.length = ps.length ∧
      (∀ i p, ps[i]? = some p → p.1 = j + i ∧ RepT w (G'.ok C) e (l.getD i e.zero) (a.eval p.2).cells.toList) ∧
      (dp = true → ∃ Fs : List (List Nat), Fs.length = l.length ∧ Loose C G' w Fs.flatten ∧ (∀ b ∈ Fs.flatten, G.wr b ∨ ∃ id, b ∈ G.inner id) ∧
        ∀ i p, ps[i]? = some p → OwnT w e (l.getD i e.zero) (a.eval p.2).cells.toList (Fs.getD i []))
  | [], j, G, st, st', l, dp, h, e1 => by
    simp only [partsOf, Option.some.injEq, Prod.mk.injEq] at e1
    obtain ⟨rfl, rfl, rfl⟩ := e1
    exact ⟨G, h, Keeps.refl _ _, Gh.Sub.refl G, rfl, fun _ _ h => h, rfl, fun i p hp => by simp at hp, fun _ => ⟨[], rfl, Loose.nil _ _ _, by simp, fun i p hp => by simp at hp⟩⟩
  | (i, x) :: ps, j, G, st, st', l, dp, h, e1 => by
    simp only [partsOf] at e1
    cases hij : (i == j)
    · rw [hij] at e1; cases e1
    · rw [hij] at e1
      simp only [cond_true] at e1
      have hij' : i = j := by simpa using hij
      split at e1
      · rename_i y hy
        split at e1
        · rename_i st2 l2 dp2 h2
          simp only [Option.some.injEq, Prod.mk.injEq] at e1
          obtain ⟨rfl, rfl, rfl⟩ := e1
          have hne : (st.ev x).leafs ≠ [] := fun hc => by
            rw [hc] at hy
            have : (pack st []).2.1 = [] := rfl
            rw [this, K.rd_nil] at hy; cases hy
          have hr := leafs_rep' (h.ev x) hne
          obtain ⟨G1, g1, H1, g2, g3, g4, g5, g6⟩ := pack_rep h hr
          obtain ⟨G2, f1, H2, f2, f3, f4, f5, f6, f7⟩ := partsOf_rep g1 h2
          have hyr : RepT w (G2.ok C) e y (a.eval x).cells.toList := (g5.rd hy).trans H2
          refine ⟨G2, f1, fun b u hb hu => H2 b u (H1 b u hb hu).1 hu, f2.trans g2, f3.trans g4, fun id s hs => g3 id s (f4 id s hs), by simp [f5], fun q p hp => ?_, fun hd => ?_⟩
          · cases q with
            | zero => simp at hp; subst hp; exact ⟨by simp [hij'], hyr⟩
            | succ q =>
              have := f6 q p (by simpa using hp)
              refine ⟨by omega, ?_⟩
              simpa using this.2
          · simp only [Bool.and_eq_true] at hd
            obtain ⟨F1, q1, q2, q3⟩ := g6 hd.1
            obtain ⟨Fs, q4, q5, q6, q7⟩ := f7 hd.2
            have q2' := q2.sub f2
            refine ⟨F1 :: Fs, by simp [q4], ⟨?_, ?_, ?_, ?_, ?_⟩, ?_, fun q p hp => ?_⟩
            · rw [List.flatten_cons]
              refine List.nodup_append.2 ⟨q2.nd, q5.nd, fun b hb c hc e => ?_⟩
              subst e
              rcases q6 b hc with g | ⟨id, g⟩
              · exact q2.wr b hb g
              · exact q2.inn b hb id g
            · intro b hb; rw [List.flatten_cons] at hb; rcases List.mem_append.1 hb with hb | hb
              · exact q2.new b hb
              · exact q5.new b hb
            · intro b hb; rw [List.flatten_cons] at hb; rcases List.mem_append.1 hb with hb | hb
              · exact q2.lt b hb
              · exact q5.lt b hb
            · intro b hb; rw [List.flatten_cons] at hb; rcases List.mem_append.1 hb with hb | hb
              · exact q2'.wr b hb
              · exact q5.wr b hb
            · intro b hb; rw [List.flatten_cons] at hb; rcases List.mem_append.1 hb with hb | hb
              · exact q2'.inn b hb
              · exact q5.inn b hb
            · intro b hb; rw [List.flatten_cons] at hb; rcases List.mem_append.1 hb with hb | hb
              · exact q3 b hb
              · rcases q6 b hb with g | ⟨id, g⟩
                · exact .inl (g2.wr g)
                · exact .inr ⟨id, g2.inn _ _ g⟩
            · cases q with
              | zero => simp at hp; subst hp; exact q1.rd hy
              | succ q => simpa using q7 q p (by simpa using hp)
        · cases e1
      · cases e1
theorem fill_parts {size : Nat} : ∀ (ps : List (Nat × Value)) (j : Nat) (cells : Array Value), (∀ i p, ps[i]? = some p → p.1 = j + i ∧ p.2.cells.size = size) → (j + ps.length) * size ≤ cells.size →
    ∃ cells', Instr.fill (fun i => some (i * size, size)) cells ps = some cells' ∧ cells'.size = cells.size ∧ (∀ q, q < j * size → cells'[q]? = cells[q]?) ∧
      ∀ i p, ps[i]? = some p → ∀ q v, p.2.cells.toList[q]? = some v → cells'[(j + i) * size + q]? = some v
  | [], j, cells, _, _ => ⟨cells, rfl, rfl, fun _ _ => rfl, fun i p hp => by simp at hp⟩
  | (i, v) :: ps, j, cells, h, hle => by
    obtain ⟨h1, h2⟩ := h 0 (i, v) rfl
    simp only [Nat.add_zero] at h1
    subst h1
    simp only at h2
    simp only [List.length_cons] at hle
    have hle1 : i * size + size ≤ cells.size := by
      have : (i + 1) * size ≤ (i + (ps.length + 1)) * size := Nat.mul_le_mul_right _ (by omega)
      rw [Nat.add_mul, Nat.one_mul] at this; omega
    have hfc := fill_cells (v := v) (cells := cells) (off := i * size) (by rw [h2]; exact hle1)
    have hsz : (v.cells.zipIdx.foldl (fun cs (p : Value × Nat) => cs.setIfInBounds (i * size + p.2) p.1) cells).size = cells.size := by
      rw [← Array.length_toList, hfc]; simp [splice, h2]; omega
    obtain ⟨cells', h3, h4, h5, h6⟩ := fill_parts ps (i + 1) (v.cells.zipIdx.foldl (fun cs (p : Value × Nat) => cs.setIfInBounds (i * size + p.2) p.1) cells)
      (fun q p hp => by have := h (q + 1) p (by simpa using hp); exact ⟨by omega, this.2⟩) (by rw [hsz]; rw [show i + 1 + ps.length = i + (ps.length + 1) by omega]; exact hle)
    refine ⟨cells', ?_, h4.trans hsz, fun q hq => ?_, fun q p hp k u hu => ?_⟩
    · simp only [Instr.fill]
      rw [if_neg (by simp [h2]; exact hle1)]
      exact h3
    · rw [h5 q (by rw [Nat.add_mul]; omega), ← Array.getElem?_toList, ← Array.getElem?_toList, hfc]
      simp only [splice]
      rw [List.getElem?_append_left (by simp; omega), List.getElem?_take, if_pos hq]
    · cases q with
      | zero =>
        simp at hp; subst hp
        simp only at hu
        have hk : k < size := by rw [← h2]; have := (List.getElem?_eq_some_iff.1 hu).1; simpa using this
        rw [Nat.add_zero, h5 _ (by rw [Nat.add_mul]; omega), ← Array.getElem?_toList, hfc]
        simp only [splice]
        rw [List.getElem?_append_right (by simp; omega), List.getElem?_append_left (by simp; omega)]
        rw [List.length_take, Array.length_toList, Nat.min_eq_left (by omega)]
        rw [show i * size + k - i * size = k by omega]
        exact hu
      | succ q =>
        have := h6 q p (by simpa using hp) k u hu
        rw [show i + (q + 1) = i + 1 + q by omega]
        exact this
theorem ok_buildSlice (hty : TyOk P ty) {t : TypeId} {n : Nat} {ps : Array (Nat × Operand)} (hop : o.op = .buildSlice t n ps) (h : Rel C G st a w) (hd : o.dst.getD 0 < st.n) (hT : Then C a o.dst st.n k r next) (e : buildSliceK ty (o.dst.getD 0) t n ps.toList st k = some r) : o.wp P a w next Q := by
  unfold buildSliceK at e
  split at e
  · rename_i et b1 b2 b3 b4 b5 hti
    obtain ⟨d, hd2, _, _, hsl, _⟩ := (hty t _ hti).und
    have hu : P.underlying t = some (.slice et) := by rw [hd2, hsl et rfl]
    split at e
    · rename_i dd c1 c2 bytes c4 el hte
      obtain ⟨i, z, hi, hisz, hiby, hz, hzs, _, hkd⟩ := (hty et _ hte).info
      obtain ⟨hk1, hk2, hk3⟩ := hkd el rfl
      simp only at hk1 hisz hzs
      cases hc : (ps.toList.length == n && Nat.ble (n * el.sz) 16777216)
      · rw [hc] at e; cases e
      · rw [hc] at e
        simp only [cond_true] at e
        simp only [Bool.and_eq_true, beq_iff_eq] at hc
        obtain ⟨hn1, hn2⟩ := hc
        have hn2' : n * el.sz ≤ 16777216 := Nat.le_of_ble_eq_true hn2
        split at e
        · rename_i st' l dp hp
          split at e
          · cases e
          · rename_i hnone
            obtain ⟨G1, g1, H1, g2, g3, g4, g5, g6, g7⟩ := partsOf_rep h hp
            have hnn := h.n
            have hidlt : o.dst.getD 0 * 4 < 64000 := by
              have : o.dst.getD 0 < 16000 := Nat.lt_of_lt_of_le hd hnn
              exact Nat.lt_of_lt_of_le (Nat.mul_lt_mul_of_pos_right this (by decide)) (by decide)
            let ps' : List (Nat × Value) := ps.toList.map fun p => (p.1, a.eval p.2)
            have hps' : ∀ (q : Nat) (p : Nat × Value), ps'[q]? = some p → ∃ x : Nat × Operand, ps.toList[q]? = some x ∧ p = ((x.1, a.eval x.2) : Nat × Value) := by
              intro q p hq
              simp only [ps', List.getElem?_map, Option.map_eq_some_iff] at hq
              obtain ⟨x, h1, h2⟩ := hq
              exact ⟨x, h1, h2.symm⟩
            let zero : Array Value := if n * i.size = 0 then #[] else z.cells
            let cells0 : Array Value := (Array.range (n * i.size)).map (zero[· % zero.size]!)
            have hszi : i.size = el.sz := by rw [hisz, hk1]
            obtain ⟨cells, f1, f2, _, f4⟩ := fill_parts (size := el.sz) ps' 0 cells0 (fun q p hq => by
                obtain ⟨x, h1, rfl⟩ := hps' q p hq
                obtain ⟨h2, h3⟩ := g6 q x h1
                exact ⟨h2, by have := h3.length; simpa using this⟩)
              (by simp [ps', cells0, hszi, ← hn1])
            have hcs : cells.size = n * el.sz := by rw [f2]; simp [cells0, hszi]
            have hrun : (Instr.buildSlice t n (ps.map fun (q, x) => (q, a.eval x))).run P w = .ok (.slice (some ⟨w.heap.size, 0, none⟩) n n) (w.alloc (.cells cells et)) := by
              have hfl : (ps.map fun (q, x) => (q, a.eval x)).toList = ps' := by simp [ps']
              have h24 : ¬ (n * i.size > 2 ^ 24) := by rw [hszi]; omega
              have hfill : Instr.fill (fun q => some (q * i.size, i.size)) cells0 ps' = some cells := by rw [hszi]; exact f1
              by_cases h0 : n * i.size = 0
              · simp only [cells0, zero, if_pos h0] at hfill
                simp only [Instr.buildSlice, Sem.run_bind, run_underlying hu, Result.andThen_ok, run_sizeOf hi, if_neg h24, Sem.run_pure, if_pos h0, hfl, hfill]
                simp [newRow, newObj, Sem.run]
              · simp only [cells0, zero, if_neg h0] at hfill
                simp only [Instr.buildSlice, Sem.run_bind, run_underlying hu, Result.andThen_ok, run_sizeOf hi, if_neg h24, Sem.run_pure, if_neg h0, run_zeroValue hi hz, hfl, hfill]
                simp [newRow, newObj, Sem.run]
            have hlen : l.length = n := by rw [g5, hn1]
            obtain ⟨G2, q1, q2⟩ := g1.new_arr hidlt hnone (e := el) (l := l) (dp := dp) (cells := cells) et (by rw [hlen, hcs]; exact Nat.le_refl _)
              (fun q hq => by
                have hq' : q < ps.toList.length := by omega
                obtain ⟨h1, h2⟩ := g6 q _ (List.getElem?_eq_getElem hq')
                refine ⟨_, h2, fun j v hj => ?_⟩
                have hm : ps'[q]? = some ((ps.toList[q].1, a.eval ps.toList[q].2) : Nat × Value) := by simp only [ps', List.getElem?_map, List.getElem?_eq_getElem hq', Option.map_some]
                have := f4 q _ hm j v hj
                simpa using this)
              (fun hdp => by
                obtain ⟨Fs, h1, h2, h3, h4⟩ := g7 hdp
                refine ⟨Fs, h1, h2, fun q hq => ?_⟩
                have hq' : q < ps.toList.length := by omega
                refine ⟨_, h4 q _ (List.getElem?_eq_getElem hq'), fun j v hj => ?_⟩
                have hm : ps'[q]? = some ((ps.toList[q].1, a.eval ps.toList[q].2) : Nat × Value) := by simp only [ps', List.getElem?_map, List.getElem?_eq_getElem hq', Option.map_some]
                have := f4 q _ hm j v hj
                simpa using this)
            have q3 := q2 n (by omega) (by omega)
            rw [hlen] at q3
            refine wp_value ?_ (hT G2 _ (.lf (.own (o.dst.getD 0 * 4))) _ _ q1 g3 q3 e)
            simp only [execOp, hop]
            exact run_v (α := Value) hrun
        · cases e
    · cases e
  · cases e
theorem OwnT.flat_nil : ∀ {k : K} {x : k.T} {vs : List Value} {F : List Nat}, k.flat = true → OwnT w k x vs F → F = []
  | .int _, _, _, _, _, h | .bool, _, _, _, _, h | .str, _, _, _, _, h => h.2
  | .sl _, _, _, _, hf, _ => by simp [K.flat] at hf
  | .pr a b, _, _, _, hf, h => by
    simp [K.flat] at hf
    obtain ⟨v1, v2, F1, F2, _, hF, h1, h2⟩ := h
    rw [hF, OwnT.flat_nil hf.1 h1, OwnT.flat_nil hf.2 h2]; rfl
theorem mem_set_flatten {b : Nat} {F : List Nat} : ∀ {Fs : List (List Nat)} {i : Nat}, b ∈ (Fs.set i F).flatten → b ∈ Fs.flatten ∨ b ∈ F
  | [], i, h => by simp at h
  | G :: Fs, 0, h => by
    simp only [List.set_cons_zero, List.flatten_cons, List.mem_append] at h ⊢
    rcases h with h | h
    · exact .inr h
    · exact .inl (.inr h)
  | G :: Fs, i + 1, h => by
    simp only [List.set_cons_succ, List.flatten_cons, List.mem_append] at h ⊢
    rcases h with h | h
    · exact .inl (.inl h)
    · rcases mem_set_flatten h with h | h
      · exact .inl (.inr h)
      · exact .inr h
theorem nodup_set_flatten {F : List Nat} (hF : F.Nodup) : ∀ {Fs : List (List Nat)} {i : Nat}, Fs.flatten.Nodup → (∀ b ∈ F, b ∉ Fs.flatten) → (Fs.set i F).flatten.Nodup
  | [], i, h, _ => by simp
  | G :: Fs, 0, h, hd => by
    simp only [List.set_cons_zero, List.flatten_cons] at h hd ⊢
    obtain ⟨h1, h2, h3⟩ := List.nodup_append.1 h
    exact List.nodup_append.2 ⟨hF, h2, fun b hb c hc e => hd b hb (List.mem_append_right _ (e ▸ hc))⟩
  | G :: Fs, i + 1, h, hd => by
    simp only [List.set_cons_succ, List.flatten_cons] at h hd ⊢
    obtain ⟨h1, h2, h3⟩ := List.nodup_append.1 h
    refine List.nodup_append.2 ⟨h1, nodup_set_flatten hF h2 fun b hb hc => hd b hb (List.mem_append_right _ hc), fun b hb c hc e => ?_⟩
    rcases mem_set_flatten hc with hc | hc
    · exact h3 b hb c hc e
    · exact hd c hc (List.mem_append_left _ (e ▸ hb))
theorem storeArr (hty : TyOk P ty) {t : TypeId} {x y : Operand} (hop : o.op = .store t x y) (h : Rel C G st a w) (hT : Then C a o.dst st.n k r next) {ti : TI} (hti : ty t = some ti)
    (hlen : (st.ev y).leafs.length = ti.size) (h0 : 0 < ti.size) {id i off : Nat} (hx : st.ev x = .ep id i off) {rr : Arr} (hr : (pack st (st.ev y).leafs).1.arr.get id = some rr)
    {z : rr.e.T} (hz : rr.e.rd (splice (rr.e.lv (rr.l.getD i rr.e.zero)) off (pack st (st.ev y).leafs).2.1) = some z) (hle : off + (st.ev y).leafs.length ≤ rr.e.sz)
    (e : k ((pack st (st.ev y).leafs).1.newArr id ⟨rr.e, rr.l.set i z, rr.deep && ((rr.e.flat || Nat.beq (st.ev y).leafs.length rr.e.sz) && (pack st (st.ev y).leafs).2.2)⟩) .dead = some r) : o.wp P a w next Q := by
  obtain ⟨ii, zz, hi, hsz, _⟩ := (hty t ti hti).info
  have hxr := h.ev x
  rw [hx] at hxr
  obtain ⟨ai, blk, base, m, hA, hloc, hin, hv⟩ := hxr
  obtain ⟨h1, h2⟩ := leafs_rep (h.ev y) hlen h0
  have hl := h1.length
  obtain ⟨G1, g1, H1, g2, g3, g4, g5, g6⟩ := pack_rep h h1
  have hl5 := g5.length
  obtain ⟨ai', hA1, ha⟩ := g1.mem.arrR id rr hr
  have : ai' = ai := by have := g2.A _ _ hA1; rw [hA] at this; cases this; rfl
  subst this
  have hn := ha.n
  have hs := ha.sz
  have hidlt := g1.mem.ia id _ hA1
  have hthere := ha.there blk base m hloc
  have hlem := ha.le blk base m hloc
  have hmul : (i + 1) * ai'.sz ≤ ai'.n * ai'.sz := Nat.mul_le_mul_right _ (by omega)
  rw [Nat.add_mul, Nat.one_mul] at hmul
  generalize hvs : (a.eval y).cells.toList = vs at *
  have hw : w.there blk (base + i * ai'.sz + off) vs.length := fun j hj => by
    obtain ⟨v, h3, h4⟩ := hthere (i * ai'.sz + off + j) (by omega)
    rw [show base + (i * ai'.sz + off + j) = base + i * ai'.sz + off + j by omega] at h3 h4
    exact ⟨by rw [h3]; rfl, h4⟩
  have hout : ∀ x : Addr, x.block ≠ blk → (w.setCells blk (base + i * ai'.sz + off) vs).cell? x = w.cell? x := fun x hx => World.cell?_setCells_out _ _ _ _ _ fun hc _ => absurd hc hx
  have hin' : ∀ q, q < ai'.n → q ≠ i → ∀ j, j < ai'.sz → (w.setCells blk (base + i * ai'.sz + off) vs).cell? ⟨blk, base + (q * ai'.sz + j), none⟩ = w.cell? ⟨blk, base + (q * ai'.sz + j), none⟩ := fun q hq hne j hj => by
    refine World.cell?_setCells_out _ _ _ _ _ fun _ _ => ?_
    rcases Nat.lt_or_gt_of_ne hne with hlt | hgt
    · left
      have : (q + 1) * ai'.sz ≤ i * ai'.sz := Nat.mul_le_mul_right _ (by omega)
      rw [Nat.add_mul, Nat.one_mul] at this
      show base + (q * ai'.sz + j) < _; omega
    · right
      have : (i + 1) * ai'.sz ≤ q * ai'.sz := Nat.mul_le_mul_right _ (by omega)
      rw [Nat.add_mul, Nat.one_mul] at this
      show _ ≤ base + (q * ai'.sz + j); omega
  have hspl : ∀ {cs : List Value}, cs.length = ai'.sz → (∀ j v, cs[j]? = some v → w.cell? ⟨blk, base + (i * ai'.sz + j), none⟩ = some v) →
      ∀ j v, (splice cs off vs)[j]? = some v → (w.setCells blk (base + i * ai'.sz + off) vs).cell? ⟨blk, base + (i * ai'.sz + j), none⟩ = some v := by
    intro cs hcl hcc j v hj
    simp only [splice] at hj
    by_cases q1 : j < off
    · rw [List.getElem?_append_left (by simp; omega), List.getElem?_take, if_pos q1] at hj
      rw [World.cell?_setCells_out _ _ _ _ _ fun _ _ => .inl (by show base + (i * ai'.sz + j) < _; omega)]
      exact hcc j v hj
    · rw [List.getElem?_append_right (by simp; omega)] at hj
      rw [List.length_take, Nat.min_eq_left (by omega)] at hj
      by_cases q2 : j < off + vs.length
      · rw [List.getElem?_append_left (by omega)] at hj
        have h3 := World.cell?_setCells_in blk vs (base + i * ai'.sz + off) w (fun q hq => (hw q hq).1) (j - off) (by omega)
        rw [show base + i * ai'.sz + off + (j - off) = base + (i * ai'.sz + j) by omega] at h3
        rw [h3, ← hj, List.getElem?_eq_getElem (by omega)]
      · rw [List.getElem?_append_right (by omega), List.getElem?_drop, show off + vs.length + (j - off - vs.length) = j by omega] at hj
        rw [World.cell?_setCells_out _ _ _ _ _ fun _ _ => .inr (by show _ ≤ base + (i * ai'.sz + j); omega)]
        exact hcc j v hj
  have hget : ∀ q, q < ai'.n → (rr.l.set i z).getD q rr.e.zero = if q = i then z else rr.l.getD q rr.e.zero := fun q hq => by
    rw [List.getD_eq_getElem?_getD, List.getD_eq_getElem?_getD, List.getElem?_set]
    by_cases hqi : i = q
    · subst hqi; rw [if_pos rfl, if_pos rfl, if_pos (by omega)]; rfl
    · rw [if_neg hqi, if_neg (fun h => hqi h.symm)]
  obtain ⟨csi, hci1, hci2⟩ := ha.el blk base m hloc i (by omega)
  have hcil : csi.length = ai'.sz := by rw [hci1.length, hs]
  have hsplr : RepLeafs w (G1.ok C) G1 (splice (rr.e.lv (rr.l.getD i rr.e.zero)) off (pack st (st.ev y).leafs).2.1) (splice csi off vs) := (RepT.lv hci1).splice g5 off
  have hzr : RepT w (G1.ok C) rr.e z (splice csi off vs) := hsplr.rd hz
  have hdeep : ∃ F' : List (List Nat), ((rr.deep && ((rr.e.flat || Nat.beq (st.ev y).leafs.length rr.e.sz) && (pack st (st.ev y).leafs).2.2)) = true → OwnArr C (w.setCells blk (base + i * ai'.sz + off) vs) ai' ⟨rr.e, rr.l.set i z, rr.deep && ((rr.e.flat || Nat.beq (st.ev y).leafs.length rr.e.sz) && (pack st (st.ev y).leafs).2.2)⟩ F') ∧
      F'.flatten.Nodup ∧ ∀ b ∈ F'.flatten, C.all b ∧ b < w.heap.size ∧ ¬ G1.wr b ∧ ∀ id', id' ≠ id → b ∉ G1.inner id' := by
    have hold : ∀ b ∈ G1.inner id, C.all b ∧ b < w.heap.size ∧ ¬ G1.wr b ∧ ∀ id', id' ≠ id → b ∉ G1.inner id' := fun b hb =>
      let ⟨q1, q2, q3⟩ := g1.mem.fwr id b hb
      ⟨q1, q2, q3, fun id' hne => g1.mem.fdj id id' (Ne.symm hne) b hb⟩
    cases hdp : (rr.deep && ((rr.e.flat || Nat.beq (st.ev y).leafs.length rr.e.sz) && (pack st (st.ev y).leafs).2.2)) with
    | false => exact ⟨G1.F id, fun h => (by cases h), g1.mem.fnd id, hold⟩
    | true =>
      have hdp' := hdp
      simp only [Bool.and_eq_true, Bool.or_eq_true] at hdp'
      obtain ⟨hd1, hd2, hd3⟩ := hdp'
      have ho := g1.mem.own id rr ai' hr hA1 hd1
      have hkeepF : ∀ x v, x.block ∈ (G1.F id).flatten → w.cell? x = some v → (w.setCells blk (base + i * ai'.sz + off) vs).cell? x = some v ∧ (w.setCells blk (base + i * ai'.sz + off) vs).frozen? x = w.frozen? x := fun x v hb hc =>
        ⟨by rw [hout x fun hbl => (g1.mem.fwr id x.block hb).2.2 (hbl ▸ Gh.wr_of_A hA1 hloc)]; exact hc, World.frozen?_setCells ..⟩
      have helt : ∀ q, q < ai'.n → q ≠ i → ∃ cs, OwnT (w.setCells blk (base + i * ai'.sz + off) vs) rr.e (rr.l.getD q rr.e.zero) cs ((G1.F id).getD q []) ∧ ∀ j v, cs[j]? = some v → (w.setCells blk (base + i * ai'.sz + off) vs).cell? ⟨blk, base + (q * ai'.sz + j), none⟩ = some v := fun q hq hne => by
        obtain ⟨cs, q1, q2⟩ := ho.el blk base m hloc q hq
        refine ⟨cs, q1.trans fun x v hb hc => hkeepF x v (mem_inner (G := G1) (i := q) hb) hc, fun j v hj => ?_⟩
        rw [hin' q hq hne j (by rw [hs, ← q1.length]; exact (List.getElem?_eq_some_iff.1 hj).1)]
        exact q2 j v hj
      by_cases hfl : rr.e.flat = true
      · refine ⟨G1.F id, fun _ => ⟨ho.new, by simp [ho.len], fun blk' base' m' hl' q hq => ?_⟩, g1.mem.fnd id, hold⟩
        rw [hloc] at hl'; cases hl'
        simp only [hget q hq]
        by_cases hqi : q = i
        · subst hqi
          rw [if_pos rfl]
          obtain ⟨cs, q1, q2⟩ := ho.el blk base m hloc q hq
          rw [OwnT.flat_nil hfl q1]
          exact ⟨_, (hzr.trans (ok' := fun _ => True) fun x v hb hc => ⟨trivial, by
            rw [hout x fun hbl => hb.2 (hbl ▸ Gh.wr_of_A hA1 hloc)]; exact hc⟩).own hfl, hspl hcil hci2⟩
        · rw [if_neg hqi]; exact helt q hq hqi
      · have hfull : (st.ev y).leafs.length = rr.e.sz := Nat.eq_of_beq_eq_true (hd2.resolve_left hfl)
        have hoff : off = 0 := by omega
        subst hoff
        obtain ⟨F, q1, q2, q3⟩ := g6 hd3
        have hsp1 : splice (rr.e.lv (rr.l.getD i rr.e.zero)) 0 (pack st (st.ev y).leafs).2.1 = (pack st (st.ev y).leafs).2.1 := by
          simp only [splice, List.take_zero, List.nil_append, Nat.zero_add]
          rw [List.drop_eq_nil_of_le (by rw [K.lv_length]; omega), List.append_nil]
        have hsp2 : splice csi 0 vs = vs := by
          simp only [splice, List.take_zero, List.nil_append, Nat.zero_add]
          rw [List.drop_eq_nil_of_le (by omega), List.append_nil]
        rw [hsp1] at hz
        have hzo := q1.rd hz
        have hdisj : ∀ b ∈ F, b ∉ (G1.F id).flatten := fun b hb => q2.inn b hb id
        refine ⟨(G1.F id).set i F, fun _ => ⟨ho.new, by simp [ho.len], fun blk' base' m' hl' q hq => ?_⟩, nodup_set_flatten q2.nd (g1.mem.fnd id) hdisj, fun b hb => ?_⟩
        · rw [hloc] at hl'; cases hl'
          simp only [hget q hq]
          have hFl := ho.len
          by_cases hqi : q = i
          · subst hqi
            rw [if_pos rfl]
            have : ((G1.F id).set q F).getD q [] = F := by
              rw [List.getD_eq_getElem?_getD, List.getElem?_set, if_pos rfl, if_pos (by omega)]; rfl
            rw [this]
            refine ⟨vs, hzo.trans fun x v hb hc => ⟨by rw [hout x fun hbl => q2.wr x.block hb (hbl ▸ Gh.wr_of_A hA1 hloc)]; exact hc, World.frozen?_setCells ..⟩, fun j v hj => ?_⟩
            have := hspl hcil hci2 j v (by rw [hsp2]; exact hj)
            exact this
          · rw [if_neg hqi]
            have : ((G1.F id).set i F).getD q [] = (G1.F id).getD q [] := by
              rw [List.getD_eq_getElem?_getD, List.getD_eq_getElem?_getD, List.getElem?_set, if_neg (fun h => hqi h.symm)]
            rw [this]; exact helt q hq hqi
        · rcases mem_set_flatten hb with hb | hb
          · exact hold b hb
          · exact ⟨q2.new b hb, q2.lt b hb, q2.wr b hb, fun id' _ => q2.inn b hb id'⟩
  obtain ⟨F', hown, hnd, hF2⟩ := hdeep
  have hwr : ∀ b, (G1.setA id (some ai') F').wr b → G1.wr b := by
    rintro b (⟨c, bs, hc⟩ | ⟨j, aj, bs, m', hj, hlj⟩)
    · exact Gh.wr_of_B hc
    · by_cases ej : j = id
      · subst ej; rw [Gh.setA_same] at hj; cases hj; exact Gh.wr_of_A hA1 hlj
      · rw [Gh.setA_ne _ _ _ ej] at hj; exact Gh.wr_of_A hj hlj
  obtain ⟨f1, H2, hle2⟩ := g1.set_arr (w' := w.setCells blk (base + i * ai'.sz + off) vs) hidlt (ai' := ai') (F' := F') (a' := ⟨rr.e, rr.l.set i z, rr.deep && ((rr.e.flat || Nat.beq (st.ev y).leafs.length rr.e.sz) && (pack st (st.ev y).leafs).2.2)⟩)
    (fun aj haj => by rw [hA1] at haj; cases haj; rfl) (.inr hA1) (by rw [size_setCells]; exact Nat.le_refl _)
    (fun x v hx hc => ⟨by rw [hout x (hx ai' blk base m hA1 hloc)]; exact hc, World.frozen?_setCells ..⟩)
    (fun blk' base' m' hl' => .inr ⟨ai', base', m', hA1, hl'⟩)
    (fun H => by
      refine ⟨hs, by simp [hn], ha.nil, ha.may, ha.wr, fun blk' base' m' hl' => by simpa using ha.le blk' base' m' hl', fun blk' base' m' hl' j hj => ?_, fun blk' base' m' hl' q hq => ?_⟩
      · rw [hloc] at hl'; cases hl'
        obtain ⟨v, q1, q2⟩ := hthere j hj
        have := World.isSome_setCells blk vs (base + i * ai'.sz + off) w ⟨blk, base + j, none⟩ (by rw [q1]; rfl)
        obtain ⟨u, hu⟩ := Option.isSome_iff_exists.1 this
        exact ⟨u, hu, by rw [World.frozen?_setCells]; exact q2⟩
      · rw [hloc] at hl'; cases hl'
        simp only [hget q hq]
        by_cases hqi : q = i
        · subst hqi
          rw [if_pos rfl]
          exact ⟨_, hzr.trans H, hspl hcil hci2⟩
        · rw [if_neg hqi]
          obtain ⟨cs, q1, q2⟩ := ha.el blk base m hloc q hq
          refine ⟨cs, q1.trans H, fun j v hj => ?_⟩
          rw [hin' q hq hqi j (by rw [hs, ← q1.length]; exact (List.getElem?_eq_some_iff.1 hj).1)]
          exact q2 j v hj)
    hown hnd (fun b hb => by
      obtain ⟨q1, q2, q3, q4⟩ := hF2 b hb
      exact ⟨q1, by rw [size_setCells]; exact q2, fun hc => q3 (hwr b hc), q4⟩)
    (g1.fr.setCells vs _ fun j hj => by
      have := ha.wr blk base m hloc (i * ai'.sz + off + j) (by omega)
      rwa [show base + (i * ai'.sz + off + j) = base + i * ai'.sz + off + j by omega] at this)
  refine wp_skip' (w' := w.setCells blk (base + i * ai'.sz + off) vs) ?_ (hT _ _ .dead undef _ f1 g4 trivial e)
  simp only [execOp, hop]
  refine run_u ?_
  rw [hv]
  exact run_storeAt_gen hi hvs (by rw [hsz, ← hlen, hl]) hw h2
theorem ok_store (hty : TyOk P ty) {t : TypeId} {x y : Operand} (hop : o.op = .store t x y) (h : Rel C G st a w) (hT : Then C a o.dst st.n k r next) (e : storeK ty t (st.ev x) (st.ev y) st k = some r) : o.wp P a w next Q := by
  unfold storeK at e
  split at e
  · rename_i ti hti
    cases hc : ((st.ev y).leafs.length == ti.size && Nat.blt 0 ti.size)
    · rw [hc] at e; cases e
    · rw [hc] at e
      simp only [cond_true] at e
      simp only [Bool.and_eq_true, beq_iff_eq] at hc
      have h0 : 0 < ti.size := by have := hc.2; simp [Nat.blt] at this; omega
      split at e
      · rename_i b off hx
        split at e
        · rename_i ls hb
          cases hle : Nat.ble (off + (st.ev y).leafs.length) ls.length
          · rw [hle] at e; cases e
          · rw [hle] at e
            exact storeBox hty hop h hT hti hc.1 h0 hx hb (Nat.le_of_ble_eq_true hle) e
        · cases e
      · rename_i id i off hx
        split at e
        · rename_i rr hr
          split at e
          · rename_i z hz
            cases hle : Nat.ble (off + (st.ev y).leafs.length) rr.e.sz
            · rw [hle] at e; cases e
            · rw [hle] at e
              exact storeArr hty hop h hT hti hc.1 h0 hx hr hz (Nat.le_of_ble_eq_true hle) e
          · cases e
        · cases e
      · cases e
  · cases e
end
end Go.Ev

namespace Go.Ev
def ElAt (w : World) (ok : Nat → Prop) (e : K) (xs : List e.T) (A : Option Addr) : Prop :=
  ∀ i, i < xs.length → ∃ ad, A = some ad ∧ ∃ cs, RepT w ok e (xs.getD i e.zero) cs ∧ ∀ j v, cs[j]? = some v → w.cell? (ad.add (i * e.sz + j)) = some v
structure Lies (w : World) (ok : Nat → Prop) (e : K) (xs : List e.T) (news : List Value) : Prop where
  len : news.length = xs.length * e.sz
  one : ∀ u ∈ news, u.oneCell' = true
  el : ∀ i, i < xs.length → ∃ cs, RepT w ok e (xs.getD i e.zero) cs ∧ ∀ j v, cs[j]? = some v → news[i * e.sz + j]? = some v
def LiesOwn (w : World) (e : K) (xs : List e.T) (news : List Value) (Fs : List (List Nat)) : Prop :=
  Fs.length = xs.length ∧ ∀ i, i < xs.length → ∃ cs, OwnT w e (xs.getD i e.zero) cs (Fs.getD i []) ∧ ∀ j v, cs[j]? = some v → news[i * e.sz + j]? = some v
theorem getD_append {α : Type} (l r : List α) (i : Nat) (d : α) : (l ++ r).getD i d = if i < l.length then l.getD i d else r.getD (i - l.length) d := by
  rw [List.getD_eq_getElem?_getD, List.getD_eq_getElem?_getD, List.getD_eq_getElem?_getD, List.getElem?_append]
  split <;> rfl
section
variable {w : World} {ok : Nat → Prop} {e : K}
theorem Lies.nil : Lies w ok e [] [] := ⟨by simp, fun _ h => (by cases h), fun i hi => (by simp at hi)⟩
theorem Lies.append {xs ys : List e.T} {p q : List Value} (h : Lies w ok e xs p) (h' : Lies w ok e ys q) : Lies w ok e (xs ++ ys) (p ++ q) := by
  refine ⟨by simp [h.len, h'.len, Nat.add_mul], fun u hu => ?_, fun i hi => ?_⟩
  · rcases List.mem_append.1 hu with hu | hu
    · exact h.one u hu
    · exact h'.one u hu
  · rw [getD_append]
    by_cases hl : i < xs.length
    · rw [if_pos hl]
      obtain ⟨cs, h1, h2⟩ := h.el i hl
      refine ⟨cs, h1, fun j v hj => ?_⟩
      have h3 := h2 j v hj
      rw [List.getElem?_append_left (List.getElem?_eq_some_iff.1 h3).1]; exact h3
    · rw [if_neg hl]
      simp at hi
      obtain ⟨cs, h1, h2⟩ := h'.el (i - xs.length) (by omega)
      refine ⟨cs, h1, fun j v hj => ?_⟩
      have h3 := h2 j v hj
      have h4 : i * e.sz = xs.length * e.sz + (i - xs.length) * e.sz := by rw [← Nat.add_mul]; congr 1; omega
      rw [List.getElem?_append_right (by rw [h.len]; omega), h.len, h4, show xs.length * e.sz + (i - xs.length) * e.sz + j - xs.length * e.sz = (i - xs.length) * e.sz + j by omega]
      exact h3
theorem LiesOwn.append {xs ys : List e.T} {p q : List Value} {Fs Fs' : List (List Nat)} (hp : p.length = xs.length * e.sz) (h : LiesOwn w e xs p Fs) (h' : LiesOwn w e ys q Fs') : LiesOwn w e (xs ++ ys) (p ++ q) (Fs ++ Fs') := by
  obtain ⟨l1, h⟩ := h
  obtain ⟨l2, h'⟩ := h'
  refine ⟨by simp [l1, l2], fun i hi => ?_⟩
  rw [getD_append, getD_append, l1]
  by_cases hl : i < xs.length
  · rw [if_pos hl, if_pos hl]
    obtain ⟨cs, h1, h2⟩ := h i hl
    refine ⟨cs, h1, fun j v hj => ?_⟩
    have h3 := h2 j v hj
    rw [List.getElem?_append_left (List.getElem?_eq_some_iff.1 h3).1]; exact h3
  · rw [if_neg hl, if_neg hl]
    simp at hi
    obtain ⟨cs, h1, h2⟩ := h' (i - xs.length) (by omega)
    refine ⟨cs, h1, fun j v hj => ?_⟩
    have h3 := h2 j v hj
    have h4 : i * e.sz = xs.length * e.sz + (i - xs.length) * e.sz := by rw [← Nat.add_mul]; congr 1; omega
    rw [List.getElem?_append_right (by rw [hp]; omega), hp, h4, show xs.length * e.sz + (i - xs.length) * e.sz + j - xs.length * e.sz = (i - xs.length) * e.sz + j by omega]
    exact h3
theorem Lies.flat {xs : List e.T} {p : List Value} (h : Lies w ok e xs p) (hf : e.flat = true) : LiesOwn w e xs p (List.replicate xs.length []) :=
  ⟨by simp, fun i hi => by
    obtain ⟨cs, h1, h2⟩ := h.el i hi
    have : (List.replicate xs.length ([] : List Nat)).getD i [] = [] := by rw [List.getD_eq_getElem?_getD]; simp [hi]
    rw [this]; exact ⟨cs, h1.own hf, h2⟩⟩
theorem Lies.trans {w' : World} {ok' : Nat → Prop} {xs : List e.T} {p : List Value} (H : Keeps w w' ok ok') (h : Lies w ok e xs p) : Lies w' ok' e xs p :=
  ⟨h.len, h.one, fun i hi => let ⟨cs, h1, h2⟩ := h.el i hi; ⟨cs, h1.trans H, h2⟩⟩
theorem ElAt.cells {xs : List e.T} {A : Option Addr} (h : ElAt w ok e xs A) : ∃ news, Lies w ok e xs news ∧ ∀ ad, A = some ad → ∀ j u, news[j]? = some u → w.cell? (ad.add j) = some u := by
  cases A with
  | none =>
    have : xs = [] := by
      cases xs with
      | nil => rfl
      | cons x xs => obtain ⟨ad, h1, _⟩ := h 0 (by simp); cases h1
    subst this
    exact ⟨[], Lies.nil, fun ad h => by cases h⟩
  | some ad =>
    have hpos := e.sz_pos
    have hc : ∀ j, j < xs.length * e.sz → ∃ v, w.cell? (ad.add j) = some v ∧ v.oneCell' = true := fun j hj => by
      obtain ⟨ad', e1, cs, h1, h2⟩ := h (j / e.sz) (Nat.div_lt_of_lt_mul (by rwa [Nat.mul_comm] at hj))
      cases e1
      have hjl : j % e.sz < cs.length := by rw [h1.length]; exact Nat.mod_lt _ hpos
      have := h2 (j % e.sz) _ (List.getElem?_eq_getElem hjl)
      rw [Nat.div_add_mod'] at this
      exact ⟨_, this, h1.one _ (List.getElem_mem _)⟩
    have hget : ∀ j, j < xs.length * e.sz → ((List.range (xs.length * e.sz)).map fun j => (w.cell? (ad.add j)).getD undef)[j]? = w.cell? (ad.add j) := fun j hj => by
      obtain ⟨v, h1, _⟩ := hc j hj
      simp [hj, h1]
    have hlt : ∀ j u, ((List.range (xs.length * e.sz)).map fun j => (w.cell? (ad.add j)).getD undef)[j]? = some u → j < xs.length * e.sz := fun j u hj => by
      have := (List.getElem?_eq_some_iff.1 hj).1
      simpa using this
    refine ⟨(List.range (xs.length * e.sz)).map fun j => (w.cell? (ad.add j)).getD undef, ⟨by simp, fun u hu => ?_, fun i hi => ?_⟩, fun ad' e1 j u hj => ?_⟩
    · obtain ⟨j, hj, rfl⟩ := List.mem_map.1 hu
      obtain ⟨v, h1, h2⟩ := hc j (by simpa using hj)
      rw [h1]; exact h2
    · obtain ⟨ad', e1, cs, h1, h2⟩ := h i hi
      cases e1
      refine ⟨cs, h1, fun j v hj => ?_⟩
      have hjl : j < e.sz := by rw [← h1.length]; exact (List.getElem?_eq_some_iff.1 hj).1
      have : (i + 1) * e.sz ≤ xs.length * e.sz := Nat.mul_le_mul_right _ (by omega)
      rw [Nat.add_mul] at this
      rw [hget _ (by omega)]; exact h2 j v hj
    · cases e1
      have := hget j (hlt j u hj)
      rw [this] at hj; exact hj
theorem Lies.src {P : Program} {tx e' : TypeId} {xs : List e.T} {news : List Value} (h : Lies w ok e xs news) {A : Option Addr} (ha : ∀ ad, A = some ad → ∀ j u, news[j]? = some u → w.cell? (ad.add j) = some u) (h0 : A = none → xs = [])
    (hk : P.underlying tx = some (.slice e')) (c : Nat) : Src P e.sz tx (.slice A xs.length c) xs.length news w := by
  cases A with
  | none =>
    have := h0 rfl
    subst this
    have : news = [] := List.eq_nil_of_length_eq_zero (by simpa using h.len)
    subst this
    exact Src.ofNil w hk c
  | some ad => exact Src.ofSlice w hk ad xs.length c news h.len (ha ad rfl) h.one
theorem Lies.first {P : Program} {xs : List e.T} {news : List Value} (h : Lies w ok e xs news) {A : Option Addr} (ha : ∀ ad, A = some ad → ∀ j u, news[j]? = some u → w.cell? (ad.add j) = some u) (h0 : A = none → xs = []) (c : Nat) :
    (Builtin.firstCells e.sz xs.length (.slice A xs.length c)).run P w.drew = .ok news.toArray w.drew := by
  cases A with
  | none =>
    have := h0 rfl
    subst this
    have : news = [] := List.eq_nil_of_length_eq_zero (by simpa using h.len)
    subst this
    exact run_firstCells_none w.drew e.sz 0 0 c
  | some ad => exact run_firstCells_some w.drew e.sz xs.length ad xs.length c news h.len (by simpa using ha ad rfl)
end
section
variable {P : Program} {ty : Ty} {C : Cx} {G : Gh} {st : St} {a : Act} {w : World} {R : Type} {k : St → Slot → Option R} {r : R} {o : Oper} {next : Act → World → Prop} {Q : Exit → Act → World → Prop}
theorem arr_elAt {ok : Nat → Prop} {ai : AI} {rr : Arr} (ha : ArrAt C G w ai rr) {off len : Nat} (hlen : off + len ≤ ai.n) {p : Option Addr} {c : Nat} (hc : len ≤ c) (H : Keeps w w (G.ok C) ok)
    (hp : 0 < c → ∃ blk base m, ai.loc = some (blk, base, m) ∧ p = some ⟨blk, base + off * ai.sz, none⟩) : ElAt w ok rr.e ((rr.l.drop off).take len) p := fun i hi => by
  have hn := ha.n
  have hll : ((rr.l.drop off).take len).length = len := by simp; omega
  rw [hll] at hi
  obtain ⟨blk, base, m, hloc, hp'⟩ := hp (by omega)
  obtain ⟨cs, h1, h2⟩ := ha.el blk base m hloc (off + i) (by omega)
  refine ⟨_, hp', cs, ?_, fun j v hj => ?_⟩
  · have : ((rr.l.drop off).take len).getD i rr.e.zero = rr.l.getD (off + i) rr.e.zero := by
      rw [List.getD_eq_getElem?_getD, List.getD_eq_getElem?_getD, List.getElem?_take, if_pos hi, List.getElem?_drop]
    rw [this]; exact h1.trans H
  · rw [Addr.add_mid]
    have := h2 j v hj
    rw [Nat.add_mul] at this
    rw [← ha.sz, show base + off * ai.sz + (i * ai.sz + j) = base + (off * ai.sz + i * ai.sz + j) by omega]
    exact this
theorem cont_rep (h : Rel C G st a w) {e : K} {l : Leaf} {v : Value} (hl : RepLeaf w (G.ok C) G l v) {xs : List e.T} (hx : st.cont e l = some xs) :
    ∃ A c, v = .slice A xs.length c ∧ xs.length ≤ c ∧ ElAt w (G.ok C) e xs A := by
  unfold St.cont at hx
  split at hx
  · rename_i e' l' x
    split at hx
    · rename_i he
      subst he
      cases hx
      obtain ⟨⟨A, c, hv, hc, hr⟩, _⟩ := hl
      simp only [List.cons.injEq, and_true] at hv
      refine ⟨A, c, hv, hc, fun i hi => ?_⟩
      obtain ⟨ad, h1, _, cs, h2, h3⟩ := hr i hi
      exact ⟨ad, h1, cs, h2, h3⟩
    · cases hx
  · rename_i id
    obtain ⟨rr, hr, hx⟩ := Option.bind_eq_some_iff.1 hx
    split at hx
    · rename_i he
      obtain ⟨re, rl, rd⟩ := rr
      simp only at he
      subst he
      have hx' : rl = xs := Option.some.inj hx
      subst hx'
      obtain ⟨ai, p, c, hA, hv, hc, hp⟩ := hl
      obtain ⟨ai', hA', ha⟩ := h.mem.arrR id _ hr
      rw [hA] at hA'; cases hA'
      have hn := ha.n
      simp only at hn
      refine ⟨p, c, by rw [hv, hn], by omega, ?_⟩
      have := arr_elAt ha (off := 0) (len := ai.n) (by omega) hc (Keeps.refl w _) (p := p) (fun h0 => by obtain ⟨blk, base, m, q1, q2, _⟩ := hp h0; exact ⟨blk, base, m, q1, by simpa using q2⟩)
      rw [List.drop_zero, List.take_of_length_le (by rw [hn]; exact Nat.le_refl _)] at this
      exact this
    · cases hx
  · rename_i id off len
    obtain ⟨rr, hr, hx⟩ := Option.bind_eq_some_iff.1 hx
    split at hx
    · rename_i he
      obtain ⟨re, rl, rd⟩ := rr
      simp only at he
      subst he
      have hx' : (rl.drop off).take len = xs := Option.some.inj hx
      subst hx'
      obtain ⟨ai, p, c, hA, hv, hc, ho, hp⟩ := hl
      obtain ⟨ai', hA', ha⟩ := h.mem.arrR id _ hr
      rw [hA] at hA'; cases hA'
      have hn := ha.n
      simp only at hn
      have hll : ((rl.drop off).take len).length = len := by simp; omega
      refine ⟨p, c, by rw [hll]; exact hv, by rw [hll]; exact hc, ?_⟩
      exact arr_elAt ha ho hc (Keeps.refl w _) (fun h0 => by obtain ⟨blk, base, m, q1, q2, _⟩ := hp h0; exact ⟨blk, base, m, q1, q2⟩)
    · cases hx
  · cases hx
    exact ⟨none, 0, hl, by simp, fun i hi => by simp at hi⟩
  · cases hx
end
end Go.Ev

namespace Go.Ev
section
variable {P : Program} {ty : Ty} {C : Cx} {G : Gh} {st : St} {a : Act} {w : World} {R : Type} {k : St → Slot → Option R} {r : R} {o : Oper} {next : Act → World → Prop} {Q : Exit → Act → World → Prop}
theorem Lies.own_of {e : K} {ok : Nat → Prop} {xs : List e.T} {news : List Value} (h : Lies w ok e xs news) {blk base : Nat} (hn : ∀ j u, news[j]? = some u → w.cell? ⟨blk, base + j, none⟩ = some u) {Fs : List (List Nat)} (hl : Fs.length = xs.length)
    (hr : ∀ i, i < xs.length → ∃ cs, OwnT w e (xs.getD i e.zero) cs (Fs.getD i []) ∧ ∀ j v, cs[j]? = some v → w.cell? ⟨blk, base + (i * e.sz + j), none⟩ = some v) : LiesOwn w e xs news Fs := by
  refine ⟨hl, fun i hi => ?_⟩
  obtain ⟨cs, h1, h2⟩ := hr i hi
  refine ⟨cs, h1, fun j v hj => ?_⟩
  have hjl : j < e.sz := by rw [← h1.length]; exact (List.getElem?_eq_some_iff.1 hj).1
  have : (i + 1) * e.sz ≤ xs.length * e.sz := Nat.mul_le_mul_right _ (by omega)
  rw [Nat.add_mul] at this
  have hlt : i * e.sz + j < news.length := by rw [h.len]; omega
  have h3 := hn _ _ (List.getElem?_eq_getElem hlt)
  rw [h2 j v hj] at h3
  rw [List.getElem?_eq_getElem hlt]; exact h3.symm
theorem Loose.sublist {F F' : List Nat} (h : Loose C G w F) (hs : F'.Sublist F) : Loose C G w F' :=
  ⟨h.nd.sublist hs, fun b hb => h.new b (hs.subset hb), fun b hb => h.lt b (hs.subset hb), fun b hb => h.wr b (hs.subset hb), fun b hb => h.inn b (hs.subset hb)⟩
theorem flat_flatten (n : Nat) : (List.replicate n ([] : List Nat)).flatten = [] := by
  induction n with
  | zero => rfl
  | succ n ih => rw [List.replicate_succ, List.flatten_cons, ih]; rfl
theorem srcOf_rep (h : Rel C G st a w) {e : K} {x : Leaf} {v : Value} (hl : RepLeaf w (G.ok C) G x v) {xs : List e.T} {dx : Bool} {st1 : St} (hs : srcOf st e x = some (xs, dx, st1)) :
    ∃ G1 A c news, Rel C G1 st1 a w ∧ Keeps w w (G.ok C) (G1.ok C) ∧ G1.Sub G ∧ st1.n = st.n ∧ (∀ id r, st1.arr.get id = some r → st.arr.get id = some r) ∧
      v = .slice A xs.length c ∧ Lies w (G1.ok C) e xs news ∧ (∀ ad, A = some ad → ∀ j u, news[j]? = some u → w.cell? (ad.add j) = some u) ∧ (A = none → xs = []) ∧
      (dx = true → ∃ Fs, LiesOwn w e xs news Fs ∧ Loose C G1 w Fs.flatten) := by
  have hA : ∀ {A : Option Addr}, ElAt w (G.ok C) e xs A → A = none → xs = [] := fun {A} hE h0 => by
    cases hx : xs with
    | nil => rfl
    | cons y ys => obtain ⟨ad, h1, _⟩ := hE 0 (by rw [hx]; simp); rw [h0] at h1; cases h1
  unfold srcOf at hs
  cases hx : st.cont e x with
  | none => rw [hx] at hs; cases hs
  | some xs' =>
    rw [hx] at hs
    simp only at hs
    cases hf : e.flat with
    | true =>
      rw [hf] at hs
      simp only [cond_true, Option.some.injEq, Prod.mk.injEq] at hs
      obtain ⟨rfl, rfl, rfl⟩ := hs
      obtain ⟨A, c, hv, hc, hE⟩ := cont_rep h hl hx
      obtain ⟨news, h1, h2⟩ := hE.cells
      exact ⟨G, A, c, news, h, Keeps.refl _ _, Gh.Sub.refl G, rfl, fun _ _ h => h, hv, h1, h2, hA hE, fun _ => ⟨_, h1.flat hf, by rw [flat_flatten]; exact Loose.nil _ _ _⟩⟩
    | false =>
      rw [hf] at hs
      simp only [cond_false] at hs
      split at hs
      · rename_i id
        split at hs
        · rename_i rr hr
          simp only [Option.some.injEq, Prod.mk.injEq] at hs
          obtain ⟨rfl, rfl, rfl⟩ := hs
          obtain ⟨A, c, hv, hc, hE⟩ := cont_rep h hl hx
          obtain ⟨news, h1, h2⟩ := hE.cells
          obtain ⟨ai0, p, c0, hAi, hv0, hc0, hp0⟩ := hl
          obtain ⟨g1, H, ai, hAi', ha, hblk⟩ := h.freeze (h.mem.ia id _ hAi) hr
          rw [hAi] at hAi'; cases hAi'
          refine ⟨_, A, c, news, g1, H, Gh.sub_setA G id, rfl, fun j r hj => ?_, hv, h1.trans H, h2, hA hE, fun hd => ?_⟩
          · simp only [St.freeze] at hj
            by_cases ej : j = id
            · subst ej; rw [Tr.get_set_same _ _ (h.mem.ia j _ hAi)] at hj; cases hj
            · rwa [Tr.get_set_ne _ _ ej] at hj
          · obtain ⟨re, rl, rd⟩ := rr
            have hxe : re = e ∧ HEq rl xs' := by
              unfold St.cont at hx
              simp only at hx
              rw [hr] at hx
              simp only [Option.bind_some] at hx
              split at hx
              · rename_i he
                subst he
                exact ⟨rfl, heq_of_eq (Option.some.inj hx)⟩
              · cases hx
            obtain ⟨he, hxl⟩ := hxe
            subst he
            have hxl' := eq_of_heq hxl
            subst hxl'
            have hn := ha.n
            simp only at hn hd
            obtain ⟨F, q1, q2, q3⟩ := own_leaf h hr hAi ha hd (off := 0) (len := rl.length) (p := p) (c := c0) (.inl ⟨rfl, rfl⟩) (by omega) (by omega) (fun h0 => by
              obtain ⟨blk, base, m, u1, u2, u3⟩ := hp0 h0
              exact ⟨blk, base, m, u1, by simpa using u2, by simpa using u3⟩)
            simp only [List.drop_zero, List.take_length] at q1
            obtain ⟨A', c', hv', hc', q1⟩ := q1
            have hpA : A = p := by rw [hv0] at hv; injection hv with e1 e2 e3; exact e1.symm
            have hpA' : A' = p := by simp only [List.cons.injEq, and_true] at hv'; injection hv' with e1 e2 e3; exact e1.symm
            rcases q1 with ⟨hc0', hF⟩ | ⟨blk, base, Fs, hA', hF, hFl, _, hel⟩
            · have : rl = [] := List.eq_nil_of_length_eq_zero (by omega)
              subst this
              exact ⟨[], ⟨rfl, fun i hi => by simp at hi⟩, Loose.nil _ _ _⟩
            · subst hF
              refine ⟨Fs, h1.own_of (blk := blk) (base := base) (fun j u hj => ?_) hFl hel, q2.sublist (List.sublist_cons_self _ _)⟩
              have := h2 ⟨blk, base, none⟩ (by rw [hpA, ← hpA', hA']) j u hj
              rwa [Addr.add_mid] at this
        · cases hs
      · simp only [Option.some.injEq, Prod.mk.injEq] at hs
        obtain ⟨rfl, rfl, rfl⟩ := hs
        obtain ⟨A, c, hv, hc, hE⟩ := cont_rep h hl hx
        obtain ⟨news, h1, h2⟩ := hE.cells
        have : xs' = [] := (Option.some.inj hx).symm
        subst this
        exact ⟨G, A, c, news, h, Keeps.refl _ _, Gh.Sub.refl G, rfl, fun _ _ h => h, hv, h1, h2, hA hE, fun _ => ⟨[], ⟨rfl, fun i hi => by simp at hi⟩, Loose.nil _ _ _⟩⟩
      · simp only [Option.some.injEq, Prod.mk.injEq] at hs
        obtain ⟨rfl, rfl, rfl⟩ := hs
        obtain ⟨A, c, hv, hc, hE⟩ := cont_rep h hl hx
        obtain ⟨news, h1, h2⟩ := hE.cells
        exact ⟨G, A, c, news, h, Keeps.refl _ _, Gh.Sub.refl G, rfl, fun _ _ h => h, hv, h1, h2, hA hE, fun h => by cases h⟩
structure Deep (C : Cx) (G : Gh) (w : World) (id : Nat) (e : K) (l xs : List e.T) (olds news : List Value) (dp : Bool) (F0 F2 : List (List Nat)) : Prop where
  l : dp = true → LiesOwn w e l olds F0
  x : dp = true → LiesOwn w e xs news F2
  nd : F0.flatten.Nodup
  inn : ∀ b ∈ F0.flatten, b ∈ G.inner id
  loose : Loose C G w F2.flatten
theorem Deep.nodup {id : Nat} {e : K} {l xs : List e.T} {olds news : List Value} {dp : Bool} {F0 F2 : List (List Nat)} (h : Deep C G w id e l xs olds news dp F0 F2) : (F0 ++ F2).flatten.Nodup := by
  rw [List.flatten_append]
  refine List.nodup_append.2 ⟨h.nd, h.loose.nd, fun b hb c hc e => ?_⟩
  subst e
  exact h.loose.inn b hc id (h.inn b hb)
theorem Deep.all {id : Nat} {e : K} {l xs : List e.T} {olds news : List Value} {dp : Bool} {F0 F2 : List (List Nat)} (h : Deep C G w id e l xs olds news dp F0 F2) {box : Tr (List Leaf)} {arr : Tr Arr} (hm : MemR C G box arr w) :
    ∀ b ∈ (F0 ++ F2).flatten, C.all b ∧ b < w.heap.size ∧ ¬ G.wr b ∧ ∀ id', id' ≠ id → b ∉ G.inner id' := fun b hb => by
  rw [List.flatten_append] at hb
  rcases List.mem_append.1 hb with hb | hb
  · have := h.inn b hb
    obtain ⟨h1, h2, h3⟩ := hm.fwr id b this
    exact ⟨h1, h2, h3, fun id' hne => hm.fdj id id' (Ne.symm hne) b this⟩
  · exact ⟨h.loose.new b hb, h.loose.lt b hb, h.loose.wr b hb, fun id' _ => h.loose.inn b hb id'⟩
theorem getD_flatten {F : List (List Nat)} {i b : Nat} (h : b ∈ F.getD i []) : b ∈ F.flatten := by
  rw [List.getD_eq_getElem?_getD] at h
  cases hi : F[i]? with
  | none => rw [hi] at h; simp at h
  | some l => rw [hi] at h; exact List.mem_flatten.2 ⟨l, List.mem_of_getElem? hi, h⟩
theorem renew_new (h : Rel C G st a w) {id : Nat} (hid : id < 64000) {e : K} {l xs : List e.T} {olds news : List Value} (h1 : Lies w (G.ok C) e l olds) (h2 : Lies w (G.ok C) e xs news) {dp : Bool} {F0 F2 : List (List Nat)}
    (hd : Deep C G w id e l xs olds news dp F0 F2) {cells : Array Value} (et : TypeId) (hcl : ∀ (j : Nat) (v : Value), (olds ++ news)[j]? = some v → cells[j]? = some v) (hm : (l ++ xs).length * e.sz ≤ cells.size) :
    ∃ G', Rel C G' (st.renew id ⟨e, l ++ xs, dp⟩) a (w.alloc (.cells cells et)) ∧
      ∀ cap, (l ++ xs).length ≤ cap → cap * e.sz ≤ cells.size → RepLeaf (w.alloc (.cells cells et)) (G'.ok C) G' (.own id) (.slice (some ⟨w.heap.size, 0, none⟩) (l ++ xs).length cap) := by
  have hsz := h.mem.size
  have hcell : ∀ (j : Nat) (v : Value), cells[j]? = some v → (w.alloc (.cells cells et)).cell? ⟨w.heap.size, 0 + j, none⟩ = some v := fun j v hj => by
    rw [Nat.zero_add, World.cell?_alloc_new]; exact hj
  have hlx := h1.append h2
  have hwr : ∀ i, (G.setA id (some ⟨e.sz, (l ++ xs).length, some (w.heap.size, 0, cells.size)⟩) (F0 ++ F2)).wr i → G.wr i ∨ i = w.heap.size := by
    rintro i (⟨b, base, hb⟩ | ⟨j, aj, base, m, hj, hl⟩)
    · exact .inl (Gh.wr_of_B hb)
    · by_cases e : j = id
      · subst e; rw [Gh.setA_same] at hj; cases hj; simp at hl; exact .inr hl.1.symm
      · rw [Gh.setA_ne _ _ _ e] at hj; exact .inl (Gh.wr_of_A hj hl)
  obtain ⟨g1, H⟩ := h.renew (w' := w.alloc (.cells cells et)) hid (a' := ⟨e, l ++ xs, dp⟩) (ai' := ⟨e.sz, (l ++ xs).length, some (w.heap.size, 0, cells.size)⟩) (F' := F0 ++ F2)
    (by simp) (fun x v _ hx => alloc_keeps w _ x v hx)
    (fun blk base m hl => by simp only [Option.some.injEq, Prod.mk.injEq] at hl; obtain ⟨rfl, rfl, rfl⟩ := hl; exact .inl ⟨Nat.le_refl _, by simp⟩)
    (fun H => by
      refine ⟨rfl, rfl, fun hn => (by cases hn), fun blk base m hl => ?_, fun blk base m hl j hj => ?_, fun blk base m hl => ?_, fun blk base m hl j hj => ?_, fun blk base m hl i hi => ?_⟩ <;>
        (simp only [Option.some.injEq, Prod.mk.injEq] at hl; obtain ⟨rfl, rfl, rfl⟩ := hl)
      · exact .inl hsz
      · exact .inl hsz
      · exact hm
      · exact ⟨cells[j], hcell j _ (Array.getElem?_eq_getElem hj), by simp⟩
      · obtain ⟨cs, h1, h2⟩ := hlx.el i hi
        exact ⟨cs, h1.trans H, fun j v hj => hcell _ _ (hcl _ _ (h2 j v hj))⟩)
    (fun hdt => by
      obtain ⟨u1, u2⟩ := (hd.l hdt).append h1.len (hd.x hdt)
      refine ⟨fun blk base m hl => ?_, u1, fun blk base m hl i hi => ?_⟩ <;> (simp only [Option.some.injEq, Prod.mk.injEq] at hl; obtain ⟨rfl, rfl, rfl⟩ := hl)
      · exact .inl hsz
      · obtain ⟨cs, h4, h5⟩ := u2 i hi
        exact ⟨cs, h4.trans fun x v _ hx => alloc_keeps w _ x v hx, fun j v hj => hcell _ _ (hcl _ _ (h5 j v hj))⟩)
    hd.nodup
    (fun b hb => by
      obtain ⟨q1, q2, q3, q4⟩ := hd.all h.mem b hb
      refine ⟨q1, by simp; omega, fun hc => ?_, q4⟩
      rcases hwr b hc with hc | hc
      · exact q3 hc
      · omega)
    (h.fr.alloc _)
  refine ⟨_, g1, fun cap h2 h3 => ?_⟩
  exact ⟨_, _, cap, Gh.setA_same .., rfl, h2, fun _ => ⟨w.heap.size, 0, cells.size, rfl, rfl, h3⟩⟩
theorem renew_in (h : Rel C G st a w) {id : Nat} (hid : id < 64000) {e : K} {al : List e.T} {adp : Bool} {ai : AI} (hA : G.A id = some ai) (ha : ArrAt C G w ai ⟨e, al, adp⟩) {blk base m : Nat} (hloc : ai.loc = some (blk, base, m)) {off len : Nat} (hoff : off + len ≤ ai.n)
    {xs : List e.T} {olds news : List Value} (h2 : Lies w (G.ok C) e xs news) (hroom : (off + len) * e.sz + news.length ≤ m) (holds : ∀ j u, olds[j]? = some u → w.cell? ⟨blk, base + off * e.sz + j, none⟩ = some u)
    {dp : Bool} {F0 F2 : List (List Nat)} (hnew : dp = true → C.all blk) (hd : Deep C G w id e ((al.drop off).take len) xs olds news dp F0 F2) :
    Rel C (G.setA id (some ⟨e.sz, len + xs.length, some (blk, base + off * e.sz, m - off * e.sz)⟩) (F0 ++ F2)) (st.renew id ⟨e, (al.drop off).take len ++ xs, dp⟩) a (w.setCells blk (base + off * e.sz + len * e.sz) news) := by
  have hn := ha.n
  have hs := ha.sz
  simp only at hn hs
  have hll : ((al.drop off).take len).length = len := by simp; omega
  have hnl := h2.len
  rw [Nat.add_mul] at hroom
  have hthere := ha.there blk base m hloc
  have hsome : ∀ j, j < m → (w.cell? ⟨blk, base + j, none⟩).isSome = true := fun j hj => by obtain ⟨v, q1, _⟩ := hthere j hj; rw [q1]; rfl
  have hout : ∀ x : Addr, x.block ≠ blk → (w.setCells blk (base + off * e.sz + len * e.sz) news).cell? x = w.cell? x := fun x hx => World.cell?_setCells_out _ _ _ _ _ fun hc _ => absurd hc hx
  have hlow : ∀ j, j < len * e.sz → (w.setCells blk (base + off * e.sz + len * e.sz) news).cell? ⟨blk, base + off * e.sz + j, none⟩ = w.cell? ⟨blk, base + off * e.sz + j, none⟩ := fun j hj =>
    World.cell?_setCells_out _ _ _ _ _ fun _ _ => .inl (by show base + off * e.sz + j < _; omega)
  have hin : ∀ j u, news[j]? = some u → (w.setCells blk (base + off * e.sz + len * e.sz) news).cell? ⟨blk, base + off * e.sz + (len * e.sz + j), none⟩ = some u := fun j u hj => by
    have hjl := (List.getElem?_eq_some_iff.1 hj).1
    have := World.cell?_setCells_in blk news (base + off * e.sz + len * e.sz) w (fun q hq => by
      have := hsome (off * e.sz + len * e.sz + q) (by omega)
      rwa [show base + (off * e.sz + len * e.sz + q) = base + off * e.sz + len * e.sz + q by omega] at this) j hjl
    rw [show base + off * e.sz + len * e.sz + j = base + off * e.sz + (len * e.sz + j) by omega] at this
    rw [this]; rw [List.getElem?_eq_getElem hjl] at hj; exact hj
  have hwr : ∀ i, (G.setA id (some ⟨e.sz, len + xs.length, some (blk, base + off * e.sz, m - off * e.sz)⟩) (F0 ++ F2)).wr i → G.wr i := by
    rintro i (⟨b, bs, hb⟩ | ⟨j, aj, bs, m', hj, hl⟩)
    · exact Gh.wr_of_B hb
    · by_cases ej : j = id
      · subst ej; rw [Gh.setA_same] at hj; cases hj
        simp only [Option.some.injEq, Prod.mk.injEq] at hl
        obtain ⟨rfl, _, _⟩ := hl
        exact Gh.wr_of_A hA hloc
      · rw [Gh.setA_ne _ _ _ ej] at hj; exact Gh.wr_of_A hj hl
  have hF : ∀ b ∈ (F0 ++ F2).flatten, b ≠ blk := fun b hb hc => (hd.all h.mem b hb).2.2.1 (hc ▸ Gh.wr_of_A hA hloc)
  refine (h.renew (w' := w.setCells blk (base + off * e.sz + len * e.sz) news) hid (a' := ⟨e, (al.drop off).take len ++ xs, dp⟩) (ai' := ⟨e.sz, len + xs.length, some (blk, base + off * e.sz, m - off * e.sz)⟩) (F' := F0 ++ F2)
    (by rw [size_setCells]; exact Nat.le_refl _) (fun x v hx hc => ⟨by rw [hout x (hx ai blk base m hA hloc)]; exact hc, World.frozen?_setCells ..⟩)
    (fun b bs m' hl => by simp only [Option.some.injEq, Prod.mk.injEq] at hl; obtain ⟨rfl, rfl, rfl⟩ := hl; exact .inr ⟨ai, base, m, hA, hloc⟩)
    (fun H => by
      refine ⟨rfl, by simp [hll], fun hn => (by cases hn), fun b bs m' hl => ?_, fun b bs m' hl j hj => ?_, fun b bs m' hl => ?_, fun b bs m' hl j hj => ?_, fun b bs m' hl i hi => ?_⟩ <;>
        (simp only [Option.some.injEq, Prod.mk.injEq] at hl; obtain ⟨rfl, rfl, rfl⟩ := hl)
      · exact ha.may blk base m hloc
      · have := ha.wr blk base m hloc (off * e.sz + j) (by omega)
        rwa [show base + (off * e.sz + j) = base + off * e.sz + j by omega] at this
      · rw [Nat.add_mul]; simp only; omega
      · obtain ⟨v, q1, q2⟩ := hthere (off * e.sz + j) (by omega)
        have := World.isSome_setCells blk news (base + off * e.sz + len * e.sz) w ⟨blk, base + (off * e.sz + j), none⟩ (by rw [q1]; rfl)
        obtain ⟨u, hu⟩ := Option.isSome_iff_exists.1 this
        rw [show base + (off * e.sz + j) = base + off * e.sz + j by omega] at hu q2
        exact ⟨u, hu, by rw [World.frozen?_setCells]; exact q2⟩
      · simp only at hi
        rw [getD_append, hll]
        by_cases hl : i < len
        · rw [if_pos hl]
          obtain ⟨cs, q1, q2⟩ := ha.el blk base m hloc (off + i) (by omega)
          refine ⟨cs, ?_, fun j v hj => ?_⟩
          · have : ((al.drop off).take len).getD i e.zero = al.getD (off + i) e.zero := by
              rw [List.getD_eq_getElem?_getD, List.getD_eq_getElem?_getD, List.getElem?_take, if_pos hl, List.getElem?_drop]
            rw [this]; exact q1.trans H
          · have hjl : j < e.sz := by rw [← q1.length]; exact (List.getElem?_eq_some_iff.1 hj).1
            have h3 : (i + 1) * e.sz ≤ len * e.sz := Nat.mul_le_mul_right _ (by omega)
            rw [Nat.add_mul] at h3
            show World.cell? _ ⟨blk, base + off * e.sz + (i * e.sz + j), none⟩ = some v
            rw [hlow (i * e.sz + j) (by omega)]
            have := q2 j v hj
            rw [hs, Nat.add_mul] at this
            rwa [show base + off * e.sz + (i * e.sz + j) = base + (off * e.sz + i * e.sz + j) by omega]
        · rw [if_neg hl]
          obtain ⟨cs, q1, q2⟩ := h2.el (i - len) (by omega)
          refine ⟨cs, q1.trans H, fun j v hj => ?_⟩
          have := hin _ _ (q2 j v hj)
          have h4 : i * e.sz = len * e.sz + (i - len) * e.sz := by rw [← Nat.add_mul]; congr 1; omega
          rw [show base + off * e.sz + (i * e.sz + j) = base + off * e.sz + (len * e.sz + ((i - len) * e.sz + j)) by omega]
          exact this)
    (fun hdt => by
      obtain ⟨l1, u1⟩ := hd.l hdt
      obtain ⟨l2, u2⟩ := hd.x hdt
      have hoF : ∀ x v, x.block ∈ (F0 ++ F2).flatten → w.cell? x = some v → (w.setCells blk (base + off * e.sz + len * e.sz) news).cell? x = some v ∧ (w.setCells blk (base + off * e.sz + len * e.sz) news).frozen? x = w.frozen? x :=
        fun x v hb hc => ⟨by rw [hout x (hF _ hb)]; exact hc, World.frozen?_setCells ..⟩
      refine ⟨fun b bs m' hl => ?_, by simp [l1, l2], fun b bs m' hl i hi => ?_⟩ <;> (simp only [Option.some.injEq, Prod.mk.injEq] at hl; obtain ⟨rfl, rfl, rfl⟩ := hl)
      · exact hnew hdt
      · simp only at hi
        rw [getD_append, getD_append, hll, l1, hll]
        by_cases hl : i < len
        · rw [if_pos hl, if_pos hl]
          obtain ⟨cs, q1, q2⟩ := u1 i (by rw [hll]; exact hl)
          refine ⟨cs, q1.trans fun x v hb => hoF x v (by rw [List.flatten_append]; exact List.mem_append_left _ (getD_flatten hb)), fun j v hj => ?_⟩
          have hjl : j < e.sz := by rw [← q1.length]; exact (List.getElem?_eq_some_iff.1 hj).1
          have h3 : (i + 1) * e.sz ≤ len * e.sz := Nat.mul_le_mul_right _ (by omega)
          rw [Nat.add_mul] at h3
          show World.cell? _ ⟨blk, base + off * e.sz + (i * e.sz + j), none⟩ = some v
          rw [hlow (i * e.sz + j) (by omega)]
          exact holds _ _ (q2 j v hj)
        · rw [if_neg hl, if_neg hl]
          obtain ⟨cs, q1, q2⟩ := u2 (i - len) (by omega)
          refine ⟨cs, q1.trans fun x v hb => hoF x v (by rw [List.flatten_append]; exact List.mem_append_right _ (getD_flatten hb)), fun j v hj => ?_⟩
          have := hin _ _ (q2 j v hj)
          have h4 : i * e.sz = len * e.sz + (i - len) * e.sz := by rw [← Nat.add_mul]; congr 1; omega
          rw [show base + off * e.sz + (i * e.sz + j) = base + off * e.sz + (len * e.sz + ((i - len) * e.sz + j)) by omega]
          exact this)
    hd.nodup
    (fun b hb => by
      obtain ⟨q1, q2, q3, q4⟩ := hd.all h.mem b hb
      exact ⟨q1, by rw [size_setCells]; exact q2, fun hc => q3 (hwr b hc), q4⟩)
    (h.fr.setCells news _ fun j hj => by
      have := ha.wr blk base m hloc (off * e.sz + len * e.sz + j) (by omega)
      rwa [show base + (off * e.sz + len * e.sz + j) = base + off * e.sz + len * e.sz + j by omega] at this)).1
theorem renew_none (h : Rel C G st a w) {id : Nat} (hid : id < 64000) {e : K} {ai : AI} (hA : G.A id = some ai) (hloc : ai.loc = none) {dp : Bool} :
    Rel C (G.setA id (some ⟨e.sz, 0, none⟩) []) (st.renew id ⟨e, [], dp⟩) a w := by
  exact (h.renew (w' := w) hid (a' := ⟨e, [], dp⟩) (ai' := ⟨e.sz, 0, none⟩) (F' := []) (Nat.le_refl _) (fun x v _ hc => ⟨hc, rfl⟩) (fun _ _ _ hl => by cases hl)
    (fun H => ⟨rfl, rfl, fun _ => rfl, fun _ _ _ hl => (by cases hl), fun _ _ _ hl => (by cases hl), fun _ _ _ hl => (by cases hl), fun _ _ _ hl => (by cases hl), fun _ _ _ hl => (by cases hl)⟩)
    (fun _ => ⟨fun _ _ _ hl => (by cases hl), rfl, fun _ _ _ hl => (by cases hl)⟩) (by simp) (fun b hb => by simp at hb) h.fr).1
end
end Go.Ev

namespace Go.Ev
section
variable {P : Program} {ty : Ty} {C : Cx} {G : Gh} {st : St} {a : Act} {w : World} {R : Type} {k : St → Slot → Option R} {r : R} {o : Oper} {next : Act → World → Prop} {Q : Exit → Act → World → Prop}
theorem LiesOwn.drew {e : K} {xs : List e.T} {news : List Value} {F : List (List Nat)} (h : LiesOwn w e xs news F) : LiesOwn w.drew e xs news F :=
  ⟨h.1, fun i hi => let ⟨cs, h1, h2⟩ := h.2 i hi; ⟨cs, h1.trans fun x v _ hc => ⟨hc, rfl⟩, h2⟩⟩
theorem Deep.drew {id : Nat} {e : K} {l xs : List e.T} {olds news : List Value} {dp : Bool} {F0 F2 : List (List Nat)} (h : Deep C G w id e l xs olds news dp F0 F2) : Deep C G w.drew id e l xs olds news dp F0 F2 :=
  ⟨fun hd => (h.l hd).drew, fun hd => (h.x hd).drew, h.nd, h.inn, ⟨h.loose.nd, h.loose.new, h.loose.lt, h.loose.wr, h.loose.inn⟩⟩
theorem app_arr (h : Rel C G st a w) {t et tr : TypeId} {i : TypeInfo} {z : Value} (hu : P.underlying t = some (.slice et)) (hi : P.info? et = some i) (hz : i.zero = some z) {e : K} (his : i.size = e.sz) (hib : 0 < i.bytes) (hzs : z.cells.size = e.sz)
    {id : Nat} (hid : id < 64000) {al : List e.T} {adp : Bool} {ai : AI} (hr : st.arr.get id = some ⟨e, al, adp⟩) (hA : G.A id = some ai) (ha : ArrAt C G w ai ⟨e, al, adp⟩) {off len : Nat} {p : Option Addr} {c : Nat} (hc : len ≤ c) (hoff : off + len ≤ ai.n)
    (hp : 0 < c → ∃ blk base m, ai.loc = some (blk, base, m) ∧ p = some ⟨blk, base + off * ai.sz, none⟩ ∧ (off + c) * ai.sz ≤ m)
    {xs : List e.T} {A : Option Addr} {cx : Nat} {news : List Value} (hx : Lies w (G.ok C) e xs news) (hx1 : ∀ ad, A = some ad → ∀ j u, news[j]? = some u → w.cell? (ad.add j) = some u) (hx0 : A = none → xs = [])
    {dx : Bool} (hxd : dx = true → ∃ Fs, LiesOwn w e xs news Fs ∧ Loose C G w Fs.flatten) (hroom : ((al.drop off).take len ++ xs).length * i.bytes ≤ 140737488355328)
    {dp : Bool} (hdp : dp = true → adp = true ∧ ((off = 0 ∧ len = ai.n) ∨ e.flat = true) ∧ (dx = true ∨ e.flat = true)) :
    ∃ G' v w', (Builtin.append_ #[t, t] tr #[.slice p len c, .slice A xs.length cx]).run P w = .ok v w' ∧ Rel C G' (st.renew id ⟨e, (al.drop off).take len ++ xs, dp⟩) a w' ∧ RepLeaf w' (G'.ok C) G' (.own id) v := by
  have hn := ha.n
  have hs := ha.sz
  simp only at hn hs
  have hll : ((al.drop off).take len).length = len := by simp; omega
  have hE : ElAt w (G.ok C) e ((al.drop off).take len) p := arr_elAt ha hoff hc (Keeps.refl w _) fun h0 => by obtain ⟨blk, base, m, q1, q2, _⟩ := hp h0; exact ⟨blk, base, m, q1, q2⟩
  obtain ⟨olds, ho1, ho2⟩ := hE.cells
  have hdeep : ∃ F0 F2, Deep C G w id e ((al.drop off).take len) xs olds news dp F0 F2 ∧ (dp = true → ∀ blk base m, ai.loc = some (blk, base, m) → C.all blk) := by
    cases dp with
    | false => exact ⟨[], [], ⟨fun h => (by cases h), fun h => (by cases h), by simp, fun b hb => by simp at hb, Loose.nil _ _ _⟩, fun h => (by cases h)⟩
    | true =>
      obtain ⟨d1, d2, d3⟩ := hdp rfl
      have how := h.mem.own id _ ai hr hA d1
      obtain ⟨F2, q1, q2⟩ : ∃ F2, LiesOwn w e xs news F2 ∧ Loose C G w F2.flatten := by
        rcases d3 with d3 | d3
        · exact hxd d3
        · exact ⟨_, hx.flat d3, by rw [flat_flatten]; exact Loose.nil _ _ _⟩
      by_cases hf : e.flat = true
      · exact ⟨_, F2, ⟨fun _ => ho1.flat hf, fun _ => q1, by rw [flat_flatten]; simp, fun b hb => by rw [flat_flatten] at hb; simp at hb, q2⟩, fun _ => how.new⟩
      · rcases d2 with ⟨rfl, rfl⟩ | d2
        · refine ⟨G.F id, F2, ⟨fun _ => ?_, fun _ => q1, h.mem.fnd id, fun b hb => hb, q2⟩, fun _ => how.new⟩
          have hl0 : (al.drop 0).take ai.n = al := by rw [List.drop_zero, List.take_of_length_le (by omega)]
          rw [hl0] at ho1 ⊢
          by_cases h0 : c = 0
          · have : al = [] := List.eq_nil_of_length_eq_zero (by omega)
            subst this
            exact ⟨how.len, fun i hi => by simp at hi⟩
          · obtain ⟨blk, base, m, r1, r2, _⟩ := hp (by omega)
            refine ho1.own_of (blk := blk) (base := base) (fun j u hj => ?_) how.len (fun q hq => ?_)
            · have := ho2 _ r2 j u hj
              rw [Addr.add_mid] at this
              simpa using this
            · obtain ⟨cs, r3, r4⟩ := how.el blk base m r1 q (by omega)
              refine ⟨cs, r3, fun j v hj => ?_⟩
              have := r4 j v hj
              rwa [hs] at this
        · exact absurd d2 hf
  obtain ⟨F0, F2, hD, hnew⟩ := hdeep
  have hsrc : Src P i.size t (.slice A xs.length cx) xs.length news w := by rw [his]; exact hx.src hx1 hx0 hu cx
  rw [List.length_append, hll] at hroom
  have hmx : len + xs.length ≤ 140737488355328 := Nat.le_trans (Nat.le_mul_of_pos_right _ hib) hroom
  by_cases hm : xs = []
  · subst hm
    have hnews : news = [] := List.eq_nil_of_length_eq_zero (by simpa using hx.len)
    subst hnews
    have hrun := run_append_nothing (P := P) w t t tr et i hu hi p len c hc _ hsrc
    cases hloc : ai.loc with
    | none =>
      have hn0 := ha.nil hloc
      have hl0 : len = 0 := by omega
      subst hl0
      have hc0 : ¬ 0 < c := fun h0 => by obtain ⟨blk, base, m, q1, _⟩ := hp h0; rw [hloc] at q1; cases q1
      refine ⟨_, _, _, hrun, by simpa using renew_none (dp := dp) h hid hA hloc, ?_⟩
      exact ⟨_, p, c, Gh.setA_same .., rfl, hc, fun h0 => absurd h0 hc0⟩
    | some x =>
      obtain ⟨blk, base, m⟩ := x
      have hle := ha.le blk base m hloc
      have : (off + len) * e.sz ≤ ai.n * ai.sz := by rw [hs]; exact Nat.mul_le_mul_right _ hoff
      by_cases hc0 : c = 0
      · have hl0 : len = 0 := by omega
        subst hl0
        have h3 := renew_in h hid hA ha hloc hoff hx (by simp only [List.length_nil]; omega) (olds := olds) (fun j u hj => by
          have : olds.length = 0 := by simpa using ho1.len
          have := (List.getElem?_eq_some_iff.1 hj).1
          omega) (fun hd => hnew hd _ _ _ hloc) hD
        refine ⟨_, _, _, hrun, h3, ?_⟩
        exact ⟨_, p, c, Gh.setA_same .., rfl, hc, fun h0 => by omega⟩
      · obtain ⟨blk', base', m', q1, q2, q3⟩ := hp (by omega)
        rw [hloc] at q1; cases q1
        have h3 := renew_in h hid hA ha hloc hoff hx (by simp only [List.length_nil]; omega) (olds := olds) (fun j u hj => by
          have := ho2 _ q2 j u hj
          rwa [Addr.add_mid, hs] at this) (fun hd => hnew hd _ _ _ hloc) hD
        refine ⟨_, _, _, hrun, h3, ?_⟩
        refine ⟨_, p, c, Gh.setA_same .., rfl, hc, fun h0 => ⟨blk, base + off * e.sz, m - off * e.sz, rfl, by rw [q2, hs], ?_⟩⟩
        rw [hs, Nat.add_mul] at q3
        simp only; omega
  · have hxl : 0 < xs.length := List.length_pos_iff.2 hm
    have hnl := hx.len
    by_cases hcap : len + xs.length ≤ c
    · obtain ⟨blk, base, m, q1, q2, q3⟩ := hp (by omega)
      have hle := ha.le blk base m q1
      have hmul : (len + xs.length) * e.sz ≤ c * e.sz := Nat.mul_le_mul_right _ hcap
      rw [hs, Nat.add_mul] at q3
      rw [Nat.add_mul] at hmul
      have hthere : ∀ j, j < news.length → ∃ v, w.cell? ⟨blk, base + off * e.sz + len * i.size + j, none⟩ = some v ∧ w.frozen? ⟨blk, base + off * e.sz + len * i.size + j, none⟩ = false := fun j hj => by
        have := ha.there blk base m q1 (off * e.sz + len * e.sz + j) (by omega)
        rw [his]
        rwa [show base + (off * e.sz + len * e.sz + j) = base + off * e.sz + len * e.sz + j by omega] at this
      rw [hs] at q2
      subst q2
      have hrun := run_append_room_src (P := P) w t t tr et i hu hi blk (base + off * e.sz) len c _ xs.length news hsrc hcap (fun j hj => by obtain ⟨v, u1, _⟩ := hthere j hj; rw [u1]; rfl) (fun j hj => by obtain ⟨v, _, u2⟩ := hthere j hj; exact u2)
      rw [his] at hrun
      have h3 := renew_in h hid hA ha q1 hoff hx (by rw [Nat.add_mul]; omega) (olds := olds) (fun j u hj => by
          have := ho2 _ rfl j u hj
          rwa [Addr.add_mid] at this) (fun hd => hnew hd _ _ _ q1) hD
      refine ⟨_, _, _, hrun, h3, ?_⟩
      refine ⟨⟨e.sz, len + xs.length, some (blk, base + off * e.sz, m - off * e.sz)⟩, some ⟨blk, base + off * e.sz, none⟩, c, Gh.setA_same .., rfl, hcap, fun _ => ⟨blk, base + off * e.sz, m - off * e.sz, rfl, rfl, ?_⟩⟩
      show c * e.sz ≤ m - off * e.sz
      omega
    · have hp0 : p = none → (al.drop off).take len = [] := fun hpn => by
        refine List.eq_nil_of_length_eq_zero ?_
        rw [hll]
        by_cases h0 : c = 0
        · omega
        · obtain ⟨blk, base, m, _, q2, _⟩ := hp (by omega)
          rw [hpn] at q2; cases q2
      have hfirst := ho1.first (P := P) ho2 hp0 c
      rw [hll] at hfirst
      have hrun := run_append_grow_src (P := P) w t t tr et i z hu hi hz p len c olds (by rw [his]; exact hfirst) _ xs.length news hsrc (by omega) (by omega) (growslice_fits (by omega) hroom)
      have hcg := grownCap_ge w (len + xs.length) c et
      generalize hcp : grownCap w (len + xs.length) c et = cap at hrun hcg
      have hK : Keeps w w.drew (G.ok C) (G.ok C) := fun x v h1 h2 => ⟨h1, h2⟩
      have hcl : (olds ++ news).length = (len + xs.length) * e.sz := by rw [List.length_append, ho1.len, hll, hnl, Nat.add_mul]
      have hsz : (((olds ++ news).toArray ++ Builtin.zeroCells z.cells (cap - (len + xs.length))).size) = cap * e.sz := by
        rw [Array.size_append, size_zeroCells, hzs]
        simp only [List.size_toArray]
        rw [hcl, ← Nat.add_mul]; congr 1; omega
      obtain ⟨G', h3, h4⟩ := renew_new (w := w.drew) (h.drawn (w.drawn + 1)) hid (ho1.trans hK) (hx.trans hK) hD.drew (cells := (olds ++ news).toArray ++ Builtin.zeroCells z.cells (cap - (len + xs.length))) et
        (fun j v hj => by
          have := (List.getElem?_eq_some_iff.1 hj).1
          rw [Array.getElem?_append_left (by simpa using this)]
          simpa using hj)
        (by rw [hsz, List.length_append, hll]; exact Nat.mul_le_mul_right _ hcg)
      have h5 := h4 cap (by rw [List.length_append, hll]; exact hcg) (by rw [hsz]; exact Nat.le_refl _)
      rw [List.length_append, hll] at h5
      exact ⟨G', _, _, hrun, h3, h5⟩
end
end Go.Ev

namespace Go.Ev
theorem run_append_zeros {P : Program} (w : World) (t tx ty e : TypeId) {kd : IntKind} (i : TypeInfo) (z : Value) (ht : P.underlying t = some (.slice e)) (htx : P.underlying tx = some (.int kd)) (hi : P.info? e = some i) (hz : i.zero = some z)
    (n : Nat) (h0 : 0 < n) (hs : 0 < i.size) (h63 : (n : Int) ≤ 9223372036854775807) (h48 : n * i.bytes ≤ 140737488355328) (hfit : Builtin.nextslicecap n 0 * i.bytes ≤ 281474976710656) :
    (Builtin.append_ #[t, tx] ty #[.slice none 0 0, .int .i64 (n : Int)]).run P w =
      .ok (.slice (some ⟨w.heap.size, 0, none⟩) n (grownCap w n 0 e))
        (w.drew.alloc (.cells (Builtin.zeroCells z.cells n ++ Builtin.zeroCells z.cells (grownCap w n 0 e - n)) e)) := by
  have hw : IntKind.wrap .i64 (n : Int) = (n : Int) := by rw [IntKind.wrap_i64]; omega
  have h1 : ¬ ((n : Int) < 0) := by omega
  have h2 : ¬ ((281474976710656 : Int) < (n : Int) * (i.bytes : Int)) := by
    have : ((n * i.bytes : Nat) : Int) ≤ 140737488355328 := by omega
    rw [Int.natCast_mul] at this; omega
  have h3 : ¬ (n = 0) := by omega
  have h4 : ¬ (n * i.size = 0) := by have := Nat.mul_pos h0 hs; omega
  have h5 : ¬ (9223372036854775807 < (n : Int)) := by omega
  have h6 : ¬ (281474976710656 < Builtin.nextslicecap n 0 * i.bytes) := by omega
  simp [Builtin.append_, run_underlying ht, run_underlying htx, sizeOf, typeInfo, zeroValue, hi, hz, asInt, asIntOf, hw, h1, h2, h3, h4, h5, h6, Question.forced, newRow, grownCap, Builtin.firstCells]
theorem getElem?_zeroCells (z : Array Value) (n i : Nat) (h : i < n * z.size) (h0 : 0 < z.size) : (Builtin.zeroCells z n)[i]? = z[i % z.size]? := by
  have hm : i % z.size < z.size := Nat.mod_lt _ h0
  unfold Builtin.zeroCells
  rw [Array.getElem?_map, Array.getElem?_range, if_pos h, Array.getElem?_eq_getElem hm]
  simp [getElem!_pos z (i % z.size) hm]
section
variable {P : Program} {ty : Ty} {C : Cx} {G : Gh} {st : St} {a : Act} {w : World} {R : Type} {k : St → Slot → Option R} {r : R} {o : Oper} {next : Act → World → Prop} {Q : Exit → Act → World → Prop}
theorem hid_of {d n : Nat} (hd : d < n) (hn : n ≤ 16000) : d * 4 < 64000 := by
  have : d < 16000 := Nat.lt_of_lt_of_le hd hn
  exact Nat.lt_of_lt_of_le (Nat.mul_lt_mul_of_pos_right this (by decide)) (by decide)
theorem app_new (h : Rel C G st a w) {t et tr : TypeId} {i : TypeInfo} {z : Value} (hu : P.underlying t = some (.slice et)) (hi : P.info? et = some i) (hz : i.zero = some z) {e : K} (his : i.size = e.sz) (hib : 0 < i.bytes) (hzs : z.cells.size = e.sz)
    {id : Nat} (hid : id < 64000) (hnone : st.arr.get id = none) {l xs : List e.T} {p : Option Addr} {olds : List Value} (hl : Lies w (G.ok C) e l olds) (hl1 : ∀ ad, p = some ad → ∀ j u, olds[j]? = some u → w.cell? (ad.add j) = some u) (hl0 : p = none → l = [])
    {A : Option Addr} {cx : Nat} {news : List Value} (hx : Lies w (G.ok C) e xs news) (hx1 : ∀ ad, A = some ad → ∀ j u, news[j]? = some u → w.cell? (ad.add j) = some u) (hx0 : A = none → xs = [])
    {dp : Bool} (hdp : dp = true → ∃ F1 F2, LiesOwn w e l olds F1 ∧ LiesOwn w e xs news F2 ∧ F1.flatten = [] ∧ Loose C G w F2.flatten) (hroom : (l ++ xs).length * i.bytes ≤ 140737488355328) (hne : l = [] ∨ xs ≠ []) :
    ∃ G' v w', (Builtin.append_ #[t, t] tr #[.slice p l.length l.length, .slice A xs.length cx]).run P w = .ok v w' ∧ Rel C G' (st.newArr id ⟨e, l ++ xs, dp⟩) a w' ∧ RepLeaf w' (G'.ok C) G' (.own id) v := by
  have hsrc : Src P i.size t (.slice A xs.length cx) xs.length news w := by rw [his]; exact hx.src hx1 hx0 hu cx
  have hnoneA : G.A id = none := by
    cases hq : G.A id with
    | none => rfl
    | some ai => obtain ⟨r, h1⟩ := h.mem.adom id ai hq; rw [hnone] at h1; cases h1
  by_cases hm : xs = []
  · subst hm
    rcases hne with rfl | hne
    · have hnews : news = [] := List.eq_nil_of_length_eq_zero (by simpa using hx.len)
      subst hnews
      have hrun := run_append_nothing (P := P) w t t tr et i hu hi p 0 0 (Nat.le_refl 0) _ hsrc
      have h3 := (h.set_arr (w' := w) (by omega) (a' := ⟨e, [], dp⟩) (ai' := ⟨e.sz, 0, none⟩) (F' := []) (fun ai hai => by rw [hnoneA] at hai; cases hai) (.inl hid) (Nat.le_refl _) (fun x v _ hc => ⟨hc, rfl⟩) (fun _ _ _ hl => by cases hl)
        (fun H => ⟨rfl, rfl, fun _ => rfl, fun _ _ _ hl => (by cases hl), fun _ _ _ hl => (by cases hl), fun _ _ _ hl => (by cases hl), fun _ _ _ hl => (by cases hl), fun _ _ _ hl => (by cases hl)⟩)
        (fun _ => ⟨fun _ _ _ hl => (by cases hl), rfl, fun _ _ _ hl => (by cases hl)⟩) (by simp) (fun b hb => by simp at hb) h.fr).1
      exact ⟨_, _, _, hrun, h3, ⟨e.sz, 0, none⟩, p, 0, Gh.setA_same .., rfl, Nat.le_refl _, fun h0 => by omega⟩
    · exact absurd rfl hne
  · have hxl : 0 < xs.length := List.length_pos_iff.2 hm
    rw [List.length_append] at hroom
    have hmx : l.length + xs.length ≤ 140737488355328 := Nat.le_trans (Nat.le_mul_of_pos_right _ hib) hroom
    have hrun := run_append_grow_src (P := P) w t t tr et i z hu hi hz p l.length l.length olds (by rw [his]; exact hl.first hl1 hl0 l.length) _ xs.length news hsrc (by omega) (by omega) (growslice_fits (by omega) hroom)
    have hcg := grownCap_ge w (l.length + xs.length) l.length et
    generalize hcp : grownCap w (l.length + xs.length) l.length et = cap at hrun hcg
    have hK : Keeps w w.drew (G.ok C) (G.ok C) := fun x v h1 h2 => ⟨h1, h2⟩
    have hcl : (olds ++ news).length = (l.length + xs.length) * e.sz := by rw [List.length_append, hl.len, hx.len, Nat.add_mul]
    have hsz : (((olds ++ news).toArray ++ Builtin.zeroCells z.cells (cap - (l.length + xs.length))).size) = cap * e.sz := by
      rw [Array.size_append, size_zeroCells, hzs]
      simp only [List.size_toArray]
      rw [hcl, ← Nat.add_mul]; congr 1; omega
    have hall := (hl.trans hK).append (hx.trans hK)
    have hcells : ∀ j v, (olds ++ news)[j]? = some v → ((olds ++ news).toArray ++ Builtin.zeroCells z.cells (cap - (l.length + xs.length)))[j]? = some v := fun j v hj => by
      have := (List.getElem?_eq_some_iff.1 hj).1
      rw [Array.getElem?_append_left (by simpa using this)]
      simpa using hj
    obtain ⟨G', h3, h4⟩ := Rel.new_arr (w := w.drew) (h.drawn (w.drawn + 1)) hid hnone (e := e) (l := l ++ xs) (dp := dp) (cells := (olds ++ news).toArray ++ Builtin.zeroCells z.cells (cap - (l.length + xs.length))) et
      (by rw [hsz, List.length_append]; exact Nat.mul_le_mul_right _ hcg)
      (fun q hq => by
        obtain ⟨cs, h1, h2⟩ := hall.el q hq
        exact ⟨cs, h1, fun j v hj => hcells _ _ (h2 j v hj)⟩)
      (fun hd => by
        obtain ⟨F1, F2, q1, q2, q3, q4⟩ := hdp hd
        obtain ⟨q5, q6⟩ := q1.drew.append hl.len q2.drew
        refine ⟨F1 ++ F2, q5, by rw [List.flatten_append, q3]; exact ⟨q4.nd, q4.new, q4.lt, q4.wr, q4.inn⟩, fun q hq => ?_⟩
        obtain ⟨cs, h1, h2⟩ := q6 q hq
        exact ⟨cs, h1, fun j v hj => hcells _ _ (h2 j v hj)⟩)
    have h5 := h4 cap (by rw [List.length_append]; exact hcg) (by rw [hsz]; exact Nat.le_refl _)
    rw [List.length_append] at h5
    exact ⟨G', _, _, hrun, h3, h5⟩
theorem app_run (hty : TyOk P ty) (h : Rel C G st a w) {d : Nat} (hd : d < st.n) {t tr : TypeId} {s x : Leaf} {vs vx : Value} (hs : RepLeaf w (G.ok C) G s vs) (hx : RepLeaf w (G.ok C) G x vx) {k' : St → Leaf → Option R}
    (e : appK ty st d t s x k' = some r) : ∃ G' st' l v w', (Builtin.append_ #[t, t] tr #[vs, vx]).run P w = .ok v w' ∧ Rel C G' st' a w' ∧ st'.n = st.n ∧ RepLeaf w' (G'.ok C) G' l v ∧ k' st' l = some r := by
  unfold appK at e
  split at e
  · rename_i et b1 b2 b3 b4 b5 hti
    obtain ⟨dd, hd2, _, _, hsl, _⟩ := (hty t _ hti).und
    have hu : P.underlying t = some (.slice et) := by rw [hd2, hsl et rfl]
    split at e
    · rename_i dd c1 c2 bytes c4 el hte
      obtain ⟨i, z, hi, hisz, hiby, hz, hzs, _, hkd⟩ := (hty et _ hte).info
      obtain ⟨hk1, hk2, hk3⟩ := hkd el rfl
      simp only at hk1 hisz hzs hiby hk2
      have his : i.size = el.sz := by rw [hisz, hk1]
      have hzs' : z.cells.size = el.sz := by rw [hzs, hk1]
      have hib : 0 < i.bytes := by rw [hiby]; exact hk2
      split at e
      · rename_i l xs dx st1 hcl hsr
        obtain ⟨G1, A, cx, news, g1, H, g2, g3, g4, g5, g6, g7, g8, g9⟩ := srcOf_rep h hx hsr
        subst g5
        have hid := hid_of hd h.n
        split at e
        · rename_i id
          split at e
          · rename_i rr hr
            cases hlow : Nat.blt id 64000
            · rw [hlow] at e; cases e
            rw [hlow] at e
            simp only [cond_true] at e
            have hlow' : id < 64000 := Nat.le_of_ble_eq_true hlow
            cases hrm : room (l ++ xs).length bytes
            · rw [hrm] at e; cases e
            · rw [hrm] at e
              simp only [cond_true] at e
              have hrm' := room_spec hrm
              obtain ⟨re, rl, rd⟩ := rr
              obtain ⟨ai, hA, ha⟩ := g1.mem.arrR id _ hr
              have hxe : re = el ∧ HEq rl l := by
                unfold St.cont at hcl
                simp only at hcl
                rw [g4 _ _ hr] at hcl
                simp only [Option.bind_some] at hcl
                split at hcl
                · rename_i he
                  subst he
                  exact ⟨rfl, heq_of_eq (Option.some.inj hcl)⟩
                · cases hcl
              obtain ⟨he, hxl⟩ := hxe
              subst he
              have hxl' := eq_of_heq hxl
              subst hxl'
              obtain ⟨ai0, p, c0, hAi, hv0, hc0, hp0⟩ := hs
              have := g2.A _ _ hA
              rw [hAi] at this; cases this
              have hn := ha.n
              simp only at hn
              have hl0 : (rl.drop 0).take ai.n = rl := by rw [List.drop_zero, List.take_of_length_le (by omega)]
              obtain ⟨G', v, w', q1, q2, q3⟩ := app_arr (tr := tr) (cx := cx) g1 hu hi hz his hib hzs' hlow' hr hA ha (off := 0) (len := ai.n) (p := p) hc0 (by omega) (fun h0 => by
                  obtain ⟨blk, base, m, u1, u2, u3⟩ := hp0 h0
                  exact ⟨blk, base, m, u1, by simpa using u2, by simpa using u3⟩) g6 g7 g8 g9 (by rw [hl0, hiby]; exact hrm') (dp := rd && dx) (fun hdt => by
                  simp only [Bool.and_eq_true] at hdt
                  exact ⟨hdt.1, .inl ⟨rfl, rfl⟩, .inl hdt.2⟩)
              rw [hl0] at q2
              subst hv0
              exact ⟨G', _, _, v, w', q1, q2, g3, q3, e⟩
          · cases e
        · rename_i id off len
          split at e
          · rename_i rr hr
            cases hlow : Nat.blt id 64000
            · rw [hlow] at e; cases e
            rw [hlow] at e
            simp only [cond_true] at e
            have hlow' : id < 64000 := Nat.le_of_ble_eq_true hlow
            cases hrm : room (l ++ xs).length bytes
            · rw [hrm] at e; cases e
            · rw [hrm] at e
              simp only [cond_true] at e
              have hrm' := room_spec hrm
              obtain ⟨re, rl, rd⟩ := rr
              obtain ⟨ai, hA, ha⟩ := g1.mem.arrR id _ hr
              have hxe : re = el ∧ HEq ((rl.drop off).take len) l := by
                unfold St.cont at hcl
                simp only at hcl
                rw [g4 _ _ hr] at hcl
                simp only [Option.bind_some] at hcl
                split at hcl
                · rename_i he
                  subst he
                  exact ⟨rfl, heq_of_eq (Option.some.inj hcl)⟩
                · cases hcl
              obtain ⟨he, hxl⟩ := hxe
              subst he
              have hxl' := eq_of_heq hxl
              subst hxl'
              obtain ⟨ai0, p, c0, hAi, hv0, hc0, ho0, hp0⟩ := hs
              have := g2.A _ _ hA
              rw [hAi] at this; cases this
              obtain ⟨G', v, w', q1, q2, q3⟩ := app_arr (tr := tr) (cx := cx) g1 hu hi hz his hib hzs' hlow' hr hA ha (off := off) (len := len) (p := p) hc0 ho0 hp0 g6 g7 g8 g9 (by rw [hiby]; exact hrm') (dp := rd && re.flat) (fun hdt => by
                  simp only [Bool.and_eq_true] at hdt
                  exact ⟨hdt.1, .inr hdt.2, .inr hdt.2⟩)
              subst hv0
              exact ⟨G', _, _, v, w', q1, q2, g3, q3, e⟩
          · cases e
        · split at e
          · cases e
          · rename_i hnone
            cases hrm : room xs.length bytes
            · rw [hrm] at e; cases e
            · rw [hrm] at e
              simp only [cond_true] at e
              have hrm' := room_spec hrm
              have hs' : vs = .slice none 0 0 := hs
              subst hs'
              obtain ⟨G', v, w', q1, q2, q3⟩ := app_new (tr := tr) (cx := cx) g1 hu hi hz his hib hzs' hid hnone (l := []) (p := none) Lies.nil (fun ad h => by cases h) (fun _ => rfl) g6 g7 g8 (dp := dx)
                (fun hdt => by obtain ⟨F2, u1, u2⟩ := g9 hdt; exact ⟨[], F2, ⟨rfl, fun i hi => by simp at hi⟩, u1, rfl, u2⟩) (by simpa [hiby] using hrm') (.inl rfl)
              exact ⟨G', _, _, v, w', q1, q2, g3, q3, e⟩
        · rename_i e' l'
          split at e
          · cases e
          · rename_i hnone
            cases hce : (l.isEmpty || !xs.isEmpty)
            · rw [hce] at e; cases e
            · rw [hce] at e
              simp only [cond_true] at e
              cases hrm : room (l ++ xs).length bytes
              · rw [hrm] at e; cases e
              · rw [hrm] at e
                simp only [cond_true] at e
                have hrm' := room_spec hrm
                have hxe : e' = el ∧ HEq l' l := by
                  unfold St.cont at hcl
                  simp only at hcl
                  split at hcl
                  · rename_i he
                    subst he
                    exact ⟨rfl, heq_of_eq (Option.some.inj hcl)⟩
                  · cases hcl
                obtain ⟨he, hxl⟩ := hxe
                subst he
                have hxl' := eq_of_heq hxl
                subst hxl'
                obtain ⟨hs1, hs2⟩ := hs
                obtain ⟨p, hvp⟩ := hs2.1 rfl
                subst hvp
                obtain ⟨A2, c2, hv2, hc2, hr2⟩ := hs1.trans H
                simp only [List.cons.injEq, and_true] at hv2
                injection hv2 with u1 u2 u3
                subst u1
                have hE : ElAt w (G1.ok C) e' l' p := fun q hq => by
                  obtain ⟨ad, v1, _, v2⟩ := hr2 q hq
                  exact ⟨ad, v1, v2⟩
                obtain ⟨olds, o1, o2⟩ := hE.cells
                have hp0 : p = none → l' = [] := fun h0 => by
                  cases hl : l' with
                  | nil => rfl
                  | cons y ys => obtain ⟨ad, h1, _⟩ := hE 0 (by rw [hl]; simp); rw [h0] at h1; cases h1
                obtain ⟨G', v, w', q1, q2, q3⟩ := app_new (tr := tr) (cx := cx) g1 hu hi hz his hib hzs' hid hnone (l := l') (p := p) o1 o2 hp0 g6 g7 g8 (dp := e'.flat || (l'.isEmpty && dx))
                  (fun hdt => by
                    by_cases hf : e'.flat = true
                    · exact ⟨_, _, o1.flat hf, g6.flat hf, flat_flatten _, by rw [flat_flatten]; exact Loose.nil _ _ _⟩
                    · have hdt' : l'.isEmpty = true ∧ dx = true := by simpa [hf] using hdt
                      obtain ⟨F2, x1, x2⟩ := g9 hdt'.2
                      have : l' = [] := List.isEmpty_iff.1 hdt'.1
                      subst this
                      exact ⟨[], F2, ⟨rfl, fun i hi => by simp at hi⟩, x1, rfl, x2⟩)
                  (by rw [hiby]; exact hrm') (by
                    simp only [Bool.or_eq_true] at hce
                    rcases hce with hce | hce
                    · exact .inl (List.isEmpty_iff.1 hce)
                    · exact .inr fun hc => by rw [hc] at hce; simp at hce)
                exact ⟨G', _, _, v, w', q1, q2, g3, q3, e⟩
        · cases e
      · cases e
    · cases e
  · cases e
theorem app_zeros (h : Rel C G st a w) {t tx et tr : TypeId} {kd : IntKind} {i : TypeInfo} {z : Value} (hu : P.underlying t = some (.slice et)) (hux : P.underlying tx = some (.int kd)) (hi : P.info? et = some i) (hz : i.zero = some z) {e : K} (his : i.size = e.sz) (hib : 0 < i.bytes) (hzs : z.cells.size = e.sz) (hzo : OwnT w.drew e e.zero z.cells.toList [])
    {id : Nat} (hid : id < 64000) (hnone : st.arr.get id = none) {n : Int} (h0 : 0 ≤ n) (hroom : n.toNat * i.bytes ≤ 140737488355328) :
    ∃ G' v w', (Builtin.append_ #[t, tx] tr #[.slice none 0 0, .int .i64 n]).run P w = .ok v w' ∧ Rel C G' (st.newArr id ⟨e, List.replicate n.toNat e.zero, true⟩) a w' ∧ RepLeaf w' (G'.ok C) G' (.own id) v := by
  have hnoneA : G.A id = none := by
    cases hq : G.A id with
    | none => rfl
    | some ai => obtain ⟨r, h1⟩ := h.mem.adom id ai hq; rw [hnone] at h1; cases h1
  have hnn : ((n.toNat : Nat) : Int) = n := Int.toNat_of_nonneg h0
  generalize n.toNat = m at hnn hroom
  subst hnn
  by_cases hm : m = 0
  · subst hm
    have hrun : (Builtin.append_ #[t, tx] tr #[.slice none 0 0, .int .i64 ((0 : Nat) : Int)]).run P w = .ok (.slice none 0 0) w := by
      have hw : IntKind.wrap .i64 (0 : Int) = 0 := by decide
      simp [Builtin.append_, run_underlying hu, run_underlying hux, sizeOf, typeInfo, hi, asInt, asIntOf, hw]
    have h3 := (h.set_arr (w' := w) (by omega) (a' := ⟨e, [], true⟩) (ai' := ⟨e.sz, 0, none⟩) (F' := []) (fun ai hai => by rw [hnoneA] at hai; cases hai) (.inl hid) (Nat.le_refl _) (fun x v _ hc => ⟨hc, rfl⟩) (fun _ _ _ hl => by cases hl)
        (fun H => ⟨rfl, rfl, fun _ => rfl, fun _ _ _ hl => (by cases hl), fun _ _ _ hl => (by cases hl), fun _ _ _ hl => (by cases hl), fun _ _ _ hl => (by cases hl), fun _ _ _ hl => (by cases hl)⟩)
        (fun _ => ⟨fun _ _ _ hl => (by cases hl), rfl, fun _ _ _ hl => (by cases hl)⟩) (by simp) (fun b hb => by simp at hb) h.fr).1
    exact ⟨_, _, _, hrun, h3, ⟨e.sz, 0, none⟩, none, 0, Gh.setA_same .., rfl, Nat.le_refl _, fun h0 => by omega⟩
  · have hm0 : 0 < m := by omega
    have hmx : m ≤ 140737488355328 := Nat.le_trans (Nat.le_mul_of_pos_right _ hib) hroom
    have hez : 0 < z.cells.size := by rw [hzs]; exact e.sz_pos
    have hrun := run_append_zeros (P := P) w t tx tr et i z hu hux hi hz m hm0 (by rw [his]; exact e.sz_pos) (by omega) hroom (growslice_fits hm0 hroom)
    have hcg := grownCap_ge w m 0 et
    generalize hcp : grownCap w m 0 et = cap at hrun hcg
    have hsz : (Builtin.zeroCells z.cells m ++ Builtin.zeroCells z.cells (cap - m)).size = cap * e.sz := by
      rw [Array.size_append, size_zeroCells, size_zeroCells, hzs, ← Nat.add_mul]; congr 1; omega
    have hzl : z.cells.toList.length = e.sz := by simp [hzs]
    have hcells : ∀ q, q < m → ∀ j v, z.cells.toList[j]? = some v → (Builtin.zeroCells z.cells m ++ Builtin.zeroCells z.cells (cap - m))[q * e.sz + j]? = some v := fun q hq j v hj => by
      have hjl : j < e.sz := by rw [← hzl]; exact (List.getElem?_eq_some_iff.1 hj).1
      have hlt : q * e.sz + j < m * e.sz := by
        have : (q + 1) * e.sz ≤ m * e.sz := Nat.mul_le_mul_right _ (by omega)
        rw [Nat.add_mul] at this; omega
      rw [Array.getElem?_append_left (by rw [size_zeroCells, hzs]; exact hlt), getElem?_zeroCells _ _ _ (by rw [hzs]; exact hlt) hez, hzs, Nat.mul_comm q, Nat.mul_add_mod, Nat.mod_eq_of_lt hjl]
      simpa using hj
    have hrep : ∀ q, q < m → (List.replicate m e.zero).getD q e.zero = e.zero := fun q hq => by rw [List.getD_eq_getElem?_getD]; simp [hq]
    obtain ⟨G', h2, h3⟩ := Rel.new_arr (w := w.drew) (h.drawn (w.drawn + 1)) hid hnone (e := e) (l := List.replicate m e.zero) (dp := true) (cells := Builtin.zeroCells z.cells m ++ Builtin.zeroCells z.cells (cap - m)) et
      (by rw [hsz, List.length_replicate]; exact Nat.mul_le_mul_right _ hcg)
      (fun q hq => ⟨z.cells.toList, by rw [hrep q (by simpa using hq)]; exact hzo.rep (by simp), hcells q (by simpa using hq)⟩)
      (fun _ => ⟨List.replicate m [], by simp, by simp [Loose.nil], fun q hq => ⟨z.cells.toList, by
        have hq' : q < m := by simpa using hq
        rw [hrep q hq']
        have : (List.replicate m ([] : List Nat)).getD q [] = [] := by rw [List.getD_eq_getElem?_getD]; simp [hq']
        rw [this]; exact hzo, hcells q (by simpa using hq)⟩⟩)
    have h4 := h3 cap (by rw [List.length_replicate]; exact hcg) (by rw [hsz]; exact Nat.le_refl _)
    rw [List.length_replicate] at h4
    exact ⟨G', _, _, hrun, by simpa using h2, h4⟩
theorem ok_appendZ (hty : TyOk P ty) {c : Call} (hop : o.op = .call c) (hc : c.callee = .builtin .append) (h : Rel C G st a w) (hd : o.dst.getD 0 < st.n) (hT : Then C a o.dst st.n k r next)
    {s x : Leaf} {t t' : TypeId} (h1 : c.args.toList.map st.ev = [.lf s, .lf x]) (h2 : c.argTypes.toList = [t, t'])
    (e : appZK ty st (o.dst.getD 0) t t' s x (fun st l => k st (.lf l)) = some r) : o.wp P a w next Q := by
  obtain ⟨y1, y2, hys⟩ : ∃ y1 y2, c.args.toList = [y1, y2] := by
    cases hl : c.args.toList with
    | nil => rw [hl] at h1; simp at h1
    | cons y1 ys => cases ys with
      | nil => rw [hl] at h1; simp at h1
      | cons y2 ys => cases ys with
        | nil => exact ⟨y1, y2, rfl⟩
        | cons y3 ys => rw [hl] at h1; simp at h1
  rw [hys] at h1
  simp only [List.map_cons, List.map_nil, List.cons.injEq, and_true] at h1
  have hs := h.ev y1
  have hx := h.ev y2
  rw [h1.1] at hs
  rw [h1.2] at hx
  unfold appZK at e
  split at e
  · rename_i et _ _ _ _ _ hti
    obtain ⟨d, hd2, _, _, hsl, _⟩ := (hty t _ hti).und
    have hu : P.underlying t = some (.slice et) := by rw [hd2, hsl et rfl]
    split at e
    · rename_i _ _ _ bytes _ el hte
      obtain ⟨i, z, hi, hisz, hiby, hz, hzs, _, hkd⟩ := (hty et _ hte).info
      obtain ⟨hk1, hk2, hk3⟩ := hkd el rfl
      simp only at hk1 hk2 hisz hiby hzs
      split at e
      · rename_i _ _ _ _ _ kd htt
        obtain ⟨d2, hd3, _, _, _, hk, _⟩ := (hty t' _ htt).und
        have hux : P.underlying t' = some (.int kd) := by rw [hd3, hk kd rfl]
        split at e
        · rename_i n
          split at e
          · cases e
          · rename_i hnone
            cases hc0 : decide (0 ≤ n)
            · rw [hc0] at e; cases e
            · rw [hc0] at e
              simp only [cond_true] at e
              cases hrm : room n.toNat bytes
              · rw [hrm] at e; cases e
              · rw [hrm] at e
                simp only [cond_true] at e
                have hv1 : a.eval y1 = .slice none 0 0 := hs
                have hv2 : a.eval y2 = .int .i64 n := hx
                obtain ⟨G', v, w', q1, q2, q3⟩ := app_zeros (tr := o.type) h hu hux hi hz (e := el) (by rw [hisz, hk1]) (by rw [hiby]; exact hk2) (by rw [hzs, hk1]) (zeroIs_own hk3) (id := o.dst.getD 0 * 4) (hid_of hd h.n) hnone (of_decide_eq_true hc0) (by rw [hiby]; exact room_spec hrm)
                refine wp_value (v := v) (w' := w') (run_callBuiltin hc hop ?_) (hT G' _ (.lf (.own (o.dst.getD 0 * 4))) _ w' q2 rfl q3 e)
                have ha : c.args.map a.eval = #[a.eval y1, a.eval y2] := by apply Array.ext'; simp [hys]
                have hat : c.argTypes = #[t, t'] := by apply Array.ext'; simpa using h2
                rw [ha, hat, hv1, hv2]
                simp only [builtin]
                exact run_v (α := Value) q1
        · cases e
      · cases e
    · cases e
  · cases e
theorem ok_append (hty : TyOk P ty) {c : Call} (hop : o.op = .call c) (hc : c.callee = .builtin .append) (h : Rel C G st a w) (hd : o.dst.getD 0 < st.n) (hT : Then C a o.dst st.n k r next)
    (e : (match c.args.toList.map st.ev, c.argTypes.toList with
    | [.lf s, .lf x], [t, t'] => bif t == t' then appK ty st (o.dst.getD 0) t s x fun st l => k st (.lf l) else appZK ty st (o.dst.getD 0) t t' s x fun st l => k st (.lf l)
    | _, _ => none) = some r) : o.wp P a w next Q := by
  split at e
  · rename_i s x t t' h1 h2
    cases htt : (t == t')
    · rw [htt] at e; exact ok_appendZ hty hop hc h hd hT h1 h2 e
    · rw [htt] at e
      have htt' : t = t' := by simpa using htt
      subst htt'
      simp only [cond_true] at e
      obtain ⟨y1, y2, hys⟩ : ∃ y1 y2, c.args.toList = [y1, y2] := by
        cases hl : c.args.toList with
        | nil => rw [hl] at h1; simp at h1
        | cons y1 ys => cases ys with
          | nil => rw [hl] at h1; simp at h1
          | cons y2 ys => cases ys with
            | nil => exact ⟨y1, y2, rfl⟩
            | cons y3 ys => rw [hl] at h1; simp at h1
      rw [hys] at h1
      simp only [List.map_cons, List.map_nil, List.cons.injEq, and_true] at h1
      have hs := h.ev y1
      have hx := h.ev y2
      rw [h1.1] at hs
      rw [h1.2] at hx
      obtain ⟨G', st', l, v, w', q1, q2, q3, q4, q5⟩ := app_run (tr := o.type) hty h hd (show RepLeaf w (G.ok C) G s (a.eval y1) from hs) (show RepLeaf w (G.ok C) G x (a.eval y2) from hx) e
      refine wp_value (v := v) (w' := w') (run_callBuiltin hc hop ?_) (hT G' st' (.lf l) _ w' q2 q3 q4 q5)
      have ha : c.args.map a.eval = #[a.eval y1, a.eval y2] := by apply Array.ext'; simp [hys]
      have hat : c.argTypes = #[t, t] := by apply Array.ext'; simpa using h2
      rw [ha, hat]
      simp only [builtin]
      exact run_v (α := Value) q1
  · cases e
theorem trunc_arr (h : Rel C G st a w) {id : Nat} (hid : id < 64000) {e : K} {al : List e.T} {adp : Bool} (hr : st.arr.get id = some ⟨e, al, adp⟩) {off len : Nat} {v : Value} (hv : RepLeaf w (G.ok C) G (.sub id off len) v) :
    ∃ G', Rel C G' (st.renew id ⟨e, (al.drop off).take len, adp && e.flat⟩) a w ∧ RepLeaf w (G'.ok C) G' (.own id) v ∧ G'.B = G.B := by
  obtain ⟨ai, p, c, hA, rfl, hc, hoff, hp⟩ := hv
  obtain ⟨ai', hA', ha⟩ := h.mem.arrR id _ hr
  rw [hA] at hA'; cases hA'
  have hn := ha.n
  have hs := ha.sz
  simp only at hn hs
  have hll : ((al.drop off).take len).length = len := by simp; omega
  have hE : ElAt w (G.ok C) e ((al.drop off).take len) p := arr_elAt ha hoff hc (Keeps.refl w _) fun h0 => by obtain ⟨blk, base, m, q1, q2, _⟩ := hp h0; exact ⟨blk, base, m, q1, q2⟩
  obtain ⟨olds, ho1, ho2⟩ := hE.cells
  have hx : Lies w (G.ok C) e [] [] := Lies.nil
  have hdeep : ∃ F0 F2, Deep C G w id e ((al.drop off).take len) [] olds [] (adp && e.flat) F0 F2 ∧ ((adp && e.flat) = true → ∀ blk base m, ai.loc = some (blk, base, m) → C.all blk) := by
    cases hd : (adp && e.flat) with
    | false => exact ⟨[], [], ⟨fun h => (by cases h), fun h => (by cases h), by simp, fun b hb => by simp at hb, Loose.nil _ _ _⟩, fun h => (by cases h)⟩
    | true =>
      simp only [Bool.and_eq_true] at hd
      have how := h.mem.own id _ ai hr hA hd.1
      exact ⟨_, _, ⟨fun _ => ho1.flat hd.2, fun _ => hx.flat hd.2, by rw [flat_flatten]; simp, fun b hb => by rw [flat_flatten] at hb; simp at hb, by rw [flat_flatten]; exact Loose.nil _ _ _⟩, fun _ => how.new⟩
  obtain ⟨F0, F2, hD, hnew⟩ := hdeep
  cases hloc : ai.loc with
  | none =>
    have hn0 := ha.nil hloc
    have hl0 : len = 0 := by omega
    subst hl0
    have hc0 : ¬ 0 < c := fun h0 => by obtain ⟨blk, base, m, q1, _⟩ := hp h0; rw [hloc] at q1; cases q1
    refine ⟨G.setA id (some ⟨e.sz, 0, none⟩) [], by simpa using renew_none (dp := adp && e.flat) h hid hA hloc, ?_, rfl⟩
    exact ⟨_, p, c, Gh.setA_same .., rfl, hc, fun h0 => absurd h0 hc0⟩
  | some x =>
    obtain ⟨blk, base, m⟩ := x
    have hle := ha.le blk base m hloc
    have : (off + len) * e.sz ≤ ai.n * ai.sz := by rw [hs]; exact Nat.mul_le_mul_right _ hoff
    by_cases hc0 : c = 0
    · have hl0 : len = 0 := by omega
      subst hl0
      have h3 := renew_in h hid hA ha hloc hoff hx (by simp only [List.length_nil]; omega) (olds := olds) (fun j u hj => by
        have : olds.length = 0 := by simpa using ho1.len
        have := (List.getElem?_eq_some_iff.1 hj).1
        omega) (fun hd => hnew hd _ _ _ hloc) hD
      rw [List.append_nil] at h3
      refine ⟨_, h3, ?_, rfl⟩
      exact ⟨_, p, c, Gh.setA_same .., rfl, hc, fun h0 => by omega⟩
    · obtain ⟨blk', base', m', q1, q2, q3⟩ := hp (by omega)
      rw [hloc] at q1; cases q1
      have h3 := renew_in h hid hA ha hloc hoff hx (by simp only [List.length_nil]; omega) (olds := olds) (fun j u hj => by
        have := ho2 _ q2 j u hj
        rwa [Addr.add_mid, hs] at this) (fun hd => hnew hd _ _ _ hloc) hD
      rw [List.append_nil] at h3
      refine ⟨_, h3, ?_, rfl⟩
      refine ⟨_, p, c, Gh.setA_same .., rfl, hc, fun h0 => ⟨blk, base + off * e.sz, m - off * e.sz, rfl, by rw [q2, hs], ?_⟩⟩
      rw [hs, Nat.add_mul] at q3
      simp only; omega
theorem run_copy_gen {P : Program} (w w' : World) (dT sT ty elem : TypeId) (i : TypeInfo) (hu : P.underlying dT = some (.slice elem)) (hi : P.info? elem = some i) (p A : Option Addr) (dLen dCap sLen sCap : Nat) (cs : List Value)
    (hfirst : (Builtin.firstCells i.size (Nat.min sLen dLen) (.slice A sLen sCap)).run P w = .ok cs.toArray w) (hst : ∀ ad, p = some ad → (storeCells ad cs).run P w = .ok () w') (hnone : p = none → w' = w) :
    (Builtin.copy_ #[dT, sT] ty #[.slice p dLen dCap, .slice A sLen sCap]).run P w = .ok (goInt (Nat.min sLen dLen)) w' := by
  cases p with
  | none =>
    rw [hnone rfl]
    simp [Builtin.copy_, run_underlying hu, Builtin.lenOf, sizeOf, typeInfo, hi, hfirst]
  | some ad =>
    have hst := hst ad rfl
    simp [Builtin.copy_, run_underlying hu, Builtin.lenOf, sizeOf, typeInfo, hi, hfirst, hst]
theorem getD_splice {α : Type} (l vs : List α) (off q : Nat) (d : α) (hle : off + vs.length ≤ l.length) : (splice l off vs).getD q d = if off ≤ q ∧ q < off + vs.length then vs.getD (q - off) d else l.getD q d := by
  simp only [splice, List.getD_eq_getElem?_getD]
  by_cases q1 : q < off
  · rw [List.getElem?_append_left (by simp; omega), List.getElem?_take, if_pos q1, if_neg (by omega)]
  · rw [List.getElem?_append_right (by simp; omega), List.length_take, Nat.min_eq_left (by omega)]
    by_cases q2 : q < off + vs.length
    · rw [List.getElem?_append_left (by omega), if_pos (by omega)]
    · rw [List.getElem?_append_right (by omega), List.getElem?_drop, if_neg (by omega), show off + vs.length + (q - off - vs.length) = q by omega]
theorem copy_run {t t' tr et : TypeId} (h : Rel C G st a w) {i : TypeInfo} (hu : P.underlying t = some (.slice et)) (hi : P.info? et = some i) {id off len : Nat} {e : K} {al : List e.T} {adp : Bool} (hr : st.arr.get id = some ⟨e, al, adp⟩) (hf : e.flat = true) (his : i.size = e.sz)
    {v vx : Value} (hv : RepLeaf w (G.ok C) G (.sub id off len) v) {x : Leaf} (hx : RepLeaf w (G.ok C) G x vx) {xs : List e.T} (hxs : st.cont e x = some xs) :
    ∃ G' w', (Builtin.copy_ #[t, t'] tr #[v, vx]).run P w = .ok (goInt (Nat.min xs.length len)) w' ∧ Rel C G' (st.newArr id ⟨e, splice al off (xs.take len), adp⟩) a w' := by
  obtain ⟨ai, p, c, hA, rfl, hc, hoff, hp⟩ := hv
  obtain ⟨ai', hA', ha⟩ := h.mem.arrR id _ hr
  rw [hA] at hA'; cases hA'
  have hn := ha.n
  have hs := ha.sz
  simp only at hn hs
  obtain ⟨A, cx, rfl, hcx, hE⟩ := cont_rep h hx hxs
  obtain ⟨news, o1, o2⟩ := hE.cells
  have hA0 : A = none → xs = [] := fun h0 => by
    cases hl : xs with
    | nil => rfl
    | cons y ys => obtain ⟨ad, h1, _⟩ := hE 0 (by rw [hl]; simp); rw [h0] at h1; cases h1
  generalize hnn : Nat.min xs.length len = n
  have hnx : n ≤ xs.length := by rw [← hnn]; exact Nat.min_le_left ..
  have hnl : n ≤ len := by rw [← hnn]; exact Nat.min_le_right ..
  have htk : (xs.take len).length = n := by rw [← hnn, List.length_take, Nat.min_comm]
  have hmul : n * e.sz ≤ xs.length * e.sz := Nat.mul_le_mul_right _ hnx
  have hcs : (news.take (n * e.sz)).length = n * e.sz := by rw [List.length_take, o1.len]; omega
  have hcs1 : ∀ u ∈ news.take (n * e.sz), u.oneCell' = true := fun u hu => o1.one u (List.take_subset _ _ hu)
  have hcsget : ∀ j u, (news.take (n * e.sz))[j]? = some u → news[j]? = some u := fun j u hj => by
    rw [List.getElem?_take] at hj
    split at hj
    · exact hj
    · cases hj
  generalize hcsd : news.take (n * e.sz) = cs at *
  have hfirst : (Builtin.firstCells i.size (Nat.min xs.length len) (.slice A xs.length cx)).run P w = .ok cs.toArray w := by
    rw [hnn]
    cases A with
    | none =>
      have := hA0 rfl
      subst this
      have : cs = [] := List.eq_nil_of_length_eq_zero (by rw [hcs]; simp at hnx; simp [hnx])
      subst this
      exact run_firstCells_none ..
    | some ad => exact run_firstCells_some w i.size n ad xs.length cx cs (by rw [his]; exact hcs) (fun j u hj => o2 ad rfl j u (hcsget j u hj))
  have hnew : ∀ q, q < n → ∃ cq, RepT w (G.ok C) e (xs.getD q e.zero) cq ∧ ∀ j u, cq[j]? = some u → cs[q * e.sz + j]? = some u := fun q hq => by
    obtain ⟨cq, q1, q2⟩ := o1.el q (by omega)
    refine ⟨cq, q1, fun j u hj => ?_⟩
    have hjl : j < e.sz := by rw [← q1.length]; exact (List.getElem?_eq_some_iff.1 hj).1
    have : (q + 1) * e.sz ≤ n * e.sz := Nat.mul_le_mul_right _ (by omega)
    rw [Nat.add_mul] at this
    rw [← hcsd, List.getElem?_take, if_pos (by omega)]
    exact q2 j u hj
  have htget : ∀ q, q < n → (xs.take len).getD q e.zero = xs.getD q e.zero := fun q hq => by
    rw [List.getD_eq_getElem?_getD, List.getD_eq_getElem?_getD, List.getElem?_take, if_pos (by omega)]
  have hsplen : (splice al off (xs.take len)).length = al.length := by simp only [splice, List.length_append, List.length_take, List.length_drop]; omega
  have hspget : ∀ q, (splice al off (xs.take len)).getD q e.zero = if off ≤ q ∧ q < off + n then xs.getD (q - off) e.zero else al.getD q e.zero := fun q => by
    rw [getD_splice _ _ _ _ _ (by rw [htk]; omega), htk]
    split
    · rename_i hq; rw [htget _ (by omega)]
    · rfl
  have hFF : ∀ {G' : Gh}, ∀ b ∈ (List.replicate al.length ([] : List Nat)).flatten, C.all b ∧ b < w.heap.size ∧ ¬ G'.wr b ∧ ∀ id', id' ≠ id → b ∉ G.inner id' := fun b hb => by rw [flat_flatten] at hb; simp at hb
  cases hloc : ai.loc with
  | none =>
    have hn0 := ha.nil hloc
    have hn00 : n = 0 := by omega
    have hcs0 : cs = [] := List.eq_nil_of_length_eq_zero (by rw [hcs, hn00]; simp)
    have hrun := run_copy_gen (P := P) w w t t' tr et i hu hi p A len c xs.length cx cs hfirst (fun ad _ => by rw [hcs0]; rfl) (fun _ => rfl)
    rw [hnn] at hrun
    refine ⟨_, _, hrun, (h.set_arr (w' := w) (h.mem.ia id _ hA) (ai' := ai) (a' := ⟨e, splice al off (xs.take len), adp⟩) (F' := List.replicate al.length []) (fun aj haj => by rw [hA] at haj; cases haj; rfl) (.inr hA) (Nat.le_refl _)
      (fun x v _ hc => ⟨hc, rfl⟩) (fun _ _ _ hl => by rw [hloc] at hl; cases hl)
      (fun H => ⟨hs, by simp only [hsplen]; exact hn, fun _ => hn0, fun _ _ _ hl => (by rw [hloc] at hl; cases hl), fun _ _ _ hl => (by rw [hloc] at hl; cases hl), fun _ _ _ hl => (by rw [hloc] at hl; cases hl), fun _ _ _ hl => (by rw [hloc] at hl; cases hl), fun _ _ _ hl => (by rw [hloc] at hl; cases hl)⟩)
      (fun _ => ⟨fun _ _ _ hl => (by rw [hloc] at hl; cases hl), by simp [hsplen], fun _ _ _ hl => (by rw [hloc] at hl; cases hl)⟩) (by rw [flat_flatten]; simp) (fun b hb => by rw [flat_flatten] at hb; simp at hb) h.fr).1⟩
  | some lo =>
    obtain ⟨blk, base, m⟩ := lo
    have hle := ha.le blk base m hloc
    have hthere := ha.there blk base m hloc
    have hm1 : (off + n) * e.sz ≤ ai.n * ai.sz := by rw [hs]; exact Nat.mul_le_mul_right _ (by omega)
    rw [Nat.add_mul] at hm1
    have hst : ∀ ad, p = some ad → (storeCells ad cs).run P w = .ok () (w.setCells blk (base + off * e.sz) cs) := fun ad had => by
      by_cases h0 : cs = []
      · rw [h0]; rfl
      · have hcl : 0 < cs.length := List.length_pos_iff.2 h0
        have hn0 : 0 < n := by
          rcases Nat.eq_zero_or_pos n with hz | hz
          · rw [hcs, hz] at hcl; simp at hcl
          · exact hz
        obtain ⟨blk', base', m', q1, q2, _⟩ := hp (by omega)
        rw [hloc] at q1; cases q1
        rw [q2] at had
        cases had
        rw [hs]
        have := run_storeCells_cells (P := P) blk (base + off * e.sz) cs 0 w (fun j hj => by
            obtain ⟨v, u1, _⟩ := hthere (off * e.sz + j) (by omega)
            rw [show base + off * e.sz + 0 + j = base + (off * e.sz + j) by omega, u1]; rfl)
          (fun j hj => by
            obtain ⟨v, _, u2⟩ := hthere (off * e.sz + j) (by omega)
            rw [show base + off * e.sz + 0 + j = base + (off * e.sz + j) by omega]; exact u2) hcs1
        simpa using this
    have hnone : p = none → w.setCells blk (base + off * e.sz) cs = w := fun h0 => by
      have : cs = [] := by
        apply List.eq_nil_of_length_eq_zero
        rw [hcs]
        rcases Nat.eq_zero_or_pos n with hz | hz
        · rw [hz]; simp
        · obtain ⟨_, _, _, _, q2, _⟩ := hp (by omega)
          rw [h0] at q2; cases q2
      rw [this]; rfl
    have hrun := run_copy_gen (P := P) w (w.setCells blk (base + off * e.sz) cs) t t' tr et i hu hi p A len c xs.length cx cs hfirst hst hnone
    rw [hnn] at hrun
    have hout : ∀ x : Addr, x.block ≠ blk → (w.setCells blk (base + off * e.sz) cs).cell? x = w.cell? x := fun x hx => World.cell?_setCells_out _ _ _ _ _ fun hc _ => absurd hc hx
    have hel : ∀ {w2 : World} {ok2 : Nat → Prop}, Keeps w w2 (G.ok C) ok2 → (∀ x : Addr, w2.cell? x = (w.setCells blk (base + off * e.sz) cs).cell? x) → ∀ q, q < ai.n → ∃ cq, RepT w2 ok2 e ((splice al off (xs.take len)).getD q e.zero) cq ∧ ∀ j u, cq[j]? = some u → w2.cell? ⟨blk, base + (q * ai.sz + j), none⟩ = some u := fun H hw2 q hq => by
      rw [hspget]
      by_cases hin : off ≤ q ∧ q < off + n
      · rw [if_pos hin]
        obtain ⟨cq, q1, q2⟩ := hnew (q - off) (by omega)
        refine ⟨cq, q1.trans H, fun j u hj => ?_⟩
        have h3 := q2 j u hj
        have hlt := (List.getElem?_eq_some_iff.1 h3).1
        have h4 := World.cell?_setCells_in blk cs (base + off * e.sz) w (fun k hk => by
          obtain ⟨v, u1, _⟩ := hthere (off * e.sz + k) (by omega)
          rw [show base + off * e.sz + k = base + (off * e.sz + k) by omega, u1]; rfl) ((q - off) * e.sz + j) hlt
        have h5 : off * e.sz + ((q - off) * e.sz + j) = q * e.sz + j := by rw [← Nat.add_assoc, ← Nat.add_mul, show off + (q - off) = q by omega]
        rw [show base + off * e.sz + ((q - off) * e.sz + j) = base + (q * e.sz + j) by omega] at h4
        rw [hw2, hs, h4, ← h3, List.getElem?_eq_getElem hlt]
      · rw [if_neg hin]
        obtain ⟨cq, q1, q2⟩ := ha.el blk base m hloc q hq
        refine ⟨cq, q1.trans H, fun j u hj => ?_⟩
        have hjl : j < e.sz := by rw [← q1.length]; exact (List.getElem?_eq_some_iff.1 hj).1
        rw [hw2, World.cell?_setCells_out _ _ _ _ _ fun _ _ => ?_]
        · exact q2 j u hj
        · rw [hs]
          show base + (q * e.sz + j) < _ ∨ _ ≤ base + (q * e.sz + j)
          by_cases hlt : q < off
          · left
            have : (q + 1) * e.sz ≤ off * e.sz := Nat.mul_le_mul_right _ (by omega)
            rw [Nat.add_mul] at this
            omega
          · right
            have : (off + n) * e.sz ≤ q * e.sz := Nat.mul_le_mul_right _ (by omega)
            rw [Nat.add_mul] at this
            rw [hcs]; omega
    refine ⟨_, _, hrun, (h.set_arr (w' := w.setCells blk (base + off * e.sz) cs) (h.mem.ia id _ hA) (ai' := ai) (a' := ⟨e, splice al off (xs.take len), adp⟩) (F' := List.replicate al.length []) (fun aj haj => by rw [hA] at haj; cases haj; rfl) (.inr hA) (by rw [size_setCells]; exact Nat.le_refl _)
      (fun x v hx hc => ⟨by rw [hout x (hx ai blk base m hA hloc)]; exact hc, World.frozen?_setCells ..⟩) (fun blk' base' m' hl => .inr ⟨ai, base', m', hA, hl⟩)
      (fun H => ⟨hs, by simp only [hsplen]; exact hn, ha.nil, ha.may, ha.wr, ha.le, fun blk' base' m' hl j hj => ?_, fun blk' base' m' hl q hq => ?_⟩)
      (fun hd => ⟨(h.mem.own id _ ai hr hA hd).new, by simp [hsplen], fun blk' base' m' hl q hq => ?_⟩) (by rw [flat_flatten]; simp) (fun b hb => by rw [flat_flatten] at hb; simp at hb)
      (h.fr.setCells cs _ fun j hj => by
        have := ha.wr blk base m hloc (off * e.sz + j) (by omega)
        rwa [show base + (off * e.sz + j) = base + off * e.sz + j by omega] at this)).1⟩
    · rw [hloc] at hl; cases hl
      obtain ⟨v, q1, q2⟩ := hthere j hj
      have := World.isSome_setCells blk cs (base + off * e.sz) w ⟨blk, base + j, none⟩ (by rw [q1]; rfl)
      obtain ⟨u, hu⟩ := Option.isSome_iff_exists.1 this
      exact ⟨u, hu, by rw [World.frozen?_setCells]; exact q2⟩
    · rw [hloc] at hl; cases hl
      exact hel H (fun _ => rfl) q hq
    · rw [hloc] at hl; cases hl
      have hq' : q < al.length := by omega
      obtain ⟨cq, q1, q2⟩ := hel (w2 := w.setCells blk (base + off * e.sz) cs) (ok2 := fun _ => True) (fun x v hb hc => ⟨trivial, by
        rw [hout x fun hbl => hb.2 (hbl ▸ Gh.wr_of_A hA hloc)]; exact hc⟩) (fun _ => rfl) q hq
      have : (List.replicate al.length ([] : List Nat)).getD q [] = [] := by rw [List.getD_eq_getElem?_getD]; simp [hq']
      rw [this]
      exact ⟨cq, q1.own hf, q2⟩
theorem own_sub {id : Nat} {ok : Nat → Prop} {e : K} {al : List e.T} {adp : Bool} (h : Rel C G st a w) (hr : st.arr.get id = some ⟨e, al, adp⟩) {v : Value} (hv : RepLeaf w ok G (.own id) v) : RepLeaf w ok G (.sub id 0 al.length) v := by
  obtain ⟨ai, p, c, hA, rfl, hc, hp⟩ := hv
  obtain ⟨ai', hA', ha⟩ := h.mem.arrR id _ hr
  rw [hA] at hA'; cases hA'
  have hn := ha.n
  simp only at hn
  exact ⟨ai, p, c, hA, by rw [hn], by omega, by omega, fun h0 => by obtain ⟨blk, base, m, q1, q2, q3⟩ := hp h0; exact ⟨blk, base, m, q1, by simpa using q2, by simpa using q3⟩⟩
theorem ok_copy (hty : TyOk P ty) {c : Call} (hop : o.op = .call c) (hc : c.callee = .builtin .copy) (h : Rel C G st a w) (hT : Then C a o.dst st.n k r next)
    (e : (match c.args.toList.map st.ev, c.argTypes.toList with
    | [.lf s, .lf x], [t, _] => copyK ty st t s x fun st l => k st (.lf l)
    | _, _ => none) = some r) : o.wp P a w next Q := by
  split at e
  · rename_i s x t t' h1 h2
    obtain ⟨y1, y2, hys⟩ : ∃ y1 y2, c.args.toList = [y1, y2] := by
      cases hl : c.args.toList with
      | nil => rw [hl] at h1; simp at h1
      | cons y1 ys => cases ys with
        | nil => rw [hl] at h1; simp at h1
        | cons y2 ys => cases ys with
          | nil => exact ⟨y1, y2, rfl⟩
          | cons y3 ys => rw [hl] at h1; simp at h1
    rw [hys] at h1
    simp only [List.map_cons, List.map_nil, List.cons.injEq, and_true] at h1
    have hs : RepLeaf w (G.ok C) G s (a.eval y1) := by have := h.ev y1; rw [h1.1] at this; exact this
    have hx : RepLeaf w (G.ok C) G x (a.eval y2) := by have := h.ev y2; rw [h1.2] at this; exact this
    have hfin : ∀ {id off len : Nat} {el : K} {al : List el.T} {adp : Bool} {xs : List el.T} {kd : K}, st.arr.get id = some ⟨el, al, adp⟩ → el.flat = true → elemSz ty t = some el.sz → RepLeaf w (G.ok C) G (.sub id off len) (a.eval y1) → st.cont el x = some xs →
        k (st.newArr id ⟨el, splice al off (xs.take len), adp⟩) (.lf (.int .i64 (Nat.min xs.length len : Nat))) = some r → o.wp P a w next Q := by
      intro id off len el al adp xs _ hr hf hsz hsv hxs e
      unfold elemSz at hsz
      split at hsz
      · rename_i et _ _ _ _ _ hti
        obtain ⟨d, hd2, _, _, hsl, _⟩ := (hty t _ hti).und
        have hu : P.underlying t = some (.slice et) := by rw [hd2, hsl et rfl]
        split at hsz
        · rename_i ti hte
          obtain ⟨i, z, hi, hisz, _⟩ := (hty et _ hte).info
          obtain ⟨G', w', q1, q2⟩ := copy_run (tr := o.type) (t' := t') h hu hi hr hf (by rw [hisz]; exact Option.some.inj hsz) hsv hx hxs
          refine wp_value (v := goInt (Nat.min xs.length len)) (w' := w') (run_callBuiltin hc hop ?_) (hT G' _ (.lf (.int .i64 (Nat.min xs.length len : Nat))) _ w' q2 rfl rfl e)
          have ha : c.args.map a.eval = #[a.eval y1, a.eval y2] := by apply Array.ext'; simp [hys]
          have hat : c.argTypes = #[t, t'] := by apply Array.ext'; simpa using h2
          rw [ha, hat]
          simp only [builtin]
          exact run_v (α := Value) q1
        · cases hsz
      · cases hsz
    unfold copyK at e
    split at e
    · rename_i id
      split at e
      · rename_i rr hr
        obtain ⟨el, al, adp⟩ := rr
        cases hcond : (el.flat && elemSz ty t == some el.sz)
        · rw [hcond] at e; cases e
        · rw [hcond] at e
          simp only [cond_true] at e
          simp only [Bool.and_eq_true, beq_iff_eq] at hcond
          split at e
          · rename_i xs hxs
            exact hfin (kd := el) hr hcond.1 hcond.2 (own_sub h hr hs) hxs e
          · cases e
      · cases e
    · rename_i id off len
      split at e
      · rename_i rr hr
        obtain ⟨el, al, adp⟩ := rr
        cases hcond : (el.flat && elemSz ty t == some el.sz)
        · rw [hcond] at e; cases e
        · rw [hcond] at e
          simp only [cond_true] at e
          simp only [Bool.and_eq_true, beq_iff_eq] at hcond
          split at e
          · rename_i xs hxs
            exact hfin (kd := el) hr hcond.1 hcond.2 hs hxs e
          · cases e
      · cases e
    · cases e
  · cases e
end
end Go.Ev

namespace Go.Ev
def RepSlots (w : World) (ok : Nat → Prop) (G : Gh) : List Slot → List Value → Prop
  | [], [] => True
  | s :: ss, v :: vs => RepSlot w ok G s v ∧ RepSlots w ok G ss vs
  | _, _ => False
theorem RepSlots.append {w : World} {ok : Nat → Prop} {G : Gh} : ∀ {ss ss' : List Slot} {vs vs' : List Value}, RepSlots w ok G ss vs → RepSlots w ok G ss' vs' → RepSlots w ok G (ss ++ ss') (vs ++ vs')
  | [], _, [], _, _, h' => h'
  | _ :: _, _, _ :: _, _, h, h' => ⟨h.1, h.2.append h'⟩
  | [], _, _ :: _, _, h, _ => h.elim
  | _ :: _, _, [], _, h, _ => h.elim
def Callable (P : Program) (f : FuncId) : Prop := ∃ fn, P.funcs[f]? = some fn ∧ fn.body.isNone = false ∧ (fn.name == "runtime.NumGoroutine") = false
def SumOk (P : Program) (f : FuncId) (g : Sum) : Prop :=
  Callable P f ∧ ∀ {C : Cx} {G : Gh} {st : St} {a : Act} {w : World} {args : List Slot} {vals : List Value} {d : Nat} {R : Type} {k : St → Slot → Option R} {r : R},
    Rel C G st a w → d < st.n → RepSlots w (G.ok C) G args vals → g st args d R k = some r →
    Calls P f vals.toArray w fun e w' => ∃ v G' st' s, e = .returned v ∧ Rel C G' st' a w' ∧ st'.n = st.n ∧ RepSlot w' (G'.ok C) G' s v ∧ k st' s = some r
structure St.Ext (st st' : St) : Prop where
  box : ∀ b ls, st.box.get b = some ls → st'.box.get b = some ls
  arr : ∀ i r, st.arr.get i = some r → st'.arr.get i = some r
def CalmSum (g : Sum) : Prop :=
  ∀ {st : St} {args : List Slot} {d : Nat} {R : Type} {k : St → Slot → Option R} {r : R}, g st args d R k = some r →
    ∃ s, k st s = some r ∧ ∀ {st' : St}, st.Ext st' → ∀ {d' : Nat} {R' : Type} {k' : St → Slot → Option R'} {r' : R'}, k' st' s = some r' → g st' args d' R' k' = some r'
structure Abs (st : St) (nb : List (Nat × List Leaf)) (na : List (Nat × Arr)) : Prop where
  b : ∀ p ∈ nb, st.box.get p.1 = none
  a : ∀ p ∈ na, st.arr.get p.1 = none
  bl : ∀ p ∈ nb, p.1 < 65000
  al : ∀ p ∈ na, p.1 < 65000
def FreshSum (g : Sum) : Prop :=
  ∀ {st : St} {args : List Slot} {d : Nat} {R : Type} {k : St → Slot → Option R} {r : R}, g st args d R k = some r →
    ∃ nb na s, Abs st nb na ∧ k (st.add nb na) s = some r ∧ ∀ {st' : St}, st.Ext st' → Abs st' nb na → ∀ {R' : Type} {k' : St → Slot → Option R'} {r' : R'}, k' (st'.add nb na) s = some r' → g st' args d R' k' = some r'
def GOk (P : Program) (Γ : FuncId → Option SumX) : Prop := ∀ f x, Γ f = some x → SumOk P f x.g ∧ (x.calm = true → CalmSum x.g) ∧ (x.fresh = true → FreshSum x.g)
section
variable {P : Program} {ty : Ty} {C : Cx} {G : Gh} {st : St} {a : Act} {w : World} {R : Type} {k : St → Slot → Option R} {r : R} {o : Oper} {next : Act → World → Prop} {Q : Exit → Act → World → Prop}
theorem Rel.evs (h : Rel C G st a w) : ∀ xs : List Operand, RepSlots w (G.ok C) G (xs.map st.ev) (xs.map a.eval)
  | [] => trivial
  | x :: xs => ⟨h.ev x, h.evs xs⟩
theorem CapsAt.slots {ok : Nat → Prop} : ∀ {ps : List (Nat × Nat)} {vs : List Value}, CapsAt G ps vs → RepSlots w ok G (ptrs ps) vs
  | [], [], _ => trivial
  | _ :: _, _ :: _, h => ⟨h.1, CapsAt.slots h.2⟩
  | [], _ :: _, h => h.elim
  | _ :: _, [], h => h.elim
theorem ok_callF {Γ : FuncId → Option SumX} (hΓ : GOk P Γ) {c : Call} (hop : o.op = .call c) {x : Operand} (hc : c.callee = .value x) (h : Rel C G st a w) (hd : o.dst.getD 0 < st.n) (hT : Then C a o.dst st.n k r next)
    (e : (match st.ev x with
    | .lf (.fn f caps) => match Γ f with
      | some g => g.g st (c.args.toList.map st.ev ++ ptrs caps) (o.dst.getD 0) R k
      | none => none
    | _ => none) = some r) : o.wp P a w next Q := by
  split at e
  · rename_i f caps hx
    split at e
    · rename_i g hg
      obtain ⟨⟨fn, hfn, hb, hname⟩, hs⟩ := (hΓ f g hg).1
      have hv := h.ev x
      rw [hx] at hv
      obtain ⟨cs, hcv, hcs⟩ := hv
      have hrun : (execOp a.eval o).run P w = .ok (.enter f (c.args.toList.map a.eval ++ cs).toArray) w := by
        have ha : c.args.map a.eval ++ cs.toArray = (c.args.toList.map a.eval ++ cs).toArray := by apply Array.ext'; simp
        simp only [execOp, hop, resolve, hc, hcv, Deferred.ofValue, Sem.run_bind, Sem.run_pure, Result.andThen_ok, invoke]
        simp only [Array.empty_append, ha]
        simp [callFunc, Sem.run_bind, program, Sem.run, hfn, hb]
        have hname' : ¬ (fn.name = "runtime.NumGoroutine") := by simpa using hname
        simp [hname']
        have hb' : fn.body ≠ none := by intro h; rw [h] at hb; cases hb
        simp [hb', Sem.run]
      show o.upon P a next Q ((execOp a.eval o).run P w)
      rw [hrun]
      refine (hs h hd ((h.evs c.args.toList).append (CapsAt.slots hcs)) e).mono fun en w' he => ?_
      obtain ⟨v, G', st', s, rfl, h1, h2, h3, h4⟩ := he
      exact hT G' st' s v w' h1 h2 h3 h4
    · cases e
  · cases e
theorem ok_op (hty : TyOk P ty) {Γ : FuncId → Option SumX} (hΓ : GOk P Γ) (h : Rel C G st a w) (hd : o.dst.getD 0 < st.n) (hT : Then C a o.dst st.n k r next) (e : opK ty Γ o st k = some r) : o.wp P a w next Q := by
  unfold opK at e
  split at e
  · rename_i x hop; exact ok_move (.inl hop) h hT e
  · rename_i x hop; exact ok_move (.inr hop) h hT e
  · rename_i c x y hop; exact ok_pick hop h hT e
  · rename_i t hop; exact ok_alloc hty hop h hd hT e
  · rename_i t x hop; exact ok_box hop h hd hT e
  · rename_i t ps hop; exact ok_build hty hop h hT e
  · rename_i t n ps hop; exact ok_buildSlice hty hop h hd hT e
  · rename_i t x hop; exact ok_load hty hop h hT e
  · rename_i t x y hop; exact ok_store hty hop h hT e
  · rename_i x hop; exact ok_nilCheck hop h hT e
  · rename_i op t x y t2 hop
    cases hn : isNilC y
    · rw [hn] at e; exact ok_binOp hty hop h hT e
    · rw [hn] at e; exact ok_nilCmp hty hop hn h hT e
  · rename_i op t x hop; exact ok_unOp hop h hT e
  · rename_i s t x hop
    cases hs : (ty s).isSome
    · rw [hs] at e; cases e
    · rw [hs] at e
      obtain ⟨ti, hti⟩ := Option.isSome_iff_exists.1 hs
      obtain ⟨d, hd2, _⟩ := (hty s ti hti).und
      exact ok_convert hty hop h hT (by rw [hd2]; rfl) e
  · rename_i f first caps hop; exact ok_makeFunc hop h hT e
  · rename_i t x y hop; exact ok_makeSlice hty hop h hd hT e
  · rename_i t x lo hi hop
    split at e
    · rename_i l' h' h1 h2; exact ok_slice hty hop h hT h1 h2 e
    · cases e
  · rename_i t x lo hi mx hop
    split at e
    · rename_i l' h' m' h1 h2 h3
      cases hdm : decide (h' = m')
      · rw [hdm] at e; cases e
      · rw [hdm] at e
        exact ok_slice3 hty hop h hT h1 h2 h3 (of_decide_eq_true hdm) e
    · cases e
  · rename_i t x f hop; exact ok_fieldAddr hty hop h hT e
  · rename_i t x f hop; exact ok_field hty hop h hT e
  · rename_i t x i hop; exact ok_indexAddr hty hop h hT e
  · rename_i t x i hop; exact ok_index hty hop h hT e
  · rename_i t i hop; exact ok_extract hop h hT e
  · rename_i c hop
    unfold callK at e
    split at e
    · rename_i x hc; exact ok_callF hΓ hop hc h hd hT e
    · rename_i hc; exact ok_len hty hop hc h hT e
    · rename_i hc; exact ok_cap hty hop hc h hT e
    · rename_i hc; exact ok_append hty hop hc h hd hT e
    · rename_i hc; exact ok_copy hty hop hc h hT e
    · rename_i hc; exact ok_min' hop hc h hT e
    · rename_i hc; exact ok_max' hop hc h hT e
    · cases e
  · cases e
theorem put_dead (h : Rel C G st a w) {d : Option Tmp} (hd : d.getD 0 < st.n) : Rel C G (st.put d (.tp [])) (a.put d undef) w := h.put hd ⟨[], rfl, trivial⟩
theorem ok_oper (hty : TyOk P ty) {Γ : FuncId → Option SumX} (hΓ : GOk P Γ) {ops : Array Oper} {o : Oper} {K : St → Option R} {next : Act → World → Prop} (h : Rel C G st a w)
    (hK : ∀ G' st' a' w', Rel C G' st' a' w' → st'.n = st.n → K st' = some r → next a' w') (e : evOper ty Γ ops o st K = some r) :
    if Region.wanted o (yielded ops a.tmps) then o.wp P a w next Q ∨ (o.asks P a w ∧ LetsOut Q) else next (a.put o.dst undef) w := by
  unfold evOper at e
  cases hd : Nat.blt (o.dst.getD 0) st.n
  · rw [hd] at e; cases e
  · rw [hd] at e
    simp only [cond_true] at e
    have hd' : o.dst.getD 0 < st.n := Nat.le_of_ble_eq_true hd
    have hT : ∀ {st1 : St}, st1.n = st.n → Then C a o.dst st.n (fun st s => putK st o.dst s K) r next := fun {st1} hn G' st' s v w' h1 h2 h3 h4 =>
      hK G' (st'.put o.dst s) _ w' (h1.put (by rw [h2]; exact hd') h3) (by unfold St.put; split <;> exact h2) h4
    split at e
    · rename_i hg
      have : Region.wanted o (yielded ops a.tmps) = true := by simp [Region.wanted, hg]
      rw [if_pos this]
      exact .inl (ok_op hty hΓ h hd' (hT rfl) e)
    · rename_i j b hg
      split at e
      · cases e
      · rename_i g hj
        split at e
        · rename_i x hx
          obtain ⟨hlt, hrep⟩ := h.env g _ hx
          have hv : a.tmps.getD g undef = .bool x := hrep
          have hgl : a.tmps[g]? = some (.bool x) := by
            have : g < a.tmps.size := by rw [h.size]; exact hlt
            rw [Array.getElem?_eq_getElem this]
            rw [Array.getD_eq_getD_getElem?, Array.getElem?_eq_getElem this] at hv
            simpa using hv
          have hy : yielded ops a.tmps j = some x := by
            unfold yielded
            rw [hj]
            simp only [Option.bind_some, hgl]
          have hw : Region.wanted o (yielded ops a.tmps) = (x == b) := by
            simp only [Region.wanted, hg, hy]
            cases x <;> cases b <;> rfl
          have hst : Rel C G (st.setEnv g (.lf (.bool x))) a w := h.setEnv hlt hv
          rw [hw]
          cases x <;> cases b <;> simp only [cond_true, cond_false] at e
          · rw [if_pos (by simp)]; exact .inl (ok_op hty hΓ hst hd' (hT (st1 := st) rfl) e)
          · rw [if_neg (by simp)]; exact hK G _ _ w (put_dead hst hd') (by unfold St.put; split <;> rfl) e
          · rw [if_neg (by simp)]; exact hK G _ _ w (put_dead hst hd') (by unfold St.put; split <;> rfl) e
          · rw [if_pos (by simp)]; exact .inl (ok_op hty hΓ hst hd' (hT (st1 := st) rfl) e)
        · rename_i hx
          obtain ⟨hlt, vs, hv, hvs⟩ := h.env g _ hx
          have hvs' : vs = [] := by cases vs with
            | nil => rfl
            | cons _ _ => exact hvs.elim
          subst hvs'
          have hgl : a.tmps[g]? = some (.tuple #[]) := by
            have : g < a.tmps.size := by rw [h.size]; exact hlt
            rw [Array.getElem?_eq_getElem this]
            rw [Array.getD_eq_getD_getElem?, Array.getElem?_eq_getElem this] at hv
            simpa using hv
          have hy : yielded ops a.tmps j = none := by
            unfold yielded
            rw [hj]
            simp only [Option.bind_some, hgl]
          have hw : Region.wanted o (yielded ops a.tmps) = false := by
            simp only [Region.wanted, hg, hy]
            rfl
          rw [hw, if_neg (by simp)]
          exact hK G _ _ w (put_dead h hd') (by unfold St.put; split <;> rfl) e
        · cases e
theorem ok_ops (hty : TyOk P ty) {Γ : FuncId → Option SumX} (hΓ : GOk P Γ) {ops : Array Oper} : ∀ {os : List Oper} {G : Gh} {st : St} {a : Act} {w : World} {K : St → Option R}, Rel C G st a w →
    (∀ G' st' a' w', Rel C G' st' a' w' → st'.n = st.n → K st' = some r → Q .normal a' w') → evOps ty Γ ops os st K = some r → wpList P ops Q os a w
  | [], G, st, a, w, K, h, hK, e => hK G st a w h rfl e
  | o :: os, G, st, a, w, K, h, hK, e => by
    unfold evOps at e
    unfold wpList
    exact ok_oper hty hΓ h (fun G' st' a' w' h1 h2 h3 => ok_ops hty hΓ h1 (fun G2 st2 a2 w2 h4 h5 h6 => hK G2 st2 a2 w2 h4 (h5.trans h2) h6) h3) e
end
end Go.Ev
