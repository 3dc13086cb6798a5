/- What is proved here: summaries of contracts, loops, arguments of rows; no condition. -/
import Derived.Below
import Derived.ChangeOld
import Derived.Laws.BitsLemmas
import Derived.LoopN
import Derived.OpenShut
import Derived.ProofKit
import Derived.SizedLaws
import Derived.Test.YtiipbidabcjnjaaLc
set_option linter.unusedVariables false
set_option linter.unusedSimpArgs false
namespace Go.Ev

/-- As K.rd, but arrays of one's own may be looked at. -/
def K.rdS (st : St) : (k : K) → List Leaf → Option k.T
  | .int k, ls => K.rd (.int k) ls
  | .bool, ls => K.rd .bool ls
  | .str, ls => K.rd .str ls
  | .sl e, ls => match ls with
    | [l] => st.cont e l
    | _ => none
  | .pr a b, ls =>
    match a.rdS st (ls.take a.sz), b.rdS st (ls.drop a.sz) with
    | some x, some y => some (x, y)
    | _, _ => none

def AS.noWp : AS → Bool
  | .wp _ => false
  | _ => true

def Leaf.owns : Leaf → List Nat
  | .own id => [id]
  | .sub id _ _ => [id]
  | _ => []
def Slot.owns : Slot → List Nat
  | .lf l => l.owns
  | .ag ls => ls.flatMap Leaf.owns
  | .ep id _ _ => [id]
  | _ => []
/-- Own arrays are given up. -/
def frz : List Nat → St → List Slot → St × List Slot
  | [], st, ss => (st, ss)
  | id :: ids, st, ss => match st.arr.get id with
    | some a => frz ids (st.freeze id a) (ss.map (Slot.freeze id a))
    | none => frz ids st ss

/-- The arguments. 'fl': no result may lie in them. -/
def takeA (fl : Bool) (st : St) : (as : List AS) → List Slot → Option (Args as)
  | [], [] => some ()
  | .val g k :: as, s :: ss =>
    bif s.isAg == g then
      match (bif fl then k.rdS st s.leafs else k.rd s.leafs) with
      | some x => match takeA fl st as ss with
        | some xs => some (x, xs)
        | none => none
      | none => none
    else none
  | .rp k :: as, s :: ss =>
    match s with
    | .rp ls => match k.rd (ls.take k.sz) with
      | some x => match takeA fl st as ss with
        | some xs => some (x, xs)
        | none => none
      | none => none
    | s => bif fl then
        match st.leafsAt k.sz s with
        | some ls => match k.rdS st ls with
          | some x => match takeA fl st as ss with
            | some xs => some (x, xs)
            | none => none
          | none => none
        | none => none
      else none
  | .fn f :: as, s :: ss =>
    match s with
    | .lf (.fn f' []) => bif f' == f then (match takeA fl st as ss with
      | some xs => some ((), xs)
      | none => none) else none
    | _ => none
  | _, _ => none

/-- A slice that is handed over. -/
def ownSt (d : Nat) : (rs : List RS) → Ress rs → Nat → St → Option St
  | [], _, _, st => some st
  | .own e :: rs, y, i, st =>
    bif rs.any (·.isOwn) || !Nat.blt i 4 then none else
      match st.arr.get (d * 4 + i) with
      | some _ => none
      | none => some (st.newArr (d * 4 + i) ⟨e, y.1, true⟩)
  | .val _ _ :: rs, y, i, st => ownSt d rs y.2 (i + 1) st
  | .err :: rs, y, i, st => ownSt d rs y.2 (i + 1) st

/-- The results. -/
def resK {R : Type} (d : Nat) : (rs : List RS) → Ress rs → Nat → List (Bool × List Leaf) → (List (Bool × List Leaf) → Option R) → Option R
  | [], _, _, acc, k => k acc.reverse
  | .val g kk :: rs, y, i, acc, k => resK d rs y.2 (i + 1) ((g, kk.lv y.1) :: acc) k
  | .own e :: rs, y, i, acc, k => resK d rs y.2 (i + 1) ((false, [.own (d * 4 + i)]) :: acc) k
  | .err :: rs, y, i, acc, k => cond y.1 (resK d rs y.2 (i + 1) ((false, [.ifx]) :: acc) k) (resK d rs y.2 (i + 1) ((false, [.nili]) :: acc) k)

def tupS : List (Bool × List Leaf) → Slot
  | [(g, ls)] => bif g then .ag ls else .lf (leaf1 ls)
  | xs => .tp xs

def flatC (as : List AS) (rs : List RS) : Bool := rs.all (·.flat) && as.all (·.outFlat)

def sumV (as : List AS) (rs : List RS) (F : Args as → Option (Outs as × Ress rs)) : Sum := fun st args d R k =>
  let p := bif flatC as rs then (st, args) else frz (args.flatMap Slot.owns) st args
  match takeA (flatC as rs) p.1 as p.2 with
  | some x => (F x).bind fun oy => match ownSt d rs oy.2 0 p.1 with
    | some st2 => resK d rs oy.2 0 [] fun acc => k st2 (tupS acc)
    | none => none
  | none => none

section
variable {P : Program} {C : Cx} {G : Gh} {st : St} {a : Act} {w w' : World} {ok ok' : Nat → Prop}

/-- Memory that no box lies in, or memory that never turns. -/
theorem rdS_rep (h : Rel C G st a w) : ∀ {k : K} {ls : List Leaf} {vs : List Value} {x : k.T}, RepLeafs w (G.ok C) G ls vs → k.rdS st ls = some x → RepT w (fun _ => True) k x vs
  | .int k, ls, vs, x, hr, e => (hr.rd (k := .int k) e).trans fun _ _ _ h => ⟨trivial, h⟩
  | .bool, ls, vs, x, hr, e => (hr.rd (k := .bool) e).trans fun _ _ _ h => ⟨trivial, h⟩
  | .str, ls, vs, x, hr, e => (hr.rd (k := .str) e).trans fun _ _ _ h => ⟨trivial, h⟩
  | .sl el, ls, vs, x, hr, e => by
    simp only [K.rdS] at e
    split at e
    · rename_i l
      cases vs with
      | nil => exact hr.elim
      | cons v vs =>
        cases vs with
        | cons _ _ => exact hr.2.elim
        | nil =>
          obtain ⟨A, c, h1, h2, h3⟩ := cont_rep h hr.1 e
          refine ⟨A, c, by rw [h1], h2, fun i hi => ?_⟩
          obtain ⟨ad, h4, cs, h5, h6⟩ := h3 i hi
          exact ⟨ad, h4, trivial, cs, h5.trans fun _ _ _ h => ⟨trivial, h⟩, h6⟩
    · cases e
  | .pr p q, ls, vs, x, hr, e => by
    simp only [K.rdS] at e
    split at e
    · rename_i y z h1 h2
      cases e
      exact ⟨vs.take p.sz, vs.drop p.sz, (List.take_append_drop _ _).symm, rdS_rep h (hr.take _) h1, rdS_rep h (hr.drop _) h2⟩
    · cases e

/-- Which memory the arguments lie in. -/
def okA (fl : Bool) (C : Cx) (G : Gh) : Nat → Prop := if fl then fun _ => True else G.ok C

theorem keeps_true : Keeps w w ok (fun _ => True) := fun _ _ _ h => ⟨trivial, h⟩
theorem okA_of {fl : Bool} : Keeps w w (G.ok C) (okA fl C G) := by
  cases fl
  · exact Keeps.refl _ _
  · exact keeps_true

theorem RepArgs.trans (H : Keeps w w ok ok') : ∀ {as : List AS} {x : Args as} {vals : List Value}, as.all (·.noWp) = true → RepArgs w ok as x vals [] → RepArgs w ok' as x vals []
  | [], _, [], _, h => h
  | .val g k :: as, x, v :: vals, hn, h => by
    simp only [List.all_cons, Bool.and_eq_true] at hn
    exact ⟨h.1.trans H, RepArgs.trans H hn.2 h.2⟩
  | .rp k :: as, x, v :: vals, hn, h => by
    simp only [List.all_cons, Bool.and_eq_true] at hn
    obtain ⟨⟨ad, cs, h1, h2, h3, h4⟩, h5⟩ := h
    refine ⟨⟨ad, cs, h1, ?_, h3.trans H, h4⟩, RepArgs.trans H hn.2 h5⟩
    have hl := h3.length
    have := k.sz_pos
    have h0 := h4 0 _ (List.getElem?_eq_getElem (by omega))
    have := (H _ _ (by rw [addr_add_block]; exact h2) h0).1
    rwa [addr_add_block] at this
  | .fn f :: as, x, v :: vals, hn, h => by
    simp only [List.all_cons, Bool.and_eq_true] at hn
    exact ⟨h.1, RepArgs.trans H hn.2 h.2⟩
  | .wp _ :: _, _, _, hn, _ => by simp [AS.noWp] at hn
  | [], _, _ :: _, _, h | .val _ _ :: _, _, [], _, h | .rp _ :: _, _, [], _, h | .fn _ :: _, _, [], _, h => h.elim

theorem rp_arg {s : Slot} {v : Value} (h : Rel C G st a w) {k : K} (hs : RepSlot w (G.ok C) G s v) {ls : List Leaf} (e : st.leafsAt k.sz s = some ls) {x : k.T} (hx : k.rdS st ls = some x) :
    ∃ ad cs, v = .pointer (some ad) ∧ RepT w (fun _ => True) k x cs ∧ ∀ j c, cs[j]? = some c → w.cell? (ad.add j) = some c := by
  obtain ⟨ad, cs, h1, h2, h3⟩ := leafsAt_rep h hs e
  exact ⟨ad, cs, h1, rdS_rep h h2 hx, h3⟩

theorem rdS_nil : ∀ k : K, k.rdS st [] = none
  | .int _ | .bool | .str | .sl _ => rfl
  | .pr a b => by simp [K.rdS, rdS_nil a]

theorem frz_rep : ∀ {ids : List Nat} {G : Gh} {st : St} {ss : List Slot} {vals : List Value}, Rel C G st a w → RepSlots w (G.ok C) G ss vals →
    ∃ G', Rel C G' (frz ids st ss).1 a w ∧ (frz ids st ss).1.n = st.n ∧ RepSlots w (G'.ok C) G' (frz ids st ss).2 vals
  | [], G, st, ss, vals, h, hs => ⟨G, h, rfl, hs⟩
  | id :: ids, G, st, ss, vals, h, hs => by
    unfold frz
    cases hr : st.arr.get id with
    | none => exact frz_rep h hs
    | some r =>
      obtain ⟨ai0, hA0, _⟩ := h.mem.arrR id r hr
      obtain ⟨g1, H, ai, hA, ha, hblk⟩ := h.freeze (h.mem.ia id _ hA0) hr
      obtain ⟨G', g2, g3, g4⟩ := frz_rep (ids := ids) g1 (ss := ss.map (Slot.freeze id r)) (vals := vals) (by
        clear g1
        induction ss generalizing vals with
        | nil => cases vals with
          | nil => trivial
          | cons _ _ => exact hs.elim
        | cons s ss ih => cases vals with
          | nil => exact hs.elim
          | cons v vals => exact ⟨Slot.freeze_rep hA ha H hblk hs.1, ih _ hs.2⟩)
      exact ⟨G', g2, g3, g4⟩

theorem takeA_rep (h : Rel C G st a w) {fl : Bool} : ∀ {as : List AS} {ss : List Slot} {vals : List Value} {x : Args as}, as.all (·.noWp) = true → RepSlots w (G.ok C) G ss vals → takeA fl st as ss = some x → RepArgs w (okA fl C G) as x vals []
  | [], [], [], x, hn, hs, e => trivial
  | .val g k :: as, s :: ss, v :: vals, x, hn, hs, e => by
    simp only [List.all_cons, Bool.and_eq_true] at hn
    simp only [takeA] at e
    cases hg : (s.isAg == g)
    · rw [hg] at e; cases e
    · rw [hg] at e
      simp only [cond_true] at e
      have hg' : s.isAg = g := by simpa using hg
      split at e
      · rename_i y hy
        split at e
        · rename_i ys h2
          cases e
          refine ⟨?_, takeA_rep h hn.2 hs.2 h2⟩
          cases fl with
          | true =>
            simp only [cond_true] at hy
            have hne : s.leafs ≠ [] := fun hc => by rw [hc, rdS_nil] at hy; cases hy
            rw [← hg']
            exact rep_agg hs.1 hne (rdS_rep h (leafs_rep' hs.1 hne) hy)
          | false =>
            simp only [cond_false] at hy
            have hne : s.leafs ≠ [] := fun hc => by rw [hc, K.rd_nil] at hy; cases hy
            rw [← hg']
            exact rep_agg hs.1 hne ((leafs_rep' hs.1 hne).rd hy)
        · cases e
      · cases e
  | .rp k :: as, s :: ss, v :: vals, x, hn, hs, e => by
    simp only [List.all_cons, Bool.and_eq_true] at hn
    simp only [takeA] at e
    split at e
    · rename_i ls
      split at e
      · rename_i y hy
        split at e
        · rename_i ys h2
          cases e
          refine ⟨?_, takeA_rep h hn.2 hs.2 h2⟩
          obtain ⟨ad, h3, h4, cs, h5, h6⟩ := hs.1
          have hrt := (h5.take k.sz).rd hy
          have hne : ls ≠ [] := fun hc => by rw [hc, List.take_nil, K.rd_nil] at hy; cases hy
          refine ⟨ad, cs.take k.sz, h3, ?_, hrt.trans okA_of, fun j c hj => h6 j c ?_⟩
          · have := h4 hne
            have hl := h5.length
            have hpos : 0 < cs.length := by rw [← hl]; exact List.length_pos_iff.2 hne
            have h0 := h6 0 _ (List.getElem?_eq_getElem hpos)
            have := (okA_of (fl := fl) (w := w) (C := C) (G := G) _ _ (by rw [addr_add_block]; exact this) h0).1
            rwa [addr_add_block] at this
          · rw [List.getElem?_take] at hj; split at hj
            · exact hj
            · cases hj
        · cases e
      · cases e
    · cases fl with
      | false => cases e
      | true =>
        simp only [cond_true] at e
        split at e
        · rename_i ls hls
          split at e
          · rename_i y hy
            split at e
            · rename_i ys h2
              cases e
              refine ⟨?_, takeA_rep h hn.2 hs.2 h2⟩
              obtain ⟨ad, cs, h1, h3, h4⟩ := rp_arg h hs.1 hls hy
              exact ⟨ad, cs, h1, trivial, h3, h4⟩
            · cases e
          · cases e
        · cases e
  | .fn f :: as, s :: ss, v :: vals, x, hn, hs, e => by
    simp only [List.all_cons, Bool.and_eq_true] at hn
    simp only [takeA] at e
    split at e
    · rename_i f'
      cases hf : (f' == f)
      · rw [hf] at e; cases e
      · rw [hf] at e
        simp only [cond_true] at e
        have hf' : f' = f := by simpa using hf
        subst hf'
        split at e
        · rename_i ys h2
          cases e
          refine ⟨?_, takeA_rep h hn.2 hs.2 h2⟩
          obtain ⟨cs, hv, hcs⟩ := hs.1
          cases cs with
          | nil => exact hv
          | cons _ _ => exact hcs.elim
        · cases e
    · cases e
  | .wp _ :: _, _, _, _, hn, _, _ => by simp [AS.noWp] at hn
  | [], _ :: _, _, _, _, _, e | .val _ _ :: _, [], _, _, _, _, e | .rp _ :: _, [], _, _, _, _, e | .fn _ :: _, [], _, _, _, _, e => by simp [takeA] at e
  | [], [], _ :: _, _, _, hs, _ | .val _ _ :: _, _ :: _, [], _, _, hs, _ | .rp _ :: _, _ :: _, [], _, _, hs, _ | .fn _ :: _, _ :: _, [], _, _, hs, _ => hs.elim
end
end Go.Ev

namespace Go.Ev

def OwnRep (C : Cx) (G : Gh) (w : World) (d : Nat) : Nat → List RS → List Value → Prop
  | i, .own e :: rs, v :: vs => RepLeaf w (G.ok C) G (.own (d * 4 + i)) v ∧ OwnRep C G w d (i + 1) rs vs
  | i, .val _ _ :: rs, v :: vs => OwnRep C G w d (i + 1) rs vs
  | i, .err :: rs, v :: vs => OwnRep C G w d (i + 1) rs vs
  | _, _, _ => True

section
variable {P : Program} {C : Cx} {G : Gh} {st : St} {a : Act} {w w' : World} {ok ok' okr : Nat → Prop} {R : Type} {r : R}

theorem OwnRep.none {d : Nat} : ∀ {i : Nat} {rs : List RS} {vs : List Value}, rs.any (·.isOwn) = false → OwnRep C G w d i rs vs
  | i, .own e :: rs, v :: vs, h => by simp [RS.isOwn] at h
  | i, .val _ _ :: rs, v :: vs, h => by simp only [List.any_cons, Bool.or_eq_false_iff] at h; exact OwnRep.none (i := i + 1) h.2
  | i, .err :: rs, v :: vs, h => by simp only [List.any_cons, Bool.or_eq_false_iff] at h; exact OwnRep.none (i := i + 1) h.2
  | _, [], [], _ | _, [], _ :: _, _ | _, .own _ :: _, [], _ | _, .val _ _ :: _, [], _ | _, .err :: _, [], _ => trivial

theorem RepTup.append : ∀ {xs ys : List (Bool × List Leaf)} {vs us : List Value}, RepTup w ok G xs vs → RepTup w ok G ys us → RepTup w ok G (xs ++ ys) (vs ++ us)
  | [], _, [], _, _, h' => h'
  | _ :: _, _, _ :: _, _, h, h' => ⟨h.1, RepTup.append h.2 h'⟩
  | [], _, _ :: _, _, h, _ | _ :: _, _, [], _, h, _ => h.elim

theorem resK_rep {d : Nat} : ∀ {rs : List RS} {y : Ress rs} {vs pre : List Value} {F : List Nat} {i : Nat} {acc : List (Bool × List Leaf)} {k : List (Bool × List Leaf) → Option R}, (rs.all (·.flat) = true ∨ Keeps w w okr (G.ok C)) → RepRess w okr rs y vs F → OwnRep C G w d i rs vs → RepTup w (G.ok C) G acc.reverse pre → resK d rs y i acc k = some r →
    ∃ acc', RepTup w (G.ok C) G acc' (pre ++ vs) ∧ k acc' = some r
  | [], y, [], pre, F, i, acc, k, hk, hr, ho, ha, e => ⟨_, by simpa using ha, e⟩
  | .val g kk :: rs, y, v :: vs, pre, F, i, acc, k, hk, hr, ho, ha, e => by
    have hv : RepV w (G.ok C) g kk y.1 v := by
      rcases hk with hk | hk
      · simp only [List.all_cons, Bool.and_eq_true] at hk; exact hr.1.flat hk.1
      · exact hr.1.trans hk
    have hk' : rs.all (·.flat) = true ∨ Keeps w w okr (G.ok C) := by
      rcases hk with hk | hk
      · simp only [List.all_cons, Bool.and_eq_true] at hk; exact .inl hk.2
      · exact .inr hk
    obtain ⟨acc', h1, h2⟩ := resK_rep (i := i + 1) (acc := (g, kk.lv y.1) :: acc) (pre := pre ++ [v]) hk' hr.2 ho (by
      rw [List.reverse_cons]
      obtain ⟨cs, h1, h2⟩ := hv
      exact ha.append ⟨⟨cs, h1.lv, h2⟩, trivial⟩) e
    exact ⟨acc', by simpa using h1, h2⟩
  | .own el :: rs, y, v :: vs, pre, F, i, acc, k, hk, hr, ho, ha, e => by
    obtain ⟨F1, F2, _, _, hr2⟩ := hr
    have hk' : rs.all (·.flat) = true ∨ Keeps w w okr (G.ok C) := by
      rcases hk with hk | hk
      · simp only [List.all_cons, Bool.and_eq_true] at hk; exact .inl hk.2
      · exact .inr hk
    obtain ⟨acc', h1, h2⟩ := resK_rep (i := i + 1) (acc := (false, [.own (d * 4 + i)]) :: acc) (pre := pre ++ [v]) hk' hr2 ho.2 (by
      rw [List.reverse_cons]
      exact ha.append ⟨⟨[v], ⟨ho.1, trivial⟩, .inr ⟨rfl, rfl⟩⟩, trivial⟩) e
    exact ⟨acc', by simpa using h1, h2⟩
  | .err :: rs, y, v :: vs, pre, F, i, acc, k, hk, hr, ho, ha, e => by
    have hk' : rs.all (·.flat) = true ∨ Keeps w w okr (G.ok C) := by
      rcases hk with hk | hk
      · simp only [List.all_cons, Bool.and_eq_true] at hk; exact .inl hk.2
      · exact .inr hk
    simp only [resK] at e
    rcases hr.1 with ⟨h1, h2⟩ | ⟨h1, h2⟩
    · rw [h1] at e
      simp only [cond_false] at e
      obtain ⟨acc', h1, h2⟩ := resK_rep (i := i + 1) (acc := (false, [.nili]) :: acc) (pre := pre ++ [v]) hk' hr.2 ho (by
        rw [List.reverse_cons]
        exact ha.append ⟨⟨[v], ⟨h2, trivial⟩, .inr ⟨rfl, rfl⟩⟩, trivial⟩) e
      exact ⟨acc', by simpa using h1, h2⟩
    · rw [h1] at e
      simp only [cond_true] at e
      obtain ⟨acc', h1, h2⟩ := resK_rep (i := i + 1) (acc := (false, [.ifx]) :: acc) (pre := pre ++ [v]) hk' hr.2 ho (by
        rw [List.reverse_cons]
        exact ha.append ⟨⟨[v], ⟨h2, trivial⟩, .inr ⟨rfl, rfl⟩⟩, trivial⟩) e
      exact ⟨acc', by simpa using h1, h2⟩
  | [], _, _ :: _, _, _, _, _, _, _, h, _, _, _ | .val _ _ :: _, _, [], _, _, _, _, _, _, h, _, _, _ | .own _ :: _, _, [], _, _, _, _, _, _, h, _, _, _ | .err :: _, _, [], _, _, _, _, _, _, h, _, _, _ => h.elim

theorem tupS_rep {acc : List (Bool × List Leaf)} {vs : List Value} (h : RepTup w ok G acc vs) : RepSlot w ok G (tupS acc) (if h : vs.toArray.size = 1 then vs.toArray[0] else .tuple vs.toArray) := by
  match acc, vs, h with
  | [], [], h => exact ⟨[], by simp, trivial⟩
  | [(g, ls)], [v], h =>
    obtain ⟨⟨cs, h1, h2⟩, _⟩ := h
    simp only [tupS]
    rcases h2 with ⟨h2, h3⟩ | ⟨h2, h3⟩
    · simp only at h2; subst h2
      exact ⟨cs, by simpa using h3, h1⟩
    · simp only at h2; subst h2
      subst h3
      have h1' := h1
      cases ls with
      | nil => exact h1.elim
      | cons l ls => cases ls with
        | nil => exact h1.1
        | cons _ _ => exact h1.2.elim
  | x :: y :: xs, u :: v :: vs, h =>
    show RepSlot w ok G (.tp (x :: y :: xs)) _
    exact ⟨u :: v :: vs, by simp, h⟩
  | [], _ :: _, h => exact h.elim
  | _ :: _, [], h => exact h.elim
  | [_], _ :: _ :: _, h => exact h.2.elim
  | _ :: _ :: _, [_], h => exact h.2.elim

/-- Old memory as it was. -/
theorem Fr.old (h : Fr ⟨fun _ => False, inPl [], w, fun _ => none⟩ w') {x : Addr} {v : Value} (hx : w.cell? x = some v) : w'.cell? x = some v ∧ w'.frozen? x = w.frozen? x := by
  have hb := World.block_lt_of_cell? w _ hx
  have := h.cell x hb (by rintro ⟨p, hp, _⟩; simp at hp)
  exact ⟨by rw [this.1]; exact hx, this.2⟩
theorem Fr.comp (h0 : Fr C w) (h : Fr ⟨fun _ => False, inPl [], w, fun _ => none⟩ w') : Fr C w' := by
  have hs := h0.size
  have hs2 : w.heap.size ≤ w'.heap.size := h.size
  refine ⟨h.os.trans h0.os, h.tape.trans h0.tape, h.output.trans h0.output, by omega, fun i hi hn => ?_, fun x hx hn => ?_⟩
  · rw [← h0.block i hi hn]
    exact h.block i (by show i < w.heap.size; omega) (by rintro o ⟨p, hp, _⟩; simp at hp)
  · have h1 := h.cell x (by show x.block < w.heap.size; omega) (by rintro ⟨p, hp, _⟩; simp at hp)
    have h2 := h0.cell x hx hn
    exact ⟨h1.1.trans h2.1, h1.2.trans h2.2⟩

theorem ownSt_rep (h : Rel C G st a w) (hfr : Fr ⟨fun _ => False, inPl [], w, fun _ => none⟩ w') {d : Nat} (hd : d < st.n) : ∀ {rs : List RS} {y : Ress rs} {vs : List Value} {F : List Nat} {i : Nat} {st2 : St}, RepRess w' okr rs y vs F → F.Nodup → (∀ b ∈ F, w.heap.size ≤ b ∧ b < w'.heap.size) → ownSt d rs y i st = some st2 →
    ∃ G', Rel C G' st2 a w' ∧ st2.n = st.n ∧ OwnRep C G' w' d i rs vs ∧ (rs.any (·.isOwn) = false → G' = G)
  | [], y, vs, F, i, st2, hr, hnd, hF, e => by
    simp only [ownSt, Option.some.injEq] at e
    subst e
    exact ⟨G, h.grow hfr.size (fun x v hx => hfr.old hx) (h.fr.comp hfr), rfl, by cases vs <;> trivial, fun _ => rfl⟩
  | .val g k :: rs, y, v :: vs, F, i, st2, hr, hnd, hF, e => by
    obtain ⟨G', h1, h2, h3, h4⟩ := ownSt_rep h hfr hd (i := i + 1) hr.2 hnd hF (by simpa only [ownSt] using e)
    exact ⟨G', h1, h2, h3, fun hh => h4 (by simpa [RS.isOwn] using hh)⟩
  | .err :: rs, y, v :: vs, F, i, st2, hr, hnd, hF, e => by
    obtain ⟨G', h1, h2, h3, h4⟩ := ownSt_rep h hfr hd (i := i + 1) hr.2 hnd hF (by simpa only [ownSt] using e)
    exact ⟨G', h1, h2, h3, fun hh => h4 (by simpa [RS.isOwn] using hh)⟩
  | .own el :: rs, y, v :: vs, F, i, st2, hr, hnd, hF, e => by
    simp only [ownSt] at e
    cases hc : (rs.any (·.isOwn) || !Nat.blt i 4)
    · rw [hc] at e
      simp only [cond_false] at e
      simp only [Bool.or_eq_false_iff, Bool.not_eq_false'] at hc
      have hi4 : i < 4 := Nat.le_of_ble_eq_true hc.2
      have hid : d * 4 + i < 65000 := by
        have hn := h.n
        have : d < 16000 := Nat.lt_of_lt_of_le hd hn
        have : (d + 1) * 4 ≤ 16000 * 4 := Nat.mul_le_mul_right _ this
        rw [Nat.add_mul] at this
        show d * 4 + i < 65000
        have h3 : d * 4 + 1 * 4 ≤ 64000 := this
        omega
      split at e
      · cases e
      · rename_i hnone
        simp only [Option.some.injEq] at e
        subst e
        obtain ⟨F1, F2, rfl, ⟨A, c, hv, hlc, hown⟩, hr2⟩ := hr
        have hF2 := hr2.noOwn hc.1
        subst hF2
        simp only [List.cons.injEq, and_true] at hv
        have hA : G.A (d * 4 + i) = none := by
          cases hq : G.A (d * 4 + i) with
          | none => rfl
          | some ai => obtain ⟨r, h1⟩ := h.mem.adom _ ai hq; rw [hnone] at h1; cases h1
        have hsz := h.mem.size
        have hcell : ∀ x v, (∀ ai blk base m, G.A (d * 4 + i) = some ai → ai.loc = some (blk, base, m) → x.block ≠ blk) → w.cell? x = some v → w'.cell? x = some v ∧ w'.frozen? x = w.frozen? x := fun x v _ hx => hfr.old hx
        rcases hown with ⟨hc0, hF0⟩ | ⟨blk, base, Fs, hAa, hFF, hFl, hth, hel⟩
        · subst hF0
          have hy0 : y.1 = [] := List.eq_nil_of_length_eq_zero (by omega)
          obtain ⟨h1, H, hle⟩ := h.set_arr (w' := w') hid (a' := ⟨el, y.1, true⟩) (ai' := ⟨el.sz, 0, none⟩) (F' := []) (fun ai hai => by rw [hA] at hai; cases hai) hfr.size hcell (fun _ _ _ hl => by cases hl)
            (fun H => ⟨rfl, by simp [hy0], fun _ => rfl, fun _ _ _ hl => (by cases hl), fun _ _ _ hl => (by cases hl), fun _ _ _ hl => (by cases hl), fun _ _ _ hl => (by cases hl), fun _ _ _ hl => (by cases hl)⟩)
            (fun _ => ⟨fun _ _ _ hl => (by cases hl), by simp [hy0], fun _ _ _ hl => (by cases hl)⟩) (by simp) (fun b hb => by simp at hb) (h.fr.comp hfr)
          refine ⟨_, h1, rfl, ⟨⟨⟨el.sz, 0, none⟩, A, c, Gh.setA_same .., ?_, by simp, fun h0 => by omega⟩, OwnRep.none hc.1⟩, fun hh => by simp [RS.isOwn] at hh⟩
          rw [hv, hy0]; rfl
        · subst hFF
          have hb0 := hF blk (by simp)
          simp only [List.append_nil] at hnd hF
          have hnd' := List.nodup_cons.1 hnd
          have hwr : ∀ j, (G.setA (d * 4 + i) (some ⟨el.sz, y.1.length, some (blk, base, c * el.sz)⟩) Fs).wr j → G.wr j ∨ j = blk := by
            rintro j (⟨b, bs, hb⟩ | ⟨q, aq, bs, m, hq, hl⟩)
            · exact .inl (Gh.wr_of_B hb)
            · by_cases eq : q = d * 4 + i
              · subst eq; rw [Gh.setA_same] at hq; cases hq; simp at hl; exact .inr hl.1.symm
              · rw [Gh.setA_ne _ _ _ eq] at hq; exact .inl (Gh.wr_of_A hq hl)
          obtain ⟨h1, H, hle⟩ := h.set_arr (w' := w') hid (a' := ⟨el, y.1, true⟩) (ai' := ⟨el.sz, y.1.length, some (blk, base, c * el.sz)⟩) (F' := Fs) (fun ai hai => by rw [hA] at hai; cases hai) hfr.size hcell
            (fun b bs m hl => by simp only [Option.some.injEq, Prod.mk.injEq] at hl; obtain ⟨rfl, rfl, rfl⟩ := hl; exact .inl hb0)
            (fun H => by
              refine ⟨rfl, rfl, fun hn => (by cases hn), fun b bs m hl => ?_, fun b bs m hl j hj => ?_, fun b bs m hl => ?_, fun b bs m hl j hj => ?_, fun b bs m hl j hj => ?_⟩ <;>
                (simp only [Option.some.injEq, Prod.mk.injEq] at hl; obtain ⟨rfl, rfl, rfl⟩ := hl)
              · exact .inl (by omega)
              · exact .inl (by omega)
              · exact Nat.mul_le_mul_right _ hlc
              · exact hth j hj
              · obtain ⟨cs, q1, q2⟩ := hel j hj
                refine ⟨cs, q1.rep fun b hb => ?_, q2⟩
                have hbF : b ∈ Fs.flatten := getD_flatten hb
                have hb1 := hF b (List.mem_cons_of_mem _ hbF)
                refine ⟨fun hx => h.mem.X b hx (.inl (by omega)), fun hc => ?_⟩
                rcases hwr b hc with hc | hc
                · have := h.mem.lt b hc; omega
                · exact hnd'.1 (hc ▸ hbF))
            (fun _ => ⟨fun b bs m hl => by simp only [Option.some.injEq, Prod.mk.injEq] at hl; obtain ⟨rfl, rfl, rfl⟩ := hl; omega, hFl, fun b bs m hl j hj => by
              simp only [Option.some.injEq, Prod.mk.injEq] at hl; obtain ⟨rfl, rfl, rfl⟩ := hl
              exact hel j hj⟩)
            hnd'.2
            (fun b hb => by
              have hb1 := hF b (List.mem_cons_of_mem _ hb)
              refine ⟨by omega, hb1.2, fun hc => ?_, fun id' _ hin => ?_⟩
              · rcases hwr b hc with hc | hc
                · have := h.mem.lt b hc; omega
                · exact hnd'.1 (hc ▸ hb)
              · have := (h.mem.fwr id' b hin).2.1; omega)
            (h.fr.comp hfr)
          refine ⟨_, h1, rfl, ⟨⟨_, A, c, Gh.setA_same .., hv, hlc, fun h0 => ⟨blk, base, c * el.sz, rfl, hAa, Nat.le_refl _⟩⟩, OwnRep.none hc.1⟩, fun hh => by simp [RS.isOwn] at hh⟩
    · rw [hc] at e; cases e
  | .val _ _ :: _, _, [], _, _, _, h, _, _, _ | .own _ :: _, _, [], _, _, _, h, _, _, _ | .err :: _, _, [], _, _, _, h, _, _, _ => h.elim

/-- WHAT A CONTRACT SAYS TO A CALLER. -/
theorem sumV_ok {f : FuncId} {as : List AS} {rs : List RS} {F : Args as → Option (Outs as × Ress rs)} (hc : FnC P f as rs F) (hnw : as.all (·.noWp) = true) (hrs : rsOk as rs = true) : SumOk P f (sumV as rs F) := by
  refine ⟨hc.1, fun {C G st a w args vals d R k r} h hd hs e => ?_⟩
  unfold sumV at e
  simp only at e
  have hfz : ∃ G1 p, (bif flatC as rs then (st, args) else frz (args.flatMap Slot.owns) st args) = p ∧ Rel C G1 p.1 a w ∧ p.1.n = st.n ∧ RepSlots w (G1.ok C) G1 p.2 vals := by
    cases hfl : flatC as rs with
    | true => exact ⟨G, _, rfl, h, rfl, hs⟩
    | false =>
      obtain ⟨G1, g1, g2, g3⟩ := frz_rep (ids := args.flatMap Slot.owns) h hs
      exact ⟨G1, _, rfl, g1, g2, g3⟩
  obtain ⟨G1, p, hp, g1, g2, g3⟩ := hfz
  rw [hp] at e
  split at e
  · rename_i x hx
    have hra := takeA_rep g1 hnw g3 hx
    obtain ⟨⟨o, y⟩, hF, e⟩ := Option.bind_eq_some_iff.1 e
    refine (hc.2 w _ x vals [] o y hF hra).mono fun en w' he => ?_
    obtain ⟨v, vs, Fb, rfl, hv, hfr, hnd, hFb, hres, _⟩ := he
    split at e
    · rename_i st2 hst2
      obtain ⟨G2, q1, q2, q3, q4⟩ := ownSt_rep g1 hfr (by rw [g2]; exact hd) hres hnd hFb hst2
      have hk : rs.all (·.flat) = true ∨ Keeps w' w' (fun i => (okA (flatC as rs) C G1 i ∨ w.heap.size ≤ i) ∧ i ∉ Fb) (G2.ok C) := by
        unfold rsOk at hrs
        cases ha : rs.any (·.isOwn) with
        | true =>
          rw [ha] at hrs
          simp only [Bool.not_true, Bool.false_or, Bool.and_eq_true] at hrs
          exact .inl hrs.1
        | false =>
          cases hfl : flatC as rs with
          | true =>
            unfold flatC at hfl
            simp only [Bool.and_eq_true] at hfl
            exact .inl hfl.1
          | false =>
            right
            rw [q4 ha]
            intro u v hu hv
            refine ⟨?_, hv⟩
            rcases hu.1 with hu | hu
            · simpa [okA] using hu
            · have hsz := g1.mem.size
              refine ⟨fun hx => g1.mem.X _ hx (.inl (by omega)), fun hw => ?_⟩
              have := g1.mem.lt _ hw; omega
      obtain ⟨acc', t1, t2⟩ := resK_rep (pre := []) (acc := []) hk hres q3 (by trivial) e
      exact ⟨v, G2, st2, tupS acc', rfl, q1, q2.trans g2, by rw [hv]; exact tupS_rep (by simpa using t1), t2⟩
    · cases e
  · cases e
end
end Go.Ev

namespace Go.Ev

/-- What is told of a part of a box. -/
inductive BS where
  | val (k : K) | fix (l : Leaf)
@[reducible] def BS.T : BS → Type
  | .val k => k.T
  | .fix _ => Unit

@[reducible] def BArgs : List BS → Type
  | [] => Unit
  | p :: l => p.T × BArgs l
@[reducible] def BsArgs : List (Nat × List BS) → Type
  | [] => Unit
  | p :: l => BArgs p.2 × BsArgs l
@[reducible] def AArgs : List (Nat × K × Bool) → Type
  | [] => Unit
  | p :: l => List p.2.1.T × AArgs l

/-- What is told of a state: its size; the arrays that are given up ahead; slots, boxes, arrays. -/
structure Sp where
  n : Nat
  fz : List Nat
  env : List (Nat × SS)
  box : List (Nat × List BS)
  arr : List (Nat × K × Bool)
@[reducible] def Sp.T (p : Sp) : Type := EArgs p.env × BsArgs p.box × AArgs p.arr

def mkEnv : (l : List (Nat × SS)) → EArgs l → Tr Slot
  | [], _ => .nil
  | p :: l, x => (mkEnv l x.2).set p.1 (some (mkSS p.2 x.1))

def rdBox (st : St) : (l : List BS) → List Leaf → Option (BArgs l)
  | [], [] => some ()
  | .val k :: l, ls => match k.rd (ls.take k.sz) with
    | some x => match rdBox st l (ls.drop k.sz) with
      | some xs => some (x, xs)
      | none => none
    | none => none
  | .fix f :: l, y :: ls => bif fixLeaf st f y then (match rdBox st l ls with
      | some xs => some ((), xs)
      | none => none) else none
  | _, _ => none
def mkBox : (l : List BS) → BArgs l → List Leaf
  | [], _ => []
  | .val k :: l, x => k.lv x.1 ++ mkBox l x.2
  | .fix f :: l, x => f :: mkBox l x.2

def rdBoxs (st : St) : (l : List (Nat × List BS)) → Option (BsArgs l)
  | [] => some ()
  | p :: l => match st.box.get p.1 with
    | some ls => match rdBox st p.2 ls with
      | some x => match rdBoxs st l with
        | some xs => some (x, xs)
        | none => none
      | none => none
    | none => none
def mkBoxs : (l : List (Nat × List BS)) → BsArgs l → Tr (List Leaf)
  | [], _ => .nil
  | p :: l, x => (mkBoxs l x.2).set p.1 (some (mkBox p.2 x.1))

def rdArr1 (st : St) (id : Nat) (e : K) (dp : Bool) : Option (List e.T) :=
  match st.arr.get id with
  | some r => bif !dp || r.deep then (if h : r.e = e then some (h ▸ r.l) else none) else none
  | none => none
def rdArrs (st : St) : (l : List (Nat × K × Bool)) → Option (AArgs l)
  | [] => some ()
  | p :: l => match rdArr1 st p.1 p.2.1 p.2.2 with
    | some x => match rdArrs st l with
      | some xs => some (x, xs)
      | none => none
    | none => none
def mkArrs : (l : List (Nat × K × Bool)) → AArgs l → Tr Arr
  | [], _ => .nil
  | p :: l, x => (mkArrs l x.2).set p.1 (some ⟨p.2.1, x.1, p.2.2⟩)

def Sp.hd (p : Sp) (x : p.T) : St := ⟨p.n, mkEnv p.env x.1, mkBoxs p.box x.2.1, mkArrs p.arr x.2.2⟩

/-- Arrays that are told of and not there yet: they are empty. -/
def addArrs : List (Nat × K × Bool) → St → St
  | [], st => st
  | p :: l, st => match st.arr.get p.1 with
    | some _ => addArrs l st
    | none => addArrs l (st.newArr p.1 ⟨p.2.1, [], true⟩)

def Sp.pre (p : Sp) (st : St) : St := addArrs p.arr (frz p.fz st []).1

def pinsIn (p : Sp) (st : St) : List Nat → Bool
  | [] => true
  | j :: js => (match st.box.get (60000 + j) with
    | none => true
    | some _ => p.box.any fun q => q.1 == 60000 + j) && pinsIn p st js

def Sp.rd (p : Sp) (st0 : St) : Option p.T :=
  let st := p.pre st0
  bif st.n == p.n && pinsIn p st (List.range 16) then
    match rdEnv st p.env with
    | some x => match rdBoxs st p.box with
      | some y => match rdArrs st p.arr with
        | some z => some (x, y, z)
        | none => none
      | none => none
    | none => none
  else none

/-- Nothing else is told of. -/
def Sp.inL (p : Sp) : Leaf → Bool
  | .own i => p.arr.any fun q => q.1 == i
  | .ptr b _ => p.box.any fun q => q.1 == b
  | .ifp _ _ b _ => p.box.any fun q => q.1 == b
  | .fn _ cs => cs.all fun c => p.box.any fun q => q.1 == c.1
  | .sub .. => false
  | _ => true
def Sp.inS (p : Sp) : Slot → Bool
  | .lf l => p.inL l
  | .dead => true
  | _ => false
def SS.inP (p : Sp) : SS → Bool
  | .fix s => p.inS s
  | _ => true
def BS.inP (p : Sp) : BS → Bool
  | .fix l => p.inL l
  | _ => true
def Sp.ok (p : Sp) : Bool :=
  ((p.env.all fun q => q.2.inP p) && p.box.all fun q => q.2.all fun b => b.inP p) && (p.arr.all (fun q => Nat.blt q.1 65000) && (p.box.all (fun q => Nat.blt q.1 65000) && p.env.all (fun q => Nat.blt q.1 65000)))

section
variable {C : Cx} {G : Gh} {a : Act} {w : World} {st : St}

/-- Where what is told of lies. -/
def Gh.cut (G : Gh) (bb : Nat → Bool) (ab : Nat → Bool) : Gh :=
  ⟨fun b => if bb b then G.B b else none, fun i => if ab i then G.A i else none, fun i => if ab i then G.F i else []⟩

theorem cut_wr {bb ab : Nat → Bool} {i : Nat} (h : (G.cut bb ab).wr i) : G.wr i := by
  rcases h with ⟨b, base, hb⟩ | ⟨id, ai, base, m, h1, h2⟩
  · simp only [Gh.cut] at hb
    split at hb
    · exact Gh.wr_of_B hb
    · cases hb
  · simp only [Gh.cut] at h1
    split at h1
    · exact Gh.wr_of_A h1 h2
    · cases h1
theorem cut_keeps {bb ab : Nat → Bool} : Keeps w w (G.ok C) ((G.cut bb ab).ok C) := Keeps.mono w fun i hi => ⟨hi.1, fun hc => hi.2 (cut_wr hc)⟩

theorem MemR.cut {box box' : Tr (List Leaf)} {arr arr' : Tr Arr} (h : MemR C G box arr w) {bb ab : Nat → Bool}
    (hb1 : ∀ b, bb b = true → ∃ ls, box'.get b = some ls) (hb2 : ∀ b ls', box'.get b = some ls' → bb b = true ∧ ∃ ls, box.get b = some ls ∧ ∀ vs, RepLeafs w (G.ok C) G ls vs → RepLeafs w ((G.cut bb ab).ok C) (G.cut bb ab) ls' vs)
    (ha1 : ∀ i, ab i = true → ∃ r, arr'.get i = some r) (ha2 : ∀ i r', arr'.get i = some r' → ab i = true ∧ ∃ r, arr.get i = some r ∧ ∃ dp, r' = ⟨r.e, r.l, dp⟩ ∧ (dp = true → r.deep = true)) (hp : ∀ b p, C.pin b = some p → bb b = true) :
    MemR C (G.cut bb ab) box' arr' w := by
  have hB : ∀ {b p}, (G.cut bb ab).B b = some p → bb b = true ∧ G.B b = some p := fun {b p} h => by
    simp only [Gh.cut] at h; split at h
    · rename_i hb; exact ⟨hb, h⟩
    · cases h
  have hA : ∀ {b p}, (G.cut bb ab).A b = some p → ab b = true ∧ G.A b = some p := fun {b p} h => by
    simp only [Gh.cut] at h; split at h
    · rename_i hb; exact ⟨hb, h⟩
    · cases h
  have hin : ∀ {i b}, b ∈ (G.cut bb ab).inner i → b ∈ G.inner i := fun {i b} h => by
    simp only [Gh.inner, Gh.cut] at h; split at h
    · exact h
    · simp at h
  have hlen : ∀ b ls', box'.get b = some ls' → ∀ ls, box.get b = some ls → ls'.length = ls.length := fun b ls' h1 ls h2 => by
    obtain ⟨_, ls0, h3, h4⟩ := hb2 b ls' h1
    rw [h2] at h3; cases h3
    obtain ⟨_, _, _, hat⟩ := h.boxR b ls h2
    obtain ⟨vs, h5, _⟩ := hat.vs
    rw [h5.length, (h4 vs h5).length]
  refine ⟨fun b p hb => hb1 b (hB hb).1, fun i ai hi => ha1 i (hA hi).1, fun b ls' hb => ?_, fun i r' hi => ?_, fun i hi => h.lt i (cut_wr hi), fun b b' ls ls' blk base base' hne h1 h2 h3 h4 => ?_,
    fun i j ai aj blk base m base' m' hne h1 h2 => h.aa i j ai aj blk base m base' m' hne (hA h1).2 (hA h2).2, fun b i ai blk base base' m h1 h2 => h.ab b i ai blk base base' m (hB h1).2 (hA h2).2, fun i r' ai hi hAi hd => ?_,
    fun i => ?_, fun i j hne b h1 h2 => h.fdj i j hne b (hin h1) (hin h2), fun i b hb => ?_, h.X, h.size, fun i ai hi => h.ia i ai (hA hi).2, fun b p hb => h.ib b p (hB hb).2, fun b p hb => ?_⟩
  · obtain ⟨h1, ls, h2, h3⟩ := hb2 b ls' hb
    obtain ⟨blk, base, h4, hat⟩ := h.boxR b ls h2
    have hl := hlen b ls' hb ls h2
    refine ⟨blk, base, by simp only [Gh.cut]; rw [if_pos h1]; exact h4, fun i hi => hat.wr i (by omega), fun i hi => hat.fz i (by omega), ?_⟩
    obtain ⟨vs, h5, h6⟩ := hat.vs
    exact ⟨vs, h3 vs h5, h6⟩
  · obtain ⟨h1, r, h2, dp, rfl, _⟩ := ha2 i r' hi
    obtain ⟨ai, h4, ha⟩ := h.arrR i r h2
    refine ⟨ai, by simp only [Gh.cut]; rw [if_pos h1]; exact h4, ?_⟩
    exact ⟨ha.sz, ha.n, ha.nil, ha.may, ha.wr, ha.le, ha.there, fun blk base m hl j hj => by
      obtain ⟨cs, q1, q2⟩ := ha.el blk base m hl j hj
      exact ⟨cs, q1.trans cut_keeps, q2⟩⟩
  · obtain ⟨_, l1, g1, _⟩ := hb2 b ls h1
    obtain ⟨_, l2, g2, _⟩ := hb2 b' ls' h2
    rw [hlen b ls h1 l1 g1, hlen b' ls' h2 l2 g2]
    exact h.bb b b' l1 l2 blk base base' hne g1 g2 (hB h3).2 (hB h4).2
  · obtain ⟨h1, r, h2, dp, rfl, h3⟩ := ha2 i r' hi
    have := h.own i r ai h2 (hA hAi).2 (h3 hd)
    have hF : (G.cut bb ab).F i = G.F i := by simp only [Gh.cut]; rw [if_pos h1]
    rw [hF]
    exact ⟨this.new, this.len, this.el⟩
  · simp only [Gh.inner, Gh.cut]
    split
    · exact h.fnd i
    · simp
  · obtain ⟨q1, q2, q3⟩ := h.fwr i b (hin hb)
    exact ⟨q1, q2, fun hc => q3 (cut_wr hc)⟩
  · have := h.pin b p hb
    exact ⟨by simp only [Gh.cut]; rw [if_pos (hp b p hb)]; exact this.1, this.2⟩
end
end Go.Ev

namespace Go.Ev

section
variable {P : Program} {C : Cx} {G : Gh} {a : Act} {w : World} {st : St}

theorem addArrs_rep : ∀ {l : List (Nat × K × Bool)} {G : Gh} {st : St}, l.all (fun q => Nat.blt q.1 65000) = true → Rel C G st a w → ∃ G', Rel C G' (addArrs l st) a w ∧ (addArrs l st).n = st.n
  | [], G, st, _, h => ⟨G, h, rfl⟩
  | p :: l, G, st, hl, h => by
    simp only [List.all_cons, Bool.and_eq_true] at hl
    have hid : p.1 < 65000 := Nat.le_of_ble_eq_true hl.1
    unfold addArrs
    cases hr : st.arr.get p.1 with
    | some r => exact addArrs_rep hl.2 h
    | none =>
      have hA : G.A p.1 = none := by
        cases hq : G.A p.1 with
        | none => rfl
        | some ai => obtain ⟨r, h1⟩ := h.mem.adom _ ai hq; rw [hr] at h1; cases h1
      obtain ⟨h1, _, _⟩ := h.set_arr (w' := w) hid (a' := ⟨p.2.1, [], true⟩) (ai' := ⟨p.2.1.sz, 0, none⟩) (F' := []) (fun ai hai => by rw [hA] at hai; cases hai) (Nat.le_refl _) (fun x v _ hc => ⟨hc, rfl⟩) (fun _ _ _ hl => by cases hl)
        (fun H => ⟨rfl, rfl, fun _ => rfl, fun _ _ _ hl => (by cases hl), fun _ _ _ hl => (by cases hl), fun _ _ _ hl => (by cases hl), fun _ _ _ hl => (by cases hl), fun _ _ _ hl => (by cases hl)⟩)
        (fun _ => ⟨fun _ _ _ hl => (by cases hl), rfl, fun _ _ _ hl => (by cases hl)⟩) (by simp) (fun b hb => by simp at hb) h.fr
      obtain ⟨G', h2, h3⟩ := addArrs_rep hl.2 h1
      exact ⟨G', h2, h3⟩

theorem inL_rep {p : Sp} {l : Leaf} {v : Value} {ok' : Nat → Prop} (hin : p.inL l = true) (hf : ∀ e x b, l ≠ .sl e x b) (h : RepLeaf w (G.ok C) G l v) :
    RepLeaf w ok' (G.cut (fun b => p.box.any fun q => q.1 == b) (fun i => p.arr.any fun q => q.1 == i)) l v := by
  cases l with
  | sl e x b => exact absurd rfl (hf e x b)
  | own i =>
    simp only [Sp.inL] at hin
    obtain ⟨ai, x, c, h1, h2⟩ := h
    exact ⟨ai, x, c, by simp only [Gh.cut]; rw [if_pos hin]; exact h1, h2⟩
  | sub i o n => cases hin
  | ptr b o =>
    simp only [Sp.inL] at hin
    obtain ⟨blk, base, h1, h2⟩ := h
    exact ⟨blk, base, by simp only [Gh.cut]; rw [if_pos hin]; exact h1, h2⟩
  | fn f cs =>
    obtain ⟨vs, h1, h2⟩ := h
    refine ⟨vs, h1, ?_⟩
    simp only [Sp.inL] at hin
    clear h1
    induction cs generalizing vs with
    | nil => cases vs with
      | nil => trivial
      | cons _ _ => exact h2.elim
    | cons c cs ih => cases vs with
      | nil => exact h2.elim
      | cons v vs =>
        simp only [List.all_cons, Bool.and_eq_true] at hin
        obtain ⟨blk, base, g1, g2⟩ := h2.1
        exact ⟨⟨blk, base, by simp only [Gh.cut]; rw [if_pos hin.1]; exact g1, g2⟩, ih hin.2 (by intros; simp) vs h2.2⟩
  | ifp t g b o =>
    simp only [Sp.inL] at hin
    obtain ⟨x, ⟨blk, base, h1, h2⟩, h3⟩ := h
    exact ⟨x, ⟨blk, base, by simp only [Gh.cut]; rw [if_pos hin]; exact h1, h2⟩, h3⟩
  | int | bool | str | nil | nilp | nilf | nili | ifx | dead => exact h

theorem rdBox_rep (h : Rel C G st a w) {p : Sp} : ∀ {l : List BS} {ls : List Leaf} {vs : List Value} {x : BArgs l}, (l.all fun b => b.inP p) = true → rdBox st l ls = some x → RepLeafs w (G.ok C) G ls vs →
    RepLeafs w ((G.cut (fun b => p.box.any fun q => q.1 == b) (fun i => p.arr.any fun q => q.1 == i)).ok C) (G.cut (fun b => p.box.any fun q => q.1 == b) (fun i => p.arr.any fun q => q.1 == i)) (mkBox l x) vs
  | [], [], [], x, _, e, hr => trivial
  | .val k :: l, ls, vs, x, hin, e, hr => by
    simp only [List.all_cons, Bool.and_eq_true] at hin
    simp only [rdBox] at e
    split at e
    · rename_i y hy
      split at e
      · rename_i ys h2
        cases e
        have h3 := rdBox_rep h hin.2 h2 (hr.drop k.sz)
        have h4 : RepT w ((G.cut (fun b => p.box.any fun q => q.1 == b) (fun i => p.arr.any fun q => q.1 == i)).ok C) k y (vs.take k.sz) := ((hr.take k.sz).rd hy).trans cut_keeps
        have := h4.lv (G := G.cut (fun b => p.box.any fun q => q.1 == b) (fun i => p.arr.any fun q => q.1 == i)) |>.append h3
        rwa [List.take_append_drop] at this
      · cases e
    · cases e
  | .fix f :: l, y :: ls, v :: vs, x, hin, e, hr => by
    simp only [List.all_cons, Bool.and_eq_true] at hin
    simp only [rdBox] at e
    cases hfx : fixLeaf st f y
    · rw [hfx] at e; cases e
    · rw [hfx] at e
      simp only [cond_true] at e
      split at e
      · rename_i ys h2
        cases e
        exact ⟨inL_rep hin.1 (fixLeaf_no_sl hfx) (fixLeaf_rep h hr.1 hfx), rdBox_rep h hin.2 h2 hr.2⟩
      · cases e
  | [], _ :: _, _, _, _, e, _ | .fix _ :: _, [], _, _, _, e, _ => by simp [rdBox] at e
  | [], [], _ :: _, _, _, _, hr => hr.elim
  | .fix _ :: _, _ :: _, [], _, _, _, hr => hr.elim

theorem rdSS_rep (h : Rel C G st a w) {p : Sp} {s : SS} {sl : Slot} {v : Value} {x : s.T} (hin : s.inP p = true) (hs : RepSlot w (G.ok C) G sl v) (e : rdSS st s sl = some x) :
    RepSlot w ((G.cut (fun b => p.box.any fun q => q.1 == b) (fun i => p.arr.any fun q => q.1 == i)).ok C) (G.cut (fun b => p.box.any fun q => q.1 == b) (fun i => p.arr.any fun q => q.1 == i)) (mkSS s x) v := by
  cases s with
  | val g k =>
    simp only [rdSS] at e
    cases hg : (sl.isAg == g)
    · rw [hg] at e; cases e
    · rw [hg] at e
      simp only [cond_true] at e
      have hg' : sl.isAg = g := by simpa using hg
      have hne : sl.leafs ≠ [] := fun hc => by rw [hc, K.rd_nil] at e; cases e
      have hr := rep_agg hs hne ((leafs_rep' hs hne).rd e)
      rw [hg'] at hr
      exact mkS_rep (hr.trans cut_keeps)
  | rp k =>
    simp only [rdSS] at e
    split at e
    · rename_i ls
      obtain ⟨ad, h3, h4, cs, h5, h6⟩ := hs
      have hrt := (h5.take k.sz).rd e
      have hne : ls ≠ [] := fun hc => by rw [hc, List.take_nil, K.rd_nil] at e; cases e
      have hl := h5.length
      have hpos : 0 < cs.length := by rw [← hl]; exact List.length_pos_iff.2 hne
      have h0 := h6 0 _ (List.getElem?_eq_getElem hpos)
      refine ⟨ad, h3, fun _ => ?_, cs.take k.sz, (hrt.trans cut_keeps).lv, fun j c hj => h6 j c ?_⟩
      · have := (cut_keeps (w := w) (C := C) (G := G) (bb := fun b => p.box.any fun q => q.1 == b) (ab := fun i => p.arr.any fun q => q.1 == i) _ _ (by rw [addr_add_block]; exact h4 hne) h0).1
        rwa [addr_add_block] at this
      · rw [List.getElem?_take] at hj; split at hj
        · exact hj
        · cases hj
    · cases e
  | fix f =>
    simp only [rdSS] at e
    cases hfx : fixSlot st f sl
    · rw [hfx] at e; cases e
    · unfold fixSlot at hfx
      split at hfx
      · rename_i l l'
        exact inL_rep hin (fixLeaf_no_sl hfx) (fixLeaf_rep h hs hfx)
      · trivial
      · cases hfx

theorem mkEnv_get : ∀ {l : List (Nat × SS)} {x : EArgs l} {t : Nat} {s' : Slot}, l.all (fun q => Nat.blt q.1 65000) = true → rdEnv st l = some x → (mkEnv l x).get t = some s' → ∃ q ∈ l, ∃ sl y, q.1 = t ∧ st.env.get t = some sl ∧ rdSS st q.2 sl = some y ∧ s' = mkSS q.2 y
  | [], x, t, s', _, _, e => by simp [mkEnv, Tr.get] at e
  | p :: l, x, t, s', hl, hr, e => by
    simp only [List.all_cons, Bool.and_eq_true] at hl
    simp only [rdEnv] at hr
    split at hr
    · rename_i sl hsl
      split at hr
      · rename_i y hy
        split at hr
        · rename_i ys h2
          cases hr
          simp only [mkEnv] at e
          by_cases et : t = p.1
          · subst et
            rw [Tr.get_set_same _ _ (Nat.le_of_ble_eq_true hl.1)] at e; cases e
            exact ⟨p, by simp, sl, y, rfl, hsl, hy, rfl⟩
          · rw [Tr.get_set_ne _ _ et] at e
            obtain ⟨q, h3, h4⟩ := mkEnv_get hl.2 h2 e
            exact ⟨q, by simp [h3], h4⟩
        · cases hr
      · cases hr
    · cases hr
theorem mkBoxs_get : ∀ {l : List (Nat × List BS)} {x : BsArgs l} {t : Nat} {s' : List Leaf}, l.all (fun q => Nat.blt q.1 65000) = true → rdBoxs st l = some x → (mkBoxs l x).get t = some s' → ∃ q ∈ l, ∃ sl y, q.1 = t ∧ st.box.get t = some sl ∧ rdBox st q.2 sl = some y ∧ s' = mkBox q.2 y
  | [], x, t, s', _, _, e => by simp [mkBoxs, Tr.get] at e
  | p :: l, x, t, s', hl, hr, e => by
    simp only [List.all_cons, Bool.and_eq_true] at hl
    simp only [rdBoxs] at hr
    split at hr
    · rename_i sl hsl
      split at hr
      · rename_i y hy
        split at hr
        · rename_i ys h2
          cases hr
          simp only [mkBoxs] at e
          by_cases et : t = p.1
          · subst et
            rw [Tr.get_set_same _ _ (Nat.le_of_ble_eq_true hl.1)] at e; cases e
            exact ⟨p, by simp, sl, y, rfl, hsl, hy, rfl⟩
          · rw [Tr.get_set_ne _ _ et] at e
            obtain ⟨q, h3, h4⟩ := mkBoxs_get hl.2 h2 e
            exact ⟨q, by simp [h3], h4⟩
        · cases hr
      · cases hr
    · cases hr
theorem mkArrs_get : ∀ {l : List (Nat × K × Bool)} {x : AArgs l} {t : Nat} {s' : Arr}, l.all (fun q => Nat.blt q.1 65000) = true → rdArrs st l = some x → (mkArrs l x).get t = some s' → ∃ q ∈ l, q.1 = t ∧ ∃ r, st.arr.get t = some r ∧ ∃ dp, s' = ⟨r.e, r.l, dp⟩ ∧ (dp = true → r.deep = true)
  | [], x, t, s', _, _, e => by simp [mkArrs, Tr.get] at e
  | p :: l, x, t, s', hl, hr, e => by
    simp only [List.all_cons, Bool.and_eq_true] at hl
    simp only [rdArrs] at hr
    split at hr
    · rename_i y hy
      split at hr
      · rename_i ys h2
        cases hr
        simp only [mkArrs] at e
        by_cases et : t = p.1
        · subst et
          rw [Tr.get_set_same _ _ (Nat.le_of_ble_eq_true hl.1)] at e; cases e
          refine ⟨p, by simp, rfl, ?_⟩
          unfold rdArr1 at hy
          split at hy
          · rename_i r hr
            cases hd : (!p.2.2 || r.deep)
            · rw [hd] at hy; cases hy
            · rw [hd] at hy
              simp only [cond_true] at hy
              split at hy
              · rename_i he
                refine ⟨r, hr, p.2.2, ?_, fun hpt => by rw [hpt] at hd; simpa using hd⟩
                obtain ⟨re, rl, rdp⟩ := r
                simp only at he
                have hy' := Option.some.inj hy
                simp only at hy'
                generalize p.2.1 = k at *
                subst he
                subst hy'
                rfl
              · cases hy
          · cases hy
        · rw [Tr.get_set_ne _ _ et] at e
          obtain ⟨q, h3, h4⟩ := mkArrs_get hl.2 h2 e
          exact ⟨q, by simp [h3], h4⟩
      · cases hr
    · cases hr

theorem mkBoxs_all : ∀ {l : List (Nat × List BS)} {x : BsArgs l} {t : Nat}, l.all (fun q => Nat.blt q.1 65000) = true → (l.any fun q => q.1 == t) = true → ∃ ls, (mkBoxs l x).get t = some ls
  | [], _, _, _, h => by simp at h
  | p :: l, x, t, hl, h => by
    simp only [List.all_cons, Bool.and_eq_true] at hl
    simp only [mkBoxs]
    by_cases et : t = p.1
    · subst et; exact ⟨_, Tr.get_set_same _ _ (Nat.le_of_ble_eq_true hl.1)⟩
    · simp only [List.any_cons, Bool.or_eq_true, beq_iff_eq] at h
      obtain ⟨ls, h1⟩ := mkBoxs_all (x := x.2) hl.2 (h.resolve_left fun hc => et hc.symm)
      exact ⟨ls, by rw [Tr.get_set_ne _ _ et]; exact h1⟩
theorem mkArrs_all : ∀ {l : List (Nat × K × Bool)} {x : AArgs l} {t : Nat}, l.all (fun q => Nat.blt q.1 65000) = true → (l.any fun q => q.1 == t) = true → ∃ ls, (mkArrs l x).get t = some ls
  | [], _, _, _, h => by simp at h
  | p :: l, x, t, hl, h => by
    simp only [List.all_cons, Bool.and_eq_true] at hl
    simp only [mkArrs]
    by_cases et : t = p.1
    · subst et; exact ⟨_, Tr.get_set_same _ _ (Nat.le_of_ble_eq_true hl.1)⟩
    · simp only [List.any_cons, Bool.or_eq_true, beq_iff_eq] at h
      obtain ⟨ls, h1⟩ := mkArrs_all (x := x.2) hl.2 (h.resolve_left fun hc => et hc.symm)
      exact ⟨ls, by rw [Tr.get_set_ne _ _ et]; exact h1⟩

theorem pinsIn_spec {p : Sp} : ∀ {js : List Nat}, pinsIn p st js = true → ∀ j ∈ js, ∀ ls, st.box.get (60000 + j) = some ls → (p.box.any fun q => q.1 == 60000 + j) = true
  | [], _, j, hj, _, _ => by simp at hj
  | i :: js, h, j, hj, ls, hls => by
    simp only [pinsIn, Bool.and_eq_true] at h
    rcases List.mem_cons.1 hj with rfl | hj
    · rw [hls] at h; exact h.1
    · exact pinsIn_spec h.2 j hj ls hls

/-- THE LAW. -/
theorem Sp.rd_rep {p : Sp} (hok : p.ok = true) (h : Rel C G st a w) {x : p.T} (e : p.rd st = some x) : ∃ G', Rel C G' (p.hd x) a w ∧ p.n = st.n := by
  unfold Sp.ok at hok
  simp only [Bool.and_eq_true] at hok
  obtain ⟨⟨k1, k2⟩, k3, k4, k5⟩ := hok
  obtain ⟨G1, g1, g2, _⟩ := frz_rep (ids := p.fz) h (ss := []) (vals := []) trivial
  obtain ⟨G2, g3, g4⟩ := addArrs_rep k3 g1
  have hpre : p.pre st = addArrs p.arr (frz p.fz st []).1 := rfl
  rw [← hpre] at g3 g4
  have hn : (p.pre st).n = st.n := g4.trans g2
  unfold Sp.rd at e
  simp only at e
  cases hc : ((p.pre st).n == p.n && pinsIn p (p.pre st) (List.range 16))
  · rw [hc] at e; cases e
  · rw [hc] at e
    simp only [cond_true] at e
    simp only [Bool.and_eq_true, beq_iff_eq] at hc
    split at e
    · rename_i xe hxe
      split at e
      · rename_i xb hxb
        split at e
        · rename_i xa hxa
          cases e
          refine ⟨G2.cut (fun b => p.box.any fun q => q.1 == b) (fun i => p.arr.any fun q => q.1 == i), ⟨?_, ?_, g3.dfr, fun t s ht => ?_, ?_, g3.fr⟩, by rw [← hc.1, hn]⟩
          · exact g3.size.trans hc.1
          · have := g3.n; rw [hc.1] at this; exact this
          · obtain ⟨q, hq, sl, y, rfl, h1, h2, rfl⟩ := mkEnv_get k5 hxe ht
            obtain ⟨hlt, hs⟩ := g3.env _ _ h1
            exact ⟨by show q.1 < p.n; rw [← hc.1]; exact hlt, rdSS_rep g3 (List.all_eq_true.1 k1 q hq) hs h2⟩
          · refine g3.mem.cut (fun b hb => mkBoxs_all k4 hb) (fun b ls' hb => ?_) (fun i hi => mkArrs_all k3 hi) (fun i r' hi => ?_) (fun b q hb => ?_)
            · obtain ⟨q, hq, sl, y, rfl, h1, h2, rfl⟩ := mkBoxs_get k4 hxb hb
              exact ⟨List.any_eq_true.2 ⟨q, hq, by simp⟩, sl, h1, fun vs hvs => rdBox_rep g3 (List.all_eq_true.1 k2 q hq) h2 hvs⟩
            · obtain ⟨q, hq, rfl, h1⟩ := mkArrs_get k3 hxa hi
              exact ⟨List.any_eq_true.2 ⟨q, hq, by simp⟩, h1⟩
            · obtain ⟨h1, h2, h3⟩ := g3.mem.pin b q hb
              obtain ⟨ls, hls⟩ := g3.mem.bdom b q h1
              have := pinsIn_spec hc.2 (b - 60000) (by simp; omega) ls (by rw [show 60000 + (b - 60000) = b by omega]; exact hls)
              rwa [show 60000 + (b - 60000) = b by omega] at this
        · cases e
      · cases e
    · cases e
end
end Go.Ev

namespace Go.Ev

/-- How a loop may end, and what is told of the state then. -/
@[reducible] def XT : List (Ex × Sp) → Type
  | [] => Empty
  | [p] => p.2.T
  | p :: q :: l => p.2.T ⊕ XT (q :: l)

def exEq : Ex → Ex → Bool
  | .normal, .normal | .ret, .ret => true
  | .exit i, .exit j => i == j
  | _, _ => false

def toX : (l : List (Ex × Sp)) → Ex → St → Option (XT l)
  | [], _, _ => none
  | [p], e, st => bif exEq p.1 e then p.2.rd st else none
  | p :: q :: l, e, st =>
    bif exEq p.1 e then (match p.2.rd st with | some x => some (.inl x) | none => none)
    else match toX (q :: l) e st with
      | some x => some (.inr x)
      | none => none
def ofX {R : Type} : (l : List (Ex × Sp)) → XT l → (Ex → St → Option R) → Option R
  | [], x, _ => nomatch x
  | [p], x, K => K p.1 (p.2.hd x)
  | p :: q :: l, x, K => match x with
    | .inl y => K p.1 (p.2.hd y)
    | .inr z => ofX (q :: l) z K

def rdK (sp : Sp) (xs : List (Ex × Sp)) : Ex → St → Option (sp.T ⊕ XT xs)
  | .normal, st => match sp.rd st with
    | some x => some (.inl x)
    | none => none
  | e, st => match toX xs e st with
    | some x => some (.inr x)
    | none => none

def itr {A B : Type} (step : A → Option (A ⊕ B)) : Nat → A → Option B
  | 0, _ => none
  | m + 1, x => match step x with
    | some (.inl x') => itr step m x'
    | some (.inr y) => some y
    | none => none

def loopL (sp : Sp) (xs : List (Ex × Sp)) (l : sp.T → Option (XT xs)) : LSum := fun st R K =>
  match sp.rd st with
  | some x => (l x).bind fun y => ofX xs y K
  | none => none

section
variable {P : Program} {C : Cx} {G : Gh} {a : Act} {w : World} {st : St}

theorem exEq_spec {e e' : Ex} (h : exEq e e' = true) : e = e' := by
  unfold exEq at h
  split at h
  · rfl
  · rfl
  · have : _ = _ := beq_iff_eq.1 h
    rw [this]
  · cases h

theorem ofX_rep {R : Type} {K : Ex → St → Option R} {r : R} (h : Rel C G st a w) : ∀ {l : List (Ex × Sp)} {e : Ex} {y : XT l}, l.all (·.2.ok) = true → toX l e st = some y → ofX l y K = some r → ∃ G' st', Rel C G' st' a w ∧ st'.n = st.n ∧ K e st' = some r
  | [], e, y, _, h1, _ => by simp [toX] at h1
  | [p], e, y, hok, h1, h2 => by
    simp only [List.all_cons, List.all_nil, Bool.and_true] at hok
    simp only [toX] at h1
    cases hq : exEq p.1 e
    · rw [hq] at h1; cases h1
    · rw [hq] at h1
      have := exEq_spec hq
      subst this
      obtain ⟨G', g1, g2⟩ := Sp.rd_rep hok h h1
      exact ⟨G', _, g1, g2, h2⟩
  | p :: q :: l, e, y, hok, h1, h2 => by
    rw [List.all_cons, Bool.and_eq_true] at hok
    simp only [toX] at h1
    cases hq : exEq p.1 e
    · rw [hq] at h1
      simp only [cond_false] at h1
      split at h1
      · rename_i x hx
        cases h1
        exact ofX_rep h hok.2 hx h2
      · cases h1
    · rw [hq] at h1
      simp only [cond_true] at h1
      have := exEq_spec hq
      subst this
      split at h1
      · rename_i x hx
        cases h1
        obtain ⟨G', g1, g2⟩ := Sp.rd_rep hok.1 h hx
        exact ⟨G', _, g1, g2, h2⟩
      · cases h1

/-- THE LAW OF LOOPS. -/
theorem loop_ok {ty : Ty} (hty : TyOk P ty) (hm : P.follows .mixedOrders = true) {Γ : FuncId → Option SumX} (hΓ : GOk P Γ) {J : Nat → Option (List (Nat × SS))} {Λ : Nat → Option LSum} {b : Code} {sp : Sp} {xs : List (Ex × Sp)} (hsp : sp.ok = true) (hxs : xs.all (·.2.ok) = true)
    (hΛ : ∀ c ∈ loops b, ∀ L, (firstRegion c).bind Λ = some L → LSumOk P c L) {step : sp.T → Option (sp.T ⊕ XT xs)} (hstep : ∀ x, evCode ty Γ J Λ b (sp.hd x) (rdK sp xs) = step x)
    {l : sp.T → Option (XT xs)} (hl : ∀ x y, l x = some y → ∃ m, itr step m x = some y) : LSumOk P b (loopL sp xs l) := by
  intro C G st a w R K r Q h hK e
  unfold loopL at e
  split at e
  · rename_i x hx
    obtain ⟨y, hy, e⟩ := Option.bind_eq_some_iff.1 e
    obtain ⟨m, hmm⟩ := hl x y hy
    obtain ⟨G0, g0, hn⟩ := Sp.rd_rep hsp h hx
    refine wp_loop_rounds m ?_
    clear hy hx
    have key : ∀ (m : Nat) (x : sp.T) (G : Gh) (a : Act) (w : World), Rel C G (sp.hd x) a w → itr step m x = some y → Code.rounds P b Q m a w := by
      intro m
      induction m with
      | zero => intro x G a w _ h2; simp [itr] at h2
      | succ m ih =>
        intro x G a w h1 h2
        rw [rounds_succ]
        unfold itr at h2
        have hst := hstep x
        cases hs : step x with
        | none => rw [hs] at h2; cases h2
        | some s =>
          rw [hs] at h2 hst
          refine ok_code hty hm hΓ hΛ h1 (fun ex G' st' a' w' k1 k2 k3 => ?_) hst
          cases s with
          | inl x' =>
            simp only at h2
            cases ex with
            | normal =>
              simp only [rdK] at k3
              split at k3
              · rename_i x2 hx2
                simp only [Option.some.injEq, Sum.inl.injEq] at k3
                subst k3
                obtain ⟨G2, q1, q2⟩ := Sp.rd_rep hsp k1 hx2
                exact ih x2 G2 a' w' q1 h2
              · cases k3
            | exit i => simp only [rdK] at k3; split at k3 <;> cases k3
            | ret => simp only [rdK] at k3; split at k3 <;> cases k3
          | inr y' =>
            simp only [Option.some.injEq] at h2
            subst h2
            have fin : ∀ ex, toX xs ex st' = some y' → Q ex.exit' a' w' := fun ex ht => by
              obtain ⟨G2, st2, q1, q2, q3⟩ := ofX_rep k1 hxs ht e
              exact hK ex G2 st2 a' w' q1 (by rw [q2, k2]; exact hn) q3
            cases ex with
            | normal => simp only [rdK] at k3; split at k3 <;> cases k3
            | exit i =>
              simp only [rdK] at k3
              split at k3
              · rename_i x2 hx2
                simp only [Option.some.injEq, Sum.inr.injEq] at k3
                subst k3
                exact fin (.exit i) hx2
              · cases k3
            | ret =>
              simp only [rdK] at k3
              split at k3
              · rename_i x2 hx2
                simp only [Option.some.injEq, Sum.inr.injEq] at k3
                subst k3
                exact fin .ret hx2
              · cases k3
    exact key m x G0 a w g0 hmm
  · cases e

/-- Fuel by hand. -/
theorem itr_fuel {A B : Type} {step : A → Option (A ⊕ B)} {fuel : A → Nat} : ∀ x y, (fun x => itr step (fuel x) x) x = some y → ∃ m, itr step m x = some y := fun x y h => ⟨fuel x, h⟩

/-- The loop of a code whose first region is this one. -/
def loopAt (c : Code) (id : Nat) : Code := ((loops c).find? fun b => firstRegion b == some id).getD .skip

/-- A table of loops. -/
def lamOf : List (Nat × LSum) → Nat → Option LSum
  | [], _ => none
  | p :: l, i => bif p.1 == i then some p.2 else lamOf l i

def distinct : List (Option Nat) → Bool
  | [] => true
  | x :: l => !l.any (fun y => x == y) && distinct l

theorem find_uniq : ∀ {l : List Code} {b : Code} {id : Nat}, distinct (l.map firstRegion) = true → b ∈ l → firstRegion b = some id → (l.find? fun b => firstRegion b == some id) = some b
  | [], _, _, _, h, _ => by simp at h
  | c :: l, b, id, hd, hb, hf => by
    simp only [List.map_cons, distinct, Bool.and_eq_true] at hd
    rcases List.mem_cons.1 hb with rfl | hb
    · simp [hf]
    · have hne : ¬ (firstRegion c == some id) = true := fun hc => by
        have h1 := hd.1
        simp only [Bool.not_eq_true', List.any_eq_false] at h1
        have := h1 (firstRegion b) (List.mem_map.2 ⟨b, hb, rfl⟩)
        rw [hf] at this
        exact this hc
      rw [List.find?_cons, Bool.eq_false_iff.2 hne]
      exact find_uniq hd.2 hb hf

theorem lam_ok {c : Code} {tab : List (Nat × LSum)} (hd : distinct ((loops c).map firstRegion) = true) (h : ∀ p ∈ tab, LSumOk P (loopAt c p.1) p.2) :
    ∀ b ∈ loops c, ∀ L, (firstRegion b).bind (lamOf tab) = some L → LSumOk P b L := fun b hb L hL => by
  obtain ⟨id, h1, h2⟩ := Option.bind_eq_some_iff.1 hL
  have hat : loopAt c id = b := by unfold loopAt; rw [find_uniq hd hb h1]; rfl
  have hmem : ∀ {t : List (Nat × LSum)}, lamOf t id = some L → (id, L) ∈ t := by
    intro t
    induction t with
    | nil => intro h; cases h
    | cons p t ih =>
      intro h
      unfold lamOf at h
      cases hp : (p.1 == id)
      · rw [hp] at h; exact List.mem_cons_of_mem _ (ih h)
      · rw [hp] at h
        have : p.1 = id := by simpa using hp
        cases h
        rw [← this]
        exact List.mem_cons_self ..
  rw [← hat]
  exact @h (id, L) (hmem h2)

/-- A table of functions. -/
def gamOf : List (FuncId × SumX) → FuncId → Option SumX
  | [], _ => none
  | p :: l, i => bif p.1 == i then some p.2 else gamOf l i
theorem gam_ok : ∀ {tab : List (FuncId × SumX)}, (∀ p ∈ tab, SumOk P p.1 p.2.g ∧ (p.2.calm = true → CalmSum p.2.g)) → GOk P (gamOf tab)
  | [], _, _, _, h => by cases h
  | p :: l, hall, f, g, h => by
    unfold gamOf at h
    cases hp : (p.1 == f)
    · rw [hp] at h; exact gam_ok (fun q hq => hall q (List.mem_cons_of_mem _ hq)) f g h
    · rw [hp] at h
      have : p.1 = f := by simpa using hp
      cases h
      rw [← this]
      exact hall p (List.mem_cons_self ..)
end
end Go.Ev

namespace Go.Ev

def sumP (as : List AS) (rs : List RS) (F : Args as → Option (Outs as × Ress rs)) : Sum := fun st args d R k =>
  bif flatC as rs || (args.flatMap Slot.owns).isEmpty then
    match takeA (flatC as rs) st as args with
    | some x => (F x).bind fun oy => resK d rs oy.2 0 [] fun acc => k st (tupS acc)
    | none => none
  else none

section
variable {P : Program} {st : St}

theorem ownSt_none {d : Nat} : ∀ {rs : List RS} {y : Ress rs} {i : Nat}, rs.any (·.isOwn) = false → ownSt d rs y i st = some st
  | [], _, _, _ => rfl
  | .val _ _ :: rs, y, i, h => by simp only [List.any_cons, Bool.or_eq_false_iff] at h; exact ownSt_none (rs := rs) h.2
  | .err :: rs, y, i, h => by simp only [List.any_cons, Bool.or_eq_false_iff] at h; exact ownSt_none (rs := rs) h.2
  | .own _ :: rs, y, i, h => by simp [RS.isOwn] at h

theorem sumP_ok {f : FuncId} {as : List AS} {rs : List RS} {F : Args as → Option (Outs as × Ress rs)} (hc : FnC P f as rs F) (hnw : as.all (·.noWp) = true) (hown : rs.any (·.isOwn) = false) : SumOk P f (sumP as rs F) := by
  have hv := sumV_ok hc hnw (by simp [rsOk, hown])
  refine ⟨hv.1, fun {C G st a w args vals d R k r} h hd hs e => hv.2 h hd hs ?_⟩
  unfold sumP at e
  unfold sumV
  cases hfl : flatC as rs with
  | true =>
    rw [hfl] at e
    simp only [Bool.true_or, cond_true] at e ⊢
    split at e
    · rename_i x hx
      (try rw [hx])
      simp only [ownSt_none hown]
      exact e
    · cases e
  | false =>
    rw [hfl] at e
    simp only [Bool.false_or, cond_false] at e ⊢
    cases he : (args.flatMap Slot.owns).isEmpty
    · rw [he] at e; cases e
    · rw [he] at e
      simp only [cond_true] at e
      have : args.flatMap Slot.owns = [] := List.isEmpty_iff.1 he
      rw [this]
      simp only [frz]
      split at e
      · rename_i x hx
        (try rw [hx])
        simp only [ownSt_none hown]
        exact e
      · cases e

theorem rdS_ext {st st' : St} (hx : st.Ext st') : ∀ {k : K} {ls : List Leaf} {x : k.T}, k.rdS st ls = some x → k.rdS st' ls = some x
  | .int _, _, _, h | .bool, _, _, h | .str, _, _, h => h
  | .sl e, ls, x, h => by
    simp only [K.rdS] at h ⊢
    split at h
    · exact cont_ext hx h
    · cases h
  | .pr a b, ls, x, h => by
    simp only [K.rdS] at h ⊢
    split at h
    · rename_i y z h1 h2
      rw [rdS_ext hx h1, rdS_ext hx h2]; exact h
    · cases h

theorem takeA_ext {st st' : St} (hx : st.Ext st') {fl : Bool} : ∀ {as : List AS} {ss : List Slot} {x : Args as}, takeA fl st as ss = some x → takeA fl st' as ss = some x
  | [], [], _, h => h
  | .val g k :: as, s :: ss, x, h => by
    simp only [takeA] at h ⊢
    cases hg : (s.isAg == g)
    · rw [hg] at h; cases h
    · rw [hg] at h
      simp only [cond_true] at h ⊢
      split at h
      · rename_i y hy
        split at h
        · rename_i ys h2
          have : (bif fl then k.rdS st' s.leafs else k.rd s.leafs) = some y := by
            cases fl
            · exact hy
            · exact rdS_ext hx hy
          simp only [this, takeA_ext hx h2]; exact h
        · cases h
      · cases h
  | .rp k :: as, s :: ss, x, h => by
    simp only [takeA] at h ⊢
    split at h
    · rename_i ls
      split at h
      · rename_i y hy
        split at h
        · rename_i ys h2
          simp only [hy, takeA_ext hx h2]; exact h
        · cases h
      · cases h
    · rename_i s' hne
      cases fl
      · cases h
      · simp only [cond_true] at h
        split at h
        · rename_i ls hls
          split at h
          · rename_i y hy
            split at h
            · rename_i ys h2
              simp only [cond_true, leafsAt_ext hx hls, rdS_ext hx hy, takeA_ext hx h2]; exact h
            · cases h
          · cases h
        · cases h
  | .fn f :: as, s :: ss, x, h => by
    simp only [takeA] at h ⊢
    split at h
    · rename_i f'
      cases hf : (f' == f)
      · rw [hf] at h; cases h
      · rw [hf] at h
        simp only [cond_true] at h ⊢
        split at h
        · rename_i ys h2
          simp only [takeA_ext hx h2]; exact h
        · cases h
    · cases h
  | .wp _ :: _, _, _, h => by simp [takeA] at h
  | [], _ :: _, _, h | .val _ _ :: _, [], _, h | .rp _ :: _, [], _, h | .fn _ :: _, [], _, h => by simp [takeA] at h

theorem resK_calm {d : Nat} {R : Type} {r : R} : ∀ {rs : List RS} {y : Ress rs} {i : Nat} {acc : List (Bool × List Leaf)} {k : List (Bool × List Leaf) → Option R}, rs.any (·.isOwn) = false → resK d rs y i acc k = some r →
    ∃ acc', k acc' = some r ∧ ∀ {d' : Nat} {R' : Type} {k' : List (Bool × List Leaf) → Option R'} {r' : R'}, k' acc' = some r' → resK d' rs y i acc k' = some r'
  | [], _, _, _, _, _, h => ⟨_, h, fun h => h⟩
  | .val _ _ :: rs, y, i, acc, k, ho, h => by
    simp only [List.any_cons, Bool.or_eq_false_iff] at ho
    exact resK_calm (rs := rs) ho.2 h
  | .own _ :: rs, y, i, acc, k, ho, h => by simp [RS.isOwn] at ho
  | .err :: rs, y, i, acc, k, ho, h => by
    simp only [List.any_cons, Bool.or_eq_false_iff] at ho
    simp only [resK] at h
    cases hy : y.1 with
    | true =>
      rw [hy] at h
      obtain ⟨acc', h1, h2⟩ := resK_calm (rs := rs) ho.2 h
      exact ⟨acc', h1, fun h3 => by simp only [resK, hy, cond_true]; exact h2 h3⟩
    | false =>
      rw [hy] at h
      obtain ⟨acc', h1, h2⟩ := resK_calm (rs := rs) ho.2 h
      exact ⟨acc', h1, fun h3 => by simp only [resK, hy, cond_false]; exact h2 h3⟩

theorem sumP_calm {as : List AS} {rs : List RS} {F : Args as → Option (Outs as × Ress rs)} (hown : rs.any (·.isOwn) = false) : CalmSum (sumP as rs F) := by
  intro st args d R k r e
  unfold sumP at e
  cases hc : (flatC as rs || (args.flatMap Slot.owns).isEmpty)
  · rw [hc] at e; cases e
  · rw [hc] at e
    simp only [cond_true] at e
    split at e
    · rename_i x hx
      obtain ⟨oy, hF, e⟩ := Option.bind_eq_some_iff.1 e
      obtain ⟨acc', h1, h2⟩ := resK_calm hown e
      refine ⟨tupS acc', h1, fun hxt _ _ k' _ h3 => ?_⟩
      unfold sumP
      rw [hc]
      simp only [cond_true, takeA_ext hxt hx, hF, Option.bind_some]
      exact h2 (k' := fun acc => k' _ (tupS acc)) h3
    · cases e
end

/-- A contract as a summary. -/
def cX (as : List AS) (rs : List RS) (F : Args as → Option (Outs as × Ress rs)) : SumX := ⟨true, sumP as rs F⟩
def vX (as : List AS) (rs : List RS) (F : Args as → Option (Outs as × Ress rs)) : SumX := ⟨false, sumV as rs F⟩
theorem cX_ok {P : Program} {f : FuncId} {as : List AS} {rs : List RS} {F : Args as → Option (Outs as × Ress rs)} (hc : FnC P f as rs F) (h : (as.all (·.noWp) && !rs.any (·.isOwn)) = true) : SumOk P f (cX as rs F).g ∧ ((cX as rs F).calm = true → CalmSum (cX as rs F).g) := by
  simp only [Bool.and_eq_true, Bool.not_eq_true'] at h
  exact ⟨sumP_ok hc h.1 h.2, fun _ => sumP_calm h.2⟩
theorem vX_ok {P : Program} {f : FuncId} {as : List AS} {rs : List RS} {F : Args as → Option (Outs as × Ress rs)} (hc : FnC P f as rs F) (h : (as.all (·.noWp) && rsOk as rs) = true) : SumOk P f (vX as rs F).g ∧ ((vX as rs F).calm = true → CalmSum (vX as rs F).g) := by
  simp only [Bool.and_eq_true] at h
  exact ⟨sumV_ok hc h.1 h.2, fun h => by cases h⟩
end Go.Ev

namespace Go.Ev

def jOf : List (Nat × List (Nat × SS)) → Nat → Option (List (Nat × SS))
  | [], _ => none
  | p :: l, i => bif p.1 == i then some p.2 else jOf l i

theorem itr_mono {A B : Type} {step : A → Option (A ⊕ B)} : ∀ {m n : Nat} {x : A} {y : B}, itr step m x = some y → m ≤ n → itr step n x = some y
  | 0, _, _, _, h, _ => by simp [itr] at h
  | m + 1, 0, _, _, _, h => by omega
  | m + 1, n + 1, x, y, h, hn => by
    unfold itr at h ⊢
    split at h
    · rename_i x' hx
      exact itr_mono h (by omega)
    · exact h
    · cases h

/-- What a loop ends with, if it ends. -/
noncomputable def lim {A B : Type} (step : A → Option (A ⊕ B)) (x : A) : Option B :=
  open Classical in if h : ∃ y, ∃ m, itr step m x = some y then some h.choose else none

theorem lim_itr {A B : Type} {step : A → Option (A ⊕ B)} : ∀ x y, lim step x = some y → ∃ m, itr step m x = some y := fun x y h => by
  unfold lim at h
  split at h
  · rename_i hh
    cases h
    exact hh.choose_spec
  · cases h
theorem lim_of {A B : Type} {step : A → Option (A ⊕ B)} {m : Nat} {x : A} {y : B} (h : itr step m x = some y) : lim step x = some y := by
  have hh : ∃ y, ∃ m, itr step m x = some y := ⟨y, m, h⟩
  unfold lim
  rw [dif_pos hh]
  obtain ⟨m', h'⟩ := hh.choose_spec
  have h1 := itr_mono h (Nat.le_max_left m m')
  have h2 := itr_mono h' (Nat.le_max_right m m')
  rw [h1] at h2
  exact h2.symm
/-- The loop, a round at a time. -/
theorem lim_eq {A B : Type} (step : A → Option (A ⊕ B)) (x : A) : lim step x = match step x with
    | some (.inl x') => lim step x'
    | some (.inr y) => some y
    | none => none := by
  cases hs : step x with
  | none =>
    cases hl : lim step x with
    | none => rfl
    | some y =>
      obtain ⟨m, hm⟩ := lim_itr x y hl
      cases m with
      | zero => simp [itr] at hm
      | succ m => simp [itr, hs] at hm
  | some s =>
    cases s with
    | inr y => exact lim_of (m := 1) (by simp [itr, hs])
    | inl x' =>
      simp only
      cases hl : lim step x' with
      | some y =>
        obtain ⟨m, hm⟩ := lim_itr x' y hl
        exact lim_of (m := m + 1) (by simp only [itr, hs]; exact hm)
      | none =>
        cases hl2 : lim step x with
        | none => rfl
        | some y =>
          obtain ⟨m, hm⟩ := lim_itr x y hl2
          cases m with
          | zero => simp [itr] at hm
          | succ m =>
            simp only [itr, hs] at hm
            rw [lim_of hm] at hl; cases hl
end Go.Ev

namespace Go.Ev

/-- What a reading of an argument says of the datum. -/
def Wf : (k : K) → k.T → Prop
  | .int k, x => (Lit.int k x).wf = true
  | .bool, _ => True
  | .str, s => s.size ≤ maxLen
  | .sl e, l => l.length ≤ maxLen ∧ ∀ x ∈ l, Wf e x
  | .pr a b, x => Wf a x.1 ∧ Wf b x.2

def kOfs (P : Program) (r : K → TypeId → Bool) : K → List Field → Nat → Bool
  | _, [], _ => false
  | k, [f], off => (r k f.type && (f.offset == off)) && P.cellsOf f.type == k.sz
  | .pr a b, f :: g :: fs, off => ((r a f.type && (f.offset == off)) && P.cellsOf f.type == a.sz) && kOfs P r b (g :: fs) (off + a.sz)
  | _, _ :: _ :: _, _ => false

/-- The type is of this kind. -/
def kOf (P : Program) : Nat → K → TypeId → Bool
  | 0, _, _ => false
  | n + 1, k, t =>
    match P.underlying t with
    | some (.int kd) => k == .int kd
    | some .bool => k == .bool
    | some .string => k == .str
    | some (.slice e) => match k with
      | .sl ke => kOf P n ke e && P.cellsOf e == ke.sz
      | _ => false
    | some (.struct fs) => kOfs P (kOf P n) k fs.toList 0 && P.cellsOf t == k.sz
    | _ => false

section
variable {P : Program} {H : Type} {enc : TypeId × Value → H} {w : World} {base : Nat} {spare : Nat → Bool} {held : Bool}

theorem open_fields {r : K → TypeId → Bool} {n : Nat} (hr : ∀ k t cs x, r k t = true → DataW.trod enc P w base spare held n t cs = some x → ∃ y : k.T, RepT w (fun _ => True) k y cs ∧ Wf k y) :
    ∀ {fs : List Field} {k : K} {off : Nat} {cs : List Value}, kOfs P r k fs off = true → off + k.sz = cs.length → (∀ f ∈ fs, ∃ x, DataW.trod enc P w base spare held n f.type ((cs.drop f.offset).take (P.cellsOf f.type)) = some x) →
      ∃ y : k.T, RepT w (fun _ => True) k y (cs.drop off) ∧ Wf k y
  | [], k, off, cs, h, _, _ => by cases k <;> simp [kOfs] at h
  | [f], k, off, cs, h, hl, hf => by
    have h' : ((r k f.type && (f.offset == off)) && P.cellsOf f.type == k.sz) = true := by cases k <;> exact h
    simp only [Bool.and_eq_true, beq_iff_eq] at h'
    obtain ⟨⟨h1, h2⟩, h3⟩ := h'
    obtain ⟨x, hx⟩ := hf f (by simp)
    obtain ⟨y, g1, g2⟩ := hr k _ _ _ h1 hx
    rw [h2, h3, List.take_of_length_le (by rw [List.length_drop]; omega)] at g1
    exact ⟨y, g1, g2⟩
  | f :: g :: fs, k, off, cs, h, hl, hf => by
    cases k with
    | pr a b =>
      simp only [kOfs, Bool.and_eq_true, beq_iff_eq] at h
      obtain ⟨⟨⟨h1, h2⟩, h3⟩, h4⟩ := h
      simp only [K.sz] at hl
      obtain ⟨x, hx⟩ := hf f (by simp)
      obtain ⟨y, g1, g2⟩ := hr a _ _ _ h1 hx
      obtain ⟨z, g3, g4⟩ := open_fields hr (k := b) (off := off + a.sz) (cs := cs) h4 (by omega) (fun f' hf' => hf f' (by simp at hf' ⊢; exact .inr hf'))
      rw [h2, h3] at g1
      refine ⟨(y, z), ⟨_, _, ?_, g1, g3⟩, g2, g4⟩
      rw [← List.drop_drop, List.take_append_drop]
    | _ => simp [kOfs] at h

theorem cells?_get {b n : Nat} {a : Addr} {cs : List Value} (h : w.cells? b a n = some cs) : ∀ j v, cs[j]? = some v → w.cell? (a.add j) = some v := fun j v hj => by
  obtain ⟨_, h1, h2⟩ := World.cells?_some h
  have hlt := (List.getElem?_eq_some_iff.1 hj).1
  rw [h2 j (by omega)]; exact hj

theorem open_kind : ∀ (m : Nat) {k : K} {t : TypeId} {fuel : Nat} {cs : List Value} {x : DataW H × List MemPlace}, kOf P m k t = true → DataW.trod enc P w base spare held fuel t cs = some x → ∃ y : k.T, RepT w (fun _ => True) k y cs ∧ Wf k y
  | 0, k, t, fuel, cs, x, h, _ => by simp [kOf] at h
  | m + 1, k, t, fuel, cs, x, h, hx => by
    unfold kOf at h
    split at h
    · rename_i kd hu
      have : k = .int kd := by simpa using h
      subst this
      obtain ⟨n, rfl, rfl, hw⟩ := DataW.trod_int hu hx
      exact ⟨n, rfl, hw⟩
    · rename_i hu
      have : k = .bool := by simpa using h
      subst this
      cases fuel with
      | zero => simp [DataW.trod] at hx
      | succ n =>
        unfold DataW.trod at hx
        rw [hu] at hx
        split at hx
        all_goals first
          | (rename_i b _ _; exact ⟨b, rfl, trivial⟩)
          | (rename_i b _; exact ⟨b, rfl, trivial⟩)
          | (rename_i b; exact ⟨b, rfl, trivial⟩)
          | simp_all
    · rename_i hu
      have : k = .str := by simpa using h
      subst this
      cases fuel with
      | zero => simp [DataW.trod] at hx
      | succ n =>
        unfold DataW.trod at hx
        rw [hu] at hx
        split at hx <;> simp_all
        exact ⟨_, rfl, by simpa [Wf] using hx.1⟩
    · rename_i e hu
      split at h
      · rename_i ke
        simp only [Bool.and_eq_true, beq_iff_eq] at h
        obtain ⟨h1, h2⟩ := h
        rcases DataW.trod_slice hu hx with ⟨rfl, _⟩ | ⟨a, len, cap, elems, rest, n, _, rfl, _, hb, hlc, hcm, hel, hget, _, _⟩
        · exact ⟨[], ⟨none, 0, rfl, Nat.le_refl _, fun i hi => by simp at hi⟩, by simp [Wf]⟩
        · have each : ∀ i, i < len → ∃ y : ke.T, (∃ cs, RepT w (fun _ => True) ke y cs ∧ ∀ j v, cs[j]? = some v → w.cell? (a.add (i * ke.sz + j)) = some v) ∧ Wf ke y := fun i hi => by
            have h3 := hget i hi
            have h4 : elems[i]? = some elems[i] := List.getElem?_eq_getElem (by omega)
            rw [h4] at h3
            obtain ⟨cs', h5, h6⟩ := Option.bind_eq_some_iff.1 h3
            obtain ⟨y, g1, g2⟩ := open_kind m h1 h6
            have h7 := cells?_get h5
            refine ⟨y, ⟨cs', g1, fun j v hj => ?_⟩, g2⟩
            have := h7 j v hj
            rw [h2, addr_add_add] at this
            exact this
          have hl : ∀ n, n ≤ len → ∃ l : List ke.T, l.length = n ∧ ∀ i, i < n → (∃ cs, RepT w (fun _ => True) ke (l.getD i ke.zero) cs ∧ ∀ j v, cs[j]? = some v → w.cell? (a.add (i * ke.sz + j)) = some v) ∧ Wf ke (l.getD i ke.zero) := by
            intro n
            induction n with
            | zero => intro _; exact ⟨[], rfl, fun i hi => by omega⟩
            | succ n ih =>
              intro hn
              obtain ⟨l, q1, q2⟩ := ih (by omega)
              obtain ⟨y, q3⟩ := each n (by omega)
              refine ⟨l ++ [y], by simp [q1], fun i hi => ?_⟩
              rw [getD_append]
              by_cases hin : i < n
              · rw [if_pos (by omega)]; exact q2 i hin
              · have : i = n := by omega
                subst this
                rw [if_neg (by omega), q1, Nat.sub_self]; exact q3
          obtain ⟨l, q1, q2⟩ := hl len (Nat.le_refl _)
          refine ⟨l, ⟨some a, cap, by rw [q1], by omega, fun i hi => ⟨a, rfl, trivial, (q2 i (by omega)).1⟩⟩, by rw [q1]; omega, fun x hx => ?_⟩
          obtain ⟨i, hi, rfl⟩ := List.getElem_of_mem hx
          have := (q2 i (by omega)).2
          rwa [getD_eq _ _ _ hi] at this
      · cases h
    · rename_i fs hu
      simp only [Bool.and_eq_true, beq_iff_eq] at h
      obtain ⟨xs, n, _, _, hl, hlen, hf⟩ := DataW.trod_struct hu hx
      obtain ⟨y, g1, g2⟩ := open_fields (n := n) (fun k t cs x hk hx => open_kind m hk hx) (fs := fs.toList) (k := k) (off := 0) (cs := cs) h.1 (by rw [hl, h.2]; omega) (fun f hf' => by
        obtain ⟨i, hi, rfl⟩ := List.getElem_of_mem hf'
        have := hf i fs.toList[i] (by rw [← Array.getElem?_toList]; exact List.getElem?_eq_getElem hi)
        have hxi : i < xs.length := by rw [hlen]; simpa using hi
        rw [List.getElem?_eq_getElem hxi] at this
        exact ⟨_, this⟩)
      exact ⟨y, by simpa using g1, g2⟩
    · cases h
end
end Go.Ev

namespace Go.Ev

theorem law_calls {P : Program} {f : FuncId} {as : List AS} {F : Args as → Option (Outs as × Ress [.val false .bool])} (hc : FnC P f as [.val false .bool] F) {x : Args as} {o : Outs as} (hF : F x = some (o, (true, ()))) {vals : List Value} {w : World}
    (hra : RepArgs w (fun _ => True) as x vals []) : Calls P f vals.toArray w fun e w' => e = .returned (.bool true) ∧ RowKit.Below w.heap.size w w' := by
  refine (hc.2 w _ x vals [] o (true, ()) hF hra).mono fun e w' he => ?_
  obtain ⟨v, vs, Fb, rfl, hv, hfr, _, _, hres, _⟩ := he
  refine ⟨?_, ⟨hfr.os, hfr.tape, hfr.output, hfr.size, fun k hk => hfr.block k hk (by rintro o ⟨p, hp, _⟩; simp at hp)⟩⟩
  cases vs with
  | nil => exact hres.elim
  | cons u us =>
    cases us with
    | cons _ _ => exact hres.2.elim
    | nil =>
      obtain ⟨⟨cs, h1, ⟨h2, _⟩ | ⟨_, h3⟩⟩, _⟩ := hres
      · cases h2
      · have : u = .bool true := by
          have h4 : cs = [.bool true] := h1
          rw [h4] at h3
          simpa using h3.symm
        subst this
        rw [hv]; rfl
end Go.Ev

namespace Go.Ev

theorem wrap_id {x : Int} (h : -9223372036854775808 ≤ x) (h' : x ≤ 9223372036854775807) : IntKind.wrap .i64 x = x := by
  rw [IntKind.wrap_i64]; omega

def foldE {α σ B : Type} (f : Nat → σ → α → σ ⊕ B) (out : σ → B) : Nat → List α → σ → B
  | _, [], s => out s
  | i, d :: l, s => match f i s d with
    | .inl s' => foldE f out (i + 1) l s'
    | .inr b => b

/-- A LOOP OVER A LIST. -/
theorem lim_fold {A B α σ : Type} {step : A → Option (A ⊕ B)} (l0 : List α) (mk : Nat → σ → A) (f : Nat → σ → α → σ ⊕ B) (out : σ → B) (I : Nat → σ → Prop)
    (h1 : ∀ i s d, I i s → l0[i]? = some d → step (mk i s) = some (match f i s d with | .inl s' => .inl (mk (i + 1) s') | .inr b => .inr b))
    (h2 : ∀ s, I l0.length s → step (mk l0.length s) = some (.inr (out s)))
    (hI : ∀ i s d s', I i s → l0[i]? = some d → f i s d = .inl s' → I (i + 1) s') :
    ∀ (l : List α) (i : Nat) (s : σ), I i s → l0.drop i = l → i ≤ l0.length → lim step (mk i s) = some (foldE f out i l s)
  | [], i, s, hi, hd, hle => by
    have : i = l0.length := by have := congrArg List.length hd; simp at this; omega
    subst this
    rw [lim_eq, h2 s hi]; rfl
  | d :: l, i, s, hi, hd, hle => by
    have hlt : i < l0.length := by have := congrArg List.length hd; simp at this; omega
    have hget : l0[i]? = some d := by
      have := congrArg (·[0]?) hd
      simpa using this
    have hd' : l0.drop (i + 1) = l := by
      rw [← List.drop_drop, hd]; rfl
    rw [lim_eq, h1 i s d hi hget]
    unfold foldE
    cases hf : f i s d with
    | inr b => rfl
    | inl s' =>
      simp only
      exact lim_fold l0 mk f out I h1 h2 hI l (i + 1) s' (hI i s d s' hi hget hf) hd' hlt

theorem getD_of {α : Type} {l : List α} {i : Nat} {d x : α} (h : l[i]? = some x) : l.getD i d = x := by rw [List.getD_eq_getElem?_getD, h]; rfl
theorem lt_of_get {α : Type} {l : List α} {i : Nat} {x : α} (h : l[i]? = some x) : i < l.length := (List.getElem?_eq_some_iff.1 h).1
theorem ib_nat {i n : Nat} (h : i < n) : ib (i : Int) n = true := by simp [ib, h]
theorem dec_lt {i n : Nat} (h : i < n) : decide ((i : Int) < (n : Int)) = true := by simp [h]
theorem dec_self {n : Nat} : decide ((n : Int) < (n : Int)) = false := by simp
theorem wrap_succ {i n : Nat} (h : i < n) (hn : n ≤ maxLen) : IntKind.wrap .i64 ((i : Int) + 1) = ((i + 1 : Nat) : Int) := by
  simp only [maxLen] at hn
  rw [wrap_id (by omega) (by omega)]; omega
end Go.Ev

namespace Go.Ev

theorem lim_any {A B α : Type} {step : A → Option (A ⊕ B)} (l : List α) (mk : Nat → A) (p : α → Bool) (hit out : B)
    (h1 : ∀ i d, l[i]? = some d → step (mk i) = some (bif p d then .inr hit else .inl (mk (i + 1)))) (h2 : step (mk l.length) = some (.inr out)) : lim step (mk 0) = some (bif l.any p then hit else out) := by
  have key : ∀ (r : List α) (i : Nat), l.drop i = r → i ≤ l.length → lim step (mk i) = some (bif r.any p then hit else out) := by
    intro r
    induction r with
    | nil =>
      intro i hd hle
      have : i = l.length := by have := congrArg List.length hd; simp at this; omega
      subst this
      rw [lim_eq, h2]; rfl
    | cons d r ih =>
      intro i hd hle
      have hlt : i < l.length := by have := congrArg List.length hd; simp at this; omega
      have hg : l[i]? = some d := by
        have := congrArg (·[0]?) hd
        simpa using this
      rw [lim_eq, h1 i d hg]
      cases hp : p d
      · simp only [cond_false]
        rw [ih (i + 1) (by rw [← List.drop_drop, hd]; rfl) hlt]
        simp [hp]
      · simp [hp]
  exact key l 0 rfl (Nat.zero_le _)

theorem lim_copy {A B α : Type} {step : A → Option (A ⊕ B)} (l : List α) (mk : Nat → List α → A) (out : List α → B) (z : α)
    (h1 : ∀ i acc d, acc.length = l.length → l[i]? = some d → step (mk i acc) = some (.inl (mk (i + 1) (acc.set i d)))) (h2 : ∀ acc, step (mk l.length acc) = some (.inr (out acc))) :
    lim step (mk 0 (List.replicate l.length z)) = some (out l) := by
  have key : ∀ (r : List α) (i : Nat) (acc : List α), l.drop i = r → i ≤ l.length → acc.length = l.length → acc.take i = l.take i → lim step (mk i acc) = some (out l) := by
    intro r
    induction r with
    | nil =>
      intro i acc hd hle hn ht
      have : i = l.length := by have := congrArg List.length hd; simp at this; omega
      subst this
      rw [List.take_of_length_le (by omega), List.take_of_length_le (Nat.le_refl _)] at ht
      rw [lim_eq, h2, ht]
    | cons d r ih =>
      intro i acc hd hle hn ht
      have hlt : i < l.length := by have := congrArg List.length hd; simp at this; omega
      have hg : l[i]? = some d := by
        have := congrArg (·[0]?) hd
        simpa using this
      rw [lim_eq, h1 i acc d hn hg]
      refine ih (i + 1) _ (by rw [← List.drop_drop, hd]; rfl) hlt (by simp [hn]) ?_
      rw [List.take_add_one, List.take_add_one, List.getElem?_set_self (by omega), hg, List.take_set_of_le (Nat.le_refl i), ht]
  exact key l 0 _ rfl (Nat.zero_le _) (by simp) (by simp)
end Go.Ev
