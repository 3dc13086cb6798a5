/- What is proved here: contracts of functions on small states; loops; no condition. -/
import Derived.LoopN
import Derived.Test.YtfglckpbconanaaGreatLc
set_option linter.unusedVariables false
set_option linter.unusedSimpArgs false
namespace Go.Ev
section
variable {α : Type}
theorem look_mem : ∀ {l : List (Nat × α)} {i : Nat} {v : α}, look l i = some v → (i, v) ∈ l
  | [], _, _, h => by cases h
  | p :: l, i, v, h => by
    simp only [look] at h
    cases hp : (p.1 == i)
    · rw [hp] at h; exact List.mem_cons_of_mem _ (look_mem h)
    · rw [hp] at h
      have : p.1 = i := by simpa using hp
      simp only [cond_true, Option.some.injEq] at h
      subst this; subst h
      exact List.mem_cons_self ..
theorem look_any {l : List (Nat × α)} {i : Nat} {v : α} (h : look l i = some v) : (l.any fun q => q.1 == i) = true :=
  List.any_eq_true.2 ⟨_, look_mem h, by simp⟩
theorem any_look : ∀ {l : List (Nat × α)} {i : Nat}, (l.any fun q => q.1 == i) = true → ∃ v, look l i = some v
  | [], _, h => by simp at h
  | p :: l, i, h => by
    simp only [look]
    cases hp : (p.1 == i)
    · simp only [List.any_cons, hp, Bool.false_or] at h
      exact any_look h
    · exact ⟨p.2, rfl⟩
theorem look_nd : ∀ {l : List (Nat × α)} {i : Nat} {v : α}, ndK l = true → (i, v) ∈ l → look l i = some v
  | [], _, _, _, h => by simp at h
  | p :: l, i, v, hn, h => by
    simp only [ndK, Bool.and_eq_true, Bool.not_eq_true', List.any_eq_false] at hn
    simp only [look]
    rcases List.mem_cons.1 h with rfl | h
    · simp
    · cases hp : (p.1 == i)
      · exact look_nd hn.2 h
      · exact absurd (by simpa using hp : p.1 = i).symm (by simpa using hn.1 _ h)
end
def Ren.gh (R : Ren) (p : Sp) (G : Gh) : Gh :=
  ⟨fun b => match look R.b b with | some (c, d) => (G.B c).map fun q => (q.1, q.2 + d) | none => none,
   fun j => match look R.a j with | some (some i) => G.A i | some none => (look p.arr j).map fun q => ⟨q.1.sz, 0, none⟩ | none => none,
   fun j => match look R.a j with | some (some i) => G.F i | _ => [], G.E⟩
section
variable {P : Program} {C C2 : Cx} {G : Gh} {st : St} {a : Act} {w w' : World} {ok ok' : Nat → Prop} {R : Ren} {p : Sp}
theorem gh_B {b : Nat} {q : Nat × Nat} (h : (R.gh p G).B b = some q) : ∃ c d base, look R.b b = some (c, d) ∧ G.B c = some (q.1, base) ∧ q.2 = base + d := by
  simp only [Ren.gh] at h
  split at h
  · rename_i c d hl
    obtain ⟨r, h1, h2⟩ := Option.map_eq_some_iff.1 h
    subst h2
    exact ⟨c, d, r.2, hl, h1, rfl⟩
  · cases h
theorem gh_B' {b c d blk base : Nat} (hl : look R.b b = some (c, d)) (h : G.B c = some (blk, base)) : (R.gh p G).B b = some (blk, base + d) := by
  simp only [Ren.gh, hl, h]; rfl
theorem gh_A {j : Nat} {ai : AI} (h : (R.gh p G).A j = some ai) : (∃ i, look R.a j = some (some i) ∧ G.A i = some ai) ∨ (look R.a j = some none ∧ ∃ q, look p.arr j = some q ∧ ai = ⟨q.1.sz, 0, none⟩) := by
  simp only [Ren.gh] at h
  split at h
  · rename_i i hl; exact .inl ⟨i, hl, h⟩
  · rename_i hl
    obtain ⟨q, h1, h2⟩ := Option.map_eq_some_iff.1 h
    exact .inr ⟨hl, q, h1, h2.symm⟩
  · cases h
theorem gh_A' {j i : Nat} (hl : look R.a j = some (some i)) : (R.gh p G).A j = G.A i := by simp only [Ren.gh, hl]
theorem gh_F' {j i : Nat} (hl : look R.a j = some (some i)) : (R.gh p G).F j = G.F i := by simp only [Ren.gh, hl]
theorem gh_inner {j b : Nat} (h : b ∈ (R.gh p G).inner j) : ∃ i, look R.a j = some (some i) ∧ b ∈ G.inner i := by
  simp only [Gh.inner, Ren.gh] at h
  split at h
  · rename_i i hl; exact ⟨i, hl, h⟩
  · simp at h
theorem gh_loc {j : Nat} {ai : AI} {l : Nat × Nat × Nat} (h : (R.gh p G).A j = some ai) (hl : ai.loc = some l) : ∃ i, look R.a j = some (some i) ∧ G.A i = some ai := by
  rcases gh_A h with h | ⟨_, q, _, rfl⟩
  · exact h
  · cases hl
theorem gh_wr {i : Nat} (h : (R.gh p G).wr i) : G.wr i := by
  rcases h with ⟨b, base, hb⟩ | ⟨id, ai, base, m, h1, h2⟩
  · obtain ⟨c, d, base', _, h1, _⟩ := gh_B hb
    exact Gh.wr_of_B h1
  · obtain ⟨i', _, h3⟩ := gh_loc h1 h2
    exact Gh.wr_of_A h3 h2
theorem chkP_rep {b o b' o' : Nat} {v : Value} (h : chkP R b o b' o' = true) (hv : PtrAt G b' o' v) : PtrAt (R.gh p G) b o v := by
  unfold chkP at h
  split at h
  · rename_i c d hl
    simp only [Bool.and_eq_true, beq_iff_eq] at h
    obtain ⟨rfl, rfl⟩ := h
    obtain ⟨blk, base, h1, h2⟩ := hv
    exact ⟨blk, base + d, gh_B' hl h1, by rw [h2, Nat.add_assoc]⟩
  · cases h
theorem chkCaps_rep : ∀ {cs cs' : List (Nat × Nat)} {vs : List Value}, chkCaps R cs cs' = true → CapsAt G cs' vs → CapsAt (R.gh p G) cs vs
  | [], [], [], _, _ => trivial
  | c :: cs, c' :: cs', v :: vs, h, hv => by
    simp only [chkCaps, Bool.and_eq_true] at h
    exact ⟨chkP_rep h.1 hv.1, chkCaps_rep h.2 hv.2⟩
  | [], _ :: _, _, h, _ | _ :: _, [], _, h, _ => by simp [chkCaps] at h
  | [], [], _ :: _, _, hv | _ :: _, _ :: _, [], _, hv => hv.elim
theorem chkLeaf_rep (hp : ∀ j, look R.a j = some none → ∃ q, look p.arr j = some q) {f l : Leaf} {v : Value} (h : chkLeaf R f l = true) (hv : RepLeaf w ok G l v) : RepLeaf w ok' (R.gh p G) f v := by
  unfold chkLeaf at h
  split at h
  · rename_i j i
    split at h
    · rename_i i' hl
      have : i' = i := by simpa using h
      subst this
      obtain ⟨ai, x, c, h1, h2⟩ := hv
      exact ⟨ai, x, c, by rw [gh_A' hl]; exact h1, h2⟩
    · cases h
  · rename_i j
    split at h
    · rename_i hl
      obtain ⟨q, hq⟩ := hp j hl
      have hv' : v = .slice none 0 0 := hv
      exact ⟨⟨q.1.sz, 0, none⟩, none, 0, by simp only [Ren.gh, hl, hq]; rfl, hv', Nat.le_refl _, fun hc => absurd hc (by omega)⟩
    · cases h
  · exact chkP_rep h hv
  · rename_i f cs f' cs'
    simp only [Bool.and_eq_true, beq_iff_eq] at h
    obtain ⟨rfl, h2⟩ := h
    obtain ⟨vs, h3, h4⟩ := hv
    exact ⟨vs, h3, chkCaps_rep h2 h4⟩
  · rename_i t g b o t' g' b' o'
    simp only [Bool.and_eq_true, beq_iff_eq] at h
    obtain ⟨⟨rfl, rfl⟩, h2⟩ := h
    obtain ⟨x, h3, h4⟩ := hv
    exact ⟨x, chkP_rep h2 h3, h4⟩
  · exact hv
  · exact hv
  · exact hv
  · exact hv
  · exact hv
  · obtain ⟨x, ⟨_, _, _, h1⟩, h2⟩ := hv
    exact ⟨_, _, h2⟩
  · exact hv.one
  · cases h
theorem rdS_ok (h : Rel C G st a w) (H : Keeps w w (G.ok C) ok') : ∀ {k : K} {ls : List Leaf} {vs : List Value} {x : k.T}, RepLeafs w (G.ok C) G ls vs → k.rdS st ls = some x →
    (∀ l ∈ ls, ∀ id ∈ l.owns, ∀ ai blk base m, G.A id = some ai → ai.loc = some (blk, base, m) → ok' blk) → RepT w ok' k x vs
  | .int k, ls, vs, x, hr, e, _ => (hr.rd (k := .int k) e).trans H
  | .bool, ls, vs, x, hr, e, _ => (hr.rd (k := .bool) e).trans H
  | .str, ls, vs, x, hr, e, _ => (hr.rd (k := .str) e).trans H
  | .sl el, ls, vs, x, hr, e, hl => by
    simp only [K.rdS] at e
    split at e
    · rename_i l
      cases vs with
      | nil => exact hr.elim
      | cons v vs =>
        cases vs with
        | cons _ _ => exact hr.2.elim
        | nil =>
          have hv := hr.1
          unfold St.cont at e
          split at e
          · rename_i e' l' b
            split at e
            · rename_i he; subst he; cases e
              exact hv.1.trans H
            · cases e
          · rename_i id
            obtain ⟨r, hr', e⟩ := Option.bind_eq_some_iff.1 e
            split at e
            · rename_i he; subst he; cases e
              obtain ⟨ai, x, c, h1, rfl, h2, h3⟩ := hv
              obtain ⟨ai', h4, ha⟩ := h.mem.arrR id r hr'
              rw [h1] at h4; cases h4
              have := ha.rep H (fun blk base m hlo => hl (.own id) (by simp) id (by simp [Leaf.owns]) ai blk base m h1 hlo) (off := 0) (len := ai.n) (by omega) (p := x) h2 (fun hc => by
                obtain ⟨blk, base, m, h5, h6, _⟩ := h3 hc
                exact ⟨blk, base, m, h5, by rw [h6]; simp⟩)
              rw [ha.n, List.drop_zero, List.take_length] at this
              rw [ha.n]; exact this
            · cases e
          · rename_i id o n
            obtain ⟨r, hr', e⟩ := Option.bind_eq_some_iff.1 e
            split at e
            · rename_i he; subst he; cases e
              obtain ⟨ai, x, c, h1, rfl, h2, h3, h4⟩ := hv
              obtain ⟨ai', h5, ha⟩ := h.mem.arrR id r hr'
              rw [h1] at h5; cases h5
              exact ha.rep H (fun blk base m hlo => hl (.sub id o n) (by simp) id (by simp [Leaf.owns]) ai blk base m h1 hlo) h3 (p := x) h2 (fun hc => by
                obtain ⟨blk, base, m, h5, h6, _⟩ := h4 hc
                exact ⟨blk, base, m, h5, h6⟩)
            · cases e
          · cases e
            have hv' : v = .slice none 0 0 := hv
            exact ⟨none, 0, by rw [hv']; rfl, Nat.le_refl _, fun i hi => absurd hi (by simp)⟩
          · cases e
    · cases e
  | .pr p q, ls, vs, x, hr, e, hl => by
    simp only [K.rdS] at e
    split at e
    · rename_i y z h1 h2
      cases e
      exact ⟨vs.take p.sz, vs.drop p.sz, (List.take_append_drop _ _).symm, rdS_ok h H (hr.take _) h1 (fun l hm => hl l (List.mem_of_mem_take hm)), rdS_ok h H (hr.drop _) h2 (fun l hm => hl l (List.mem_of_mem_drop hm))⟩
    · cases e
structure Lent (G : Gh) (R : Ren) (ok' : Nat → Prop) : Prop where
  arr : ∀ id ai blk base m, (R.a.any fun p => p.2 == some id) = false → G.A id = some ai → ai.loc = some (blk, base, m) → ok' blk
  box : R.b = [] → ∀ b blk base, G.B b = some (blk, base) → ok' blk
theorem rdV_rep (h : Rel C G st a w) {fl : Bool} (H : Keeps w w (G.ok C) ok') (hL : fl = true → Lent G R ok') {k : K} {ls : List Leaf} {vs : List Value} {x : k.T} (hr : RepLeafs w (G.ok C) G ls vs) (e : rdV fl R st k ls = some x) : RepT w ok' k x vs := by
  unfold rdV at e
  cases fl with
  | false => exact (hr.rd e).trans H
  | true =>
    simp only [cond_true] at e
    cases hl : ls.all (lentL R)
    · rw [hl] at e; cases e
    · rw [hl] at e
      simp only [cond_true] at e
      refine rdS_ok h H hr e fun l hm id hid ai blk base m h1 h2 => (hL rfl).arr id ai blk base m ?_ h1 h2
      have := List.all_eq_true.1 hl l hm
      cases l <;> simp [Leaf.owns] at hid
      · subst hid; simpa [lentL] using this
      · subst hid; simpa [lentL] using this
theorem rdBx_rep (h : Rel C G st a w) {fl : Bool} (H : Keeps w w (G.ok C) ok') (hL : fl = true → Lent G R ok') (hp : ∀ j, look R.a j = some none → ∃ q, look p.arr j = some q) :
    ∀ {l : List BS} {ls : List Leaf} {vs : List Value} {x : BArgs l}, RepLeafs w (G.ok C) G ls vs → bsz l ≤ ls.length → rdBx fl R st l ls = some x → RepLeafs w ok' (R.gh p G) (mkBox l x) (vs.take (bsz l))
  | [], ls, vs, x, hr, hn, e => by simp [mkBox, bsz]; trivial
  | .val k :: l, ls, vs, x, hr, hn, e => by
    simp only [rdBx] at e
    simp only [bsz, BS.sz] at hn ⊢
    split at e
    · rename_i y hy
      split at e
      · rename_i ys h2
        cases e
        have h3 := rdBx_rep h H hL hp (hr.drop k.sz) (by rw [List.length_drop]; omega) h2
        have h4 := (rdV_rep h H hL (hr.take k.sz) hy).lv (G := R.gh p G)
        have := h4.append h3
        rwa [← List.take_add] at this
      · cases e
    · cases e
  | .fix f :: l, y :: ls, v :: vs, x, hr, hn, e => by
    simp only [rdBx] at e
    simp only [bsz, BS.sz, List.length_cons] at hn ⊢
    cases hc : chkLeaf R f y
    · rw [hc] at e; cases e
    · rw [hc] at e
      simp only [cond_true] at e
      rw [show 1 + bsz l = bsz l + 1 by omega, List.take_succ_cons]
      exact ⟨chkLeaf_rep hp hc hr.1, rdBx_rep h H hL hp hr.2 (by omega) e⟩
  | .fix f :: l, [], vs, x, hr, hn, e => by simp [rdBx] at e
  | .fix f :: l, _ :: _, [], x, hr, hn, e => hr.elim
theorem RepT.agg {g : Bool} {k : K} {x : k.T} {s : Slot} {v : Value} (hs : RepSlot w (G.ok C) G s v) (hne : s.leafs ≠ []) (hg : (s.isAg == g) = true) (hr : RepT w ok' k x v.cells.toList) : RepSlot w ok' (R.gh p G) (mkS g k x) v := by
  have hg' : s.isAg = g := by simpa using hg
  have := rep_agg hs hne hr
  rw [hg'] at this
  exact mkS_rep this
theorem rdV_nil {fl : Bool} {k : K} : rdV fl R st k [] = none := by
  unfold rdV
  cases fl with
  | false => exact K.rd_nil k
  | true => simp [rdS_nil]
theorem rdSl_rep (h : Rel C G st a w) {fl : Bool} (H : Keeps w w (G.ok C) ok') (hL : fl = true → Lent G R ok') (hp : ∀ j, look R.a j = some none → ∃ q, look p.arr j = some q) :
    ∀ {l : List (Nat × ES)} {ss : List Slot} {vs : List Value} {x : EArgs2 l}, (l.all fun q => q.2.inP p) = true → RepSlots w (G.ok C) G ss vs → rdSl fl R st l ss = some x → RepSlots w ok' (R.gh p G) (mkSl l x) vs
  | [], [], [], x, _, hr, e => trivial
  | (_, .val g k) :: l, s :: ss, v :: vs, x, hin, hr, e => by
    simp only [List.all_cons, Bool.and_eq_true] at hin
    simp only [rdSl] at e
    cases hg : (s.isAg == g)
    · rw [hg] at e; cases e
    · rw [hg] at e
      simp only [cond_true] at e
      split at e
      · rename_i y hy
        split at e
        · rename_i ys h2
          cases e
          have hne : s.leafs ≠ [] := fun hc => by rw [hc, rdV_nil] at hy; cases hy
          exact ⟨RepT.agg hr.1 hne hg (rdV_rep h H hL (leafs_rep' hr.1 hne) hy), rdSl_rep h H hL hp hin.2 hr.2 h2⟩
        · cases e
      · cases e
  | (_, .rp k) :: l, s :: ss, v :: vs, x, hin, hr, e => by
    simp only [List.all_cons, Bool.and_eq_true] at hin
    simp only [rdSl] at e
    split at e
    · rename_i ls
      split at e
      · rename_i y hy
        split at e
        · rename_i ys h2
          cases e
          refine ⟨?_, rdSl_rep h H hL hp hin.2 hr.2 h2⟩
          obtain ⟨ad, h3, h4, cs, h5, h6⟩ := hr.1
          have hrt := (h5.take k.sz).rd hy
          have hne : ls ≠ [] := fun hc => by rw [hc, List.take_nil, K.rd_nil] at hy; cases hy
          have hl := h5.length
          have hpos : 0 < cs.length := by rw [← hl]; exact List.length_pos_iff.2 hne
          have h0 := h6 0 _ (List.getElem?_eq_getElem hpos)
          refine ⟨ad, h3, fun _ => ?_, cs.take k.sz, (hrt.trans H).lv, fun j c hj => h6 j c ?_⟩
          · have := (H _ _ (by rw [addr_add_block]; exact h4 hne) h0).1
            rwa [addr_add_block] at this
          · rw [List.getElem?_take] at hj; split at hj
            · exact hj
            · cases hj
        · cases e
      · cases e
    · rename_i hnr
      cases hf : (fl && lentS R s)
      · rw [hf] at e; cases e
      · rw [hf] at e
        simp only [cond_true] at e
        simp only [Bool.and_eq_true] at hf
        split at e
        · rename_i ls hls
          split at e
          · rename_i y hy
            split at e
            · rename_i ys h2
              cases e
              refine ⟨?_, rdSl_rep h H hL hp hin.2 hr.2 h2⟩
              have hf1 := hf.1
              subst hf1
              obtain ⟨ad, cs, h3, h4, h5⟩ := leafsAt_rep h hr.1 hls
              refine ⟨ad, h3, fun _ => ?_, cs, (rdV_rep h H hL h4 hy).lv, h5⟩
              have hL' := hL rfl
              have h6 := hr.1
              cases s with
              | lf lf0 =>
                cases lf0 with
                | ptr b o =>
                  obtain ⟨blk, base, h7, h8⟩ := h6
                  rw [h8] at h3; cases h3
                  exact hL'.box (by simpa [lentS] using hf.2) b blk base h7
                | _ => simp [St.leafsAt] at hls
              | ep id i o =>
                obtain ⟨ai, blk, base, m, h7, h8, _, h9⟩ := h6
                rw [h9] at h3; cases h3
                exact hL'.arr id ai blk base m (by simpa [lentS] using hf.2) h7 h8
              | rp ls' => exact absurd rfl (hnr ls')
              | _ => simp [St.leafsAt] at hls
            · cases e
          · cases e
        · cases e
  | (_, .mix g b) :: l, s :: ss, v :: vs, x, hin, hr, e => by
    simp only [List.all_cons, Bool.and_eq_true, ES.inP, Bool.or_eq_true, beq_iff_eq, Bool.not_eq_true'] at hin
    simp only [rdSl] at e
    cases hg : (s.isAg == g && s.leafs.length == bsz b)
    · rw [hg] at e; cases e
    · rw [hg] at e
      simp only [cond_true] at e
      simp only [Bool.and_eq_true, beq_iff_eq] at hg
      split at e
      · rename_i y hy
        split at e
        · rename_i ys h2
          cases e
          refine ⟨?_, rdSl_rep h H hL hp hin.2 hr.2 h2⟩
          obtain ⟨⟨⟨hin1, hin2⟩, hin3⟩, _⟩ := hin
          have hb0 : 0 < bsz b := by
            cases b with
            | nil => simp at hin3
            | cons b0 b1 =>
              simp only [bsz]
              have : 0 < b0.sz := by
                cases b0 with
                | val k => exact k.sz_pos
                | fix f => exact Nat.one_pos
              omega
          have hne : s.leafs ≠ [] := fun hc => by rw [hc] at hg; simp at hg; omega
          have hlf := leafs_rep' hr.1 hne
          have h3 := rdBx_rep h H hL hp hlf (by omega) hy
          have hlen := hlf.length
          rw [List.take_of_length_le (by omega)] at h3
          have h4 := hr.1
          cases s with
          | lf l0 =>
            have hgf : g = false := by rw [← hg.1]; rfl
            subst hgf
            have hone : v.cells.toList = [v] := cells_one (RepLeaf.one (show RepLeaf w (G.ok C) G l0 v from h4))
            rw [hone] at h3
            simp only [cond_false]
            have hl3 := h3.length
            match hmk : mkBox b y, h3, hl3 with
            | [m0], h3, _ => exact h3.1
          | ag ls =>
            have hgt : g = true := by rw [← hg.1]; rfl
            subst hgt
            obtain ⟨vs', rfl, _⟩ := h4
            exact ⟨vs', rfl, by simpa [Value.cells] using h3⟩
          | _ => simp [Slot.leafs] at hne
        · cases e
      · cases e
  | (_, .fix f) :: l, s :: ss, v :: vs, x, hin, hr, e => by
    simp only [List.all_cons, Bool.and_eq_true] at hin
    simp only [rdSl] at e
    split at e
    · rename_i y
      cases hc : chkLeaf R f y
      · rw [hc] at e; cases e
      · rw [hc] at e
        simp only [cond_true] at e
        exact ⟨chkLeaf_rep hp hc hr.1, rdSl_rep h H hL hp hin.2 hr.2 e⟩
    · cases e
  | [], _ :: _, _, _, _, _, e | (_, .val _ _) :: _, [], _, _, _, _, e | (_, .rp _) :: _, [], _, _, _, _, e | (_, .mix _ _) :: _, [], _, _, _, _, e | (_, .fix _) :: _, [], _, _, _, _, e => by simp [rdSl] at e
  | [], [], _ :: _, _, _, hr, _ | (_, .val _ _) :: _, _ :: _, [], _, _, hr, _ | (_, .rp _) :: _, _ :: _, [], _, _, hr, _ | (_, .mix _ _) :: _, _ :: _, [], _, _, hr, _ | (_, .fix _) :: _, _ :: _, [], _, _, hr, _ => hr.elim
end
end Go.Ev

namespace Go.Ev
section
variable {P : Program} {C C2 : Cx} {G : Gh} {st : St} {a : Act} {w w' : World} {ok ok' : Nat → Prop} {R : Ren} {p : Sp} {fl : Bool}
theorem boxs_get : ∀ {l : List (Nat × List BS)} {x : BsArgs l} {t : Nat} {ls' : List Leaf}, l.all (fun q => Nat.blt q.1 65000) = true → rdBxs fl R st l = some x → (mkBoxs l x).get t = some ls' →
    ∃ bs c d ls, look l t = some bs ∧ look R.b t = some (c, d) ∧ st.box.get c = some ls ∧ ∃ y, rdBx fl R st bs (ls.drop d) = some y ∧ ls' = mkBox bs y
  | [], x, t, ls', _, _, e => by simp [mkBoxs, Tr.get] at e
  | q :: l, x, t, ls', hl, hr, e => by
    simp only [List.all_cons, Bool.and_eq_true] at hl
    simp only [rdBxs] at hr
    split at hr
    · rename_i c d hcd
      split at hr
      · rename_i ls hls
        split at hr
        · rename_i y hy
          split at hr
          · rename_i ys h2
            cases hr
            simp only [mkBoxs] at e
            by_cases et : t = q.1
            · subst et
              rw [Tr.get_set_same _ _ (Nat.le_of_ble_eq_true hl.1)] at e; cases e
              exact ⟨q.2, c, d, ls, by simp [look], hcd, hls, y, hy, rfl⟩
            · rw [Tr.get_set_ne _ _ et] at e
              obtain ⟨bs, c', d', ls'', h3, h4⟩ := boxs_get hl.2 h2 e
              refine ⟨bs, c', d', ls'', ?_, h4⟩
              simp only [look]
              rw [beq_eq_false_iff_ne.2 (fun hc => et hc.symm)]; exact h3
          · cases hr
        · cases hr
      · cases hr
    · cases hr
theorem boxs_all : ∀ {l : List (Nat × List BS)} {x : BsArgs l} {t : Nat} {bs : List BS}, l.all (fun q => Nat.blt q.1 65000) = true → look l t = some bs → ∃ ls, (mkBoxs l x).get t = some ls
  | [], _, _, _, _, h => by cases h
  | q :: l, x, t, bs, hl, h => by
    simp only [List.all_cons, Bool.and_eq_true] at hl
    simp only [mkBoxs]
    by_cases et : t = q.1
    · subst et; exact ⟨_, Tr.get_set_same _ _ (Nat.le_of_ble_eq_true hl.1)⟩
    · simp only [look] at h
      rw [beq_eq_false_iff_ne.2 (fun hc => et hc.symm)] at h
      obtain ⟨ls, h1⟩ := boxs_all (x := x.2) hl.2 h
      exact ⟨ls, by rw [Tr.get_set_ne _ _ et]; exact h1⟩
theorem arrs_get : ∀ {l : List (Nat × K × Bool)} {x : AArgs l} {t : Nat} {r' : Arr}, l.all (fun q => Nat.blt q.1 65000) = true → rdAs R st l = some x → (mkArrs l x).get t = some r' →
    ∃ q, look l t = some q ∧ ((∃ i r, look R.a t = some (some i) ∧ st.arr.get i = some r ∧ r' = ⟨r.e, r.l, q.2⟩ ∧ (q.2 = true → r.deep = true)) ∨ (look R.a t = some none ∧ r' = ⟨q.1, [], q.2⟩))
  | [], x, t, r', _, _, e => by simp [mkArrs, Tr.get] at e
  | q :: l, x, t, r', hl, hr, e => by
    simp only [List.all_cons, Bool.and_eq_true] at hl
    simp only [rdAs] at hr
    have hstep : ∀ {y : List q.2.1.T} {ys : AArgs l}, rdAs R st l = some ys → x = (y, ys) → t ≠ q.1 → ∃ q', look (q :: l) t = some q' ∧ ((∃ i r, look R.a t = some (some i) ∧ st.arr.get i = some r ∧ r' = ⟨r.e, r.l, q'.2⟩ ∧ (q'.2 = true → r.deep = true)) ∨ (look R.a t = some none ∧ r' = ⟨q'.1, [], q'.2⟩)) := fun {y ys} h2 hx et => by
      subst hx
      simp only [mkArrs] at e
      rw [Tr.get_set_ne _ _ et] at e
      obtain ⟨q', h3, h4⟩ := arrs_get hl.2 h2 e
      refine ⟨q', ?_, h4⟩
      simp only [look]
      rw [beq_eq_false_iff_ne.2 (fun hc => et hc.symm)]; exact h3
    split at hr
    · rename_i i hi
      split at hr
      · rename_i y hy
        split at hr
        · rename_i ys h2
          simp only [Option.some.injEq] at hr
          by_cases et : t = q.1
          · subst et
            subst hr
            simp only [mkArrs] at e
            rw [Tr.get_set_same _ _ (Nat.le_of_ble_eq_true hl.1)] at e; cases e
            refine ⟨q.2, by simp [look], .inl ⟨i, ?_⟩⟩
            unfold rdA1 at hy
            split at hy
            · rename_i r hr
              cases hd : (!q.2.2 || r.deep)
              · rw [hd] at hy; cases hy
              · rw [hd] at hy
                simp only [cond_true] at hy
                split at hy
                · rename_i he
                  refine ⟨r, hi, hr, ?_, fun hpt => by rw [hpt] at hd; simpa using hd⟩
                  obtain ⟨re, rl, rdp⟩ := r
                  simp only at he
                  have hy' := Option.some.inj hy
                  simp only at hy'
                  clear hstep
                  generalize q.2.1 = k at *
                  subst he
                  subst hy'
                  rfl
                · cases hy
            · cases hy
          · exact hstep h2 hr.symm et
        · cases hr
      · cases hr
    · rename_i hi
      split at hr
      · rename_i ys h2
        simp only [Option.some.injEq] at hr
        by_cases et : t = q.1
        · subst et
          subst hr
          simp only [mkArrs] at e
          rw [Tr.get_set_same _ _ (Nat.le_of_ble_eq_true hl.1)] at e; cases e
          exact ⟨q.2, by simp [look], .inr ⟨hi, rfl⟩⟩
        · exact hstep h2 hr.symm et
      · cases hr
    · cases hr
theorem arrs_all : ∀ {l : List (Nat × K × Bool)} {x : AArgs l} {t : Nat} {q : K × Bool}, l.all (fun q => Nat.blt q.1 65000) = true → look l t = some q → ∃ r, (mkArrs l x).get t = some r
  | [], _, _, _, _, h => by cases h
  | q :: l, x, t, bs, hl, h => by
    simp only [List.all_cons, Bool.and_eq_true] at hl
    simp only [mkArrs]
    by_cases et : t = q.1
    · subst et; exact ⟨_, Tr.get_set_same _ _ (Nat.le_of_ble_eq_true hl.1)⟩
    · simp only [look] at h
      rw [beq_eq_false_iff_ne.2 (fun hc => et hc.symm)] at h
      obtain ⟨ls, h1⟩ := arrs_all (x := x.2) hl.2 h
      exact ⟨ls, by rw [Tr.get_set_ne _ _ et]; exact h1⟩
theorem ndA_mem : ∀ {l : List (Nat × Option Nat)} {j j' i : Nat}, ndA l = true → (j, some i) ∈ l → (j', some i) ∈ l → j = j'
  | [], _, _, _, _, h, _ => by simp at h
  | q :: l, j, j', i, hn, h, h' => by
    simp only [ndA, Bool.and_eq_true] at hn
    have hno : q.2 = some i → ∀ r ∈ l, r.2 ≠ some i := fun hq r hr hc => by
      have h1 := hn.1
      rw [hq] at h1
      simp only [Bool.not_eq_true', List.any_eq_false] at h1
      exact h1 r hr (by simp [hc])
    rcases List.mem_cons.1 h with e | h <;> rcases List.mem_cons.1 h' with e' | h'
    · rw [← e] at e'; exact (Prod.mk.inj e').1.symm
    · exact absurd rfl (hno (by rw [← e]) _ h')
    · exact absurd rfl (hno (by rw [← e']) _ h)
    · exact ndA_mem hn.2 h h'
theorem ndA_look {l : List (Nat × Option Nat)} {j j' i : Nat} (hn : ndA l = true) (h : look l j = some (some i)) (h' : look l j' = some (some i)) : j = j' := ndA_mem hn (look_mem h) (look_mem h')
theorem apR_symm {x y : Option (Nat × Nat × Nat)} (h : apR x y = true) : apR y x = true := by
  unfold apR at h ⊢
  split at h
  · simp only [Bool.or_eq_true, Bool.not_eq_true', beq_eq_false_iff_ne] at h ⊢
    rcases h with h | h | h
    · exact .inl (Ne.symm h)
    · exact .inr (.inr h)
    · exact .inr (.inl h)
  · cases h
theorem ndB_mem : ∀ {l : List (Nat × List BS)} {q r : Nat × List BS}, ndB R l = true → q ∈ l → r ∈ l → q.1 ≠ r.1 → apR (rng R q) (rng R r) = true
  | [], _, _, _, h, _, _ => by simp at h
  | s :: l, q, r, hn, h, h', hne => by
    simp only [ndB, Bool.and_eq_true] at hn
    rcases List.mem_cons.1 h with e | g <;> rcases List.mem_cons.1 h' with e' | g'
    · exact absurd (by rw [e, e']) hne
    · rw [e]; exact List.all_eq_true.1 hn.1 r g'
    · rw [e']; exact apR_symm (List.all_eq_true.1 hn.1 q g)
    · exact ndB_mem hn.2 g g' hne
structure RenOk (p : Sp) (st : St) (R : Ren) : Prop where
  a : ndA R.a = true
  nk : ndK R.a = true
  b : ndB R p.box = true
  fit : ∀ b bs, look p.box b = some bs → ∃ c d ls, look R.b b = some (c, d) ∧ st.box.get c = some ls ∧ d + bsz bs ≤ ls.length ∧ 0 < bsz bs
  kb : ∀ b q, look R.b b = some q → ∃ bs, look p.box b = some bs
  ka : ∀ j q, look R.a j = some q → ∃ e, look p.arr j = some e
theorem bsz_pos {bs : List BS} (h : bs.isEmpty = false) : 0 < bsz bs := by
  cases bs with
  | nil => simp at h
  | cons b0 b1 =>
    simp only [bsz]
    have : 0 < b0.sz := by
      cases b0 with
      | val k => exact k.sz_pos
      | fix f => exact Nat.one_pos
    omega
theorem okRen_spec (h : okRen p st R = true) : RenOk p st R := by
  unfold okRen at h
  simp only [Bool.and_eq_true] at h
  obtain ⟨⟨⟨h1, h1'⟩, h2⟩, h3, h4, h5⟩ := h
  refine ⟨h1, h1', h2, fun b bs hb => ?_, fun b q hb => any_look (List.all_eq_true.1 h4 _ (look_mem hb)), fun b q hb => any_look (List.all_eq_true.1 h5 _ (look_mem hb))⟩
  have := List.all_eq_true.1 h3 _ (look_mem hb)
  unfold fitB at this
  split at this
  · rename_i c lo hi hr
    split at this
    · rename_i ls hls
      simp only [Bool.and_eq_true, Bool.not_eq_true'] at this
      unfold rng at hr
      split at hr
      · rename_i c' d hcd
        cases hr
        exact ⟨c, lo, ls, hcd, hls, Nat.le_of_ble_eq_true this.1, bsz_pos this.2⟩
      · cases hr
    · cases this
  · cases this
structure SubC (C C2 : Cx) (G2 : Gh) (p : Sp) (w : World) : Prop where
  box : ∀ b blk base bs, G2.B b = some (blk, base) → look p.box b = some bs → ∀ i, i < bsz bs → (C.N0 ≤ blk ∨ C.T0 ⟨blk, base + i, none⟩) → (C2.N0 ≤ blk ∨ C2.T0 ⟨blk, base + i, none⟩)
  arr : ∀ j ai blk base m, G2.A j = some ai → ai.loc = some (blk, base, m) → ∀ o, (C.N0 ≤ blk ∨ C.T0 ⟨blk, o, none⟩) → (C2.N0 ≤ blk ∨ C2.T0 ⟨blk, o, none⟩)
  all : ∀ j ai blk base m, G2.A j = some ai → ai.loc = some (blk, base, m) → C.all blk → C2.all blk
  inn : ∀ j b, b ∈ G2.inner j → C.all b → C2.all b
  X : ∀ i, C2.X i → ¬ C2.may i ∧ ¬ C2.O i
  size : C2.N0 ≤ w.heap.size
  pin : ∀ b q, C2.pin b = some q → G2.B b = some q ∧ 60000 ≤ b ∧ b < 60016
  pinA : ∀ id q, C2.pinA id = some q → (64000 ≤ id ∧ id < 65000) ∧ ∀ ai, G2.A id = some ai → ai = q
  E : C2.E = C.E
theorem MemR.small (h : Rel C G st a w) (hsp : p.ok = true) (hr : RenOk p st R) {x : p.T} (hxb : rdBxs fl R st p.box = some x.2.1) (hxa : rdAs R st p.arr = some x.2.2)
    (H : Keeps w w (G.ok C) ((R.gh p G).ok C2)) (hL : fl = true → Lent G R ((R.gh p G).ok C2)) (hC : SubC C C2 (R.gh p G) p w) : MemR C2 (R.gh p G) (p.hd x).box (p.hd x).arr w := by
  unfold Sp.ok at hsp
  simp only [Bool.and_eq_true] at hsp
  obtain ⟨⟨k1, k2⟩, ⟨k3, k4, k5⟩, k6, k7, k8⟩ := hsp
  have hnone : ∀ j, look R.a j = some none → ∃ q, look p.arr j = some q := fun j hj => hr.ka j _ hj
  have hbox : ∀ b ls', (p.hd x).box.get b = some ls' → ∃ bs c d ls blk base, look p.box b = some bs ∧ look R.b b = some (c, d) ∧ st.box.get c = some ls ∧ G.B c = some (blk, base) ∧ BoxAt C G w blk base ls ∧ d + bsz bs ≤ ls.length ∧ 0 < bsz bs ∧ ls'.length = bsz bs ∧
      ∀ vs, RepLeafs w (G.ok C) G ls vs → RepLeafs w ((R.gh p G).ok C2) (R.gh p G) ls' ((vs.drop d).take (bsz bs)) := fun b ls' hb => by
    obtain ⟨bs, c, d, ls, h1, h2, h3, y, h4, rfl⟩ := boxs_get k4 hxb hb
    obtain ⟨c', d', ls2, h5, h6, h7, h8⟩ := hr.fit b bs h1
    rw [h2] at h5; cases h5
    rw [h3] at h6; cases h6
    obtain ⟨blk, base, h9, h10⟩ := h.mem.boxR c ls h3
    obtain ⟨vs0, h11, _⟩ := h10.vs
    have key : ∀ vs, RepLeafs w (G.ok C) G ls vs → RepLeafs w ((R.gh p G).ok C2) (R.gh p G) (mkBox bs y) ((vs.drop d).take (bsz bs)) := fun vs hvs => rdBx_rep h H hL hnone (hvs.drop d) (by rw [List.length_drop]; omega) h4
    have := (key vs0 h11).length
    have hl := h11.length
    simp only [List.length_take, List.length_drop] at this
    exact ⟨bs, c, d, ls, blk, base, h1, h2, h3, h9, h10, h7, h8, by omega, key⟩
  have harr : ∀ j r', (p.hd x).arr.get j = some r' → ∃ q, look p.arr j = some q ∧ ((∃ i r ai, look R.a j = some (some i) ∧ st.arr.get i = some r ∧ G.A i = some ai ∧ ArrAt C G w ai r ∧ r' = ⟨r.e, r.l, q.2⟩ ∧ (q.2 = true → r.deep = true)) ∨ (look R.a j = some none ∧ r' = ⟨q.1, [], q.2⟩)) := fun j r' hj => by
    obtain ⟨q, h1, h2⟩ := arrs_get k3 hxa hj
    refine ⟨q, h1, ?_⟩
    rcases h2 with ⟨i, r, h3, h4, h5, h6⟩ | h2
    · obtain ⟨ai, h7, h8⟩ := h.mem.arrR i r h4
      exact .inl ⟨i, r, ai, h3, h4, h7, h8, h5, h6⟩
    · exact .inr h2
  have hnil : ∀ (q : K × Bool), ArrAt C2 (R.gh p G) w ⟨q.1.sz, 0, none⟩ ⟨q.1, [], q.2⟩ := fun q =>
    ⟨rfl, rfl, fun _ => rfl, fun _ _ _ hl => (by cases hl), fun _ _ _ hl => (by cases hl), fun _ _ _ hl => (by cases hl), fun _ _ _ hl => (by cases hl), fun _ _ _ hl => (by cases hl)⟩
  refine ⟨fun b q hb => ?_, fun j ai hj => ?_, fun b ls' hb => ?_, fun j r' hj => ?_, fun i hi => h.mem.lt i (gh_wr hi), fun b b' ls ls' blk base base' hne h1 h2 h3 h4 => ?_, fun i j ai aj blk base m base' m' hne h1 h2 h3 h4 => ?_, fun b j ai blk base base' m hB hA hl => ?_, fun j r' ai hj hA hd => ?_,
    fun j => ?_, fun i j hne b h1 h2 => ?_, fun j b hb => ?_, hC.X, hC.size, fun j ai hj => ?_, fun b q hb => ?_, hC.pin, hC.pinA, h.mem.E.trans hC.E.symm⟩
  · obtain ⟨c, d, base, h1, _⟩ := gh_B hb
    obtain ⟨bs, h2⟩ := hr.kb b _ h1
    exact boxs_all k4 h2
  · have : ∃ q, look R.a j = some q := by
      rcases gh_A hj with ⟨i, h1, _⟩ | ⟨h1, _⟩ <;> exact ⟨_, h1⟩
    obtain ⟨q, h1⟩ := this
    obtain ⟨e, h2⟩ := hr.ka j q h1
    exact arrs_all k3 h2
  · obtain ⟨bs, c, d, ls, blk, base, h1, h2, h3, h4, h5, h6, h7, h8, h9⟩ := hbox b ls' hb
    have hB := gh_B' (p := p) h2 h4
    obtain ⟨vs, h10, h11⟩ := h5.vs
    have hlen := h10.length
    refine ⟨blk, base + d, hB, fun i hi => ?_, fun i hi => ?_, _, h9 vs h10, fun j v hj => ?_⟩
    · rw [h8] at hi
      have := h5.wr (d + i) (by omega)
      rw [← Nat.add_assoc] at this
      exact hC.box b blk (base + d) bs hB h1 i hi this
    · rw [h8] at hi
      have := h5.fz (d + i) (by omega)
      rwa [← Nat.add_assoc] at this
    · rw [List.getElem?_take] at hj
      split at hj
      · rw [List.getElem?_drop] at hj
        have := h11 _ v hj
        rwa [← Nat.add_assoc] at this
      · cases hj
  · obtain ⟨q, h1, h2⟩ := harr j r' hj
    rcases h2 with ⟨i, r, ai, h3, h4, h5, h6, rfl, h7⟩ | ⟨h2, rfl⟩
    · have hA : (R.gh p G).A j = some ai := by rw [gh_A' h3]; exact h5
      refine ⟨ai, hA, h6.sz, h6.n, h6.nil, fun blk base m hl => ?_, fun blk base m hl o ho => hC.arr j ai blk base m hA hl _ (h6.wr blk base m hl o ho), h6.le, h6.there, fun blk base m hl k hk => ?_⟩
      · rcases h6.may blk base m hl with hm | ⟨o, hm⟩
        · exact (hC.arr j ai blk base m hA hl 0 (.inl hm)).elim .inl fun ht => .inr ⟨_, ht⟩
        · exact (hC.arr j ai blk base m hA hl o (.inr hm)).elim .inl fun ht => .inr ⟨_, ht⟩
      · obtain ⟨cs, q1, q2⟩ := h6.el blk base m hl k hk
        exact ⟨cs, q1.trans H, q2⟩
    · exact ⟨⟨q.1.sz, 0, none⟩, by simp only [Ren.gh, h2, h1]; rfl, hnil q⟩
  · obtain ⟨bs, c, d, l1, b1, o1, g1, g2, g3, g4, g5, g6, g7, g8, g9⟩ := hbox b ls h1
    obtain ⟨bs', c', d', l2, b2, o2, f1, f2, f3, f4, f5, f6, f7, f8, f9⟩ := hbox b' ls' h2
    rw [gh_B' g2 g4] at h3; cases h3
    rw [gh_B' f2 f4] at h4; cases h4
    rw [g8, f8]
    have hap := ndB_mem hr.b (look_mem g1) (look_mem f1) hne
    simp only [rng, g2, f2, apR, Bool.or_eq_true, Bool.not_eq_true', beq_eq_false_iff_ne] at hap
    by_cases hcc : c = c'
    · subst hcc
      rw [g4] at f4; cases f4
      rcases hap with hap | hap | hap
      · exact absurd rfl hap
      · have := Nat.le_of_ble_eq_true hap; omega
      · have := Nat.le_of_ble_eq_true hap; omega
    · have := h.mem.bb c c' l1 l2 blk o1 o2 hcc g3 f3 g4 f4
      omega
  · obtain ⟨i', h5, h6⟩ := gh_loc h1 h3
    obtain ⟨j', h7, h8⟩ := gh_loc h2 h4
    refine h.mem.aa i' j' ai aj blk base m base' m' (fun hc => ?_) h6 h8 h3 h4
    subst hc
    exact hne (ndA_look hr.a h5 h7)
  · obtain ⟨c, d, base2, h1, h2, _⟩ := gh_B hB
    obtain ⟨i', h3, h4⟩ := gh_loc hA hl
    exact h.mem.ab c i' ai blk base2 base' m h2 h4 hl
  · obtain ⟨q, h1, h2⟩ := harr j r' hj
    rcases h2 with ⟨i, r, ai', h3, h4, h5, h6, rfl, h7⟩ | ⟨h2, rfl⟩
    · rw [gh_A' h3, h5] at hA; cases hA
      have ho := h.mem.own i r ai h4 h5 (h7 hd)
      have hA2 : (R.gh p G).A j = some ai := by rw [gh_A' h3]; exact h5
      rw [gh_F' h3]
      exact ⟨fun blk base m hl => hC.all j ai blk base m hA2 hl (ho.new blk base m hl), ho.len, ho.el⟩
    · rcases gh_A hA with ⟨i, h3, _⟩ | ⟨_, q', _, rfl⟩
      · rw [h2] at h3; cases h3
      · have hF : (R.gh p G).F j = [] := by simp only [Ren.gh, h2]
        rw [hF]
        exact ⟨fun _ _ _ hl => (by cases hl), rfl, fun _ _ _ hl => (by cases hl)⟩
  · simp only [Gh.inner, Ren.gh]
    split
    · exact h.mem.fnd _
    · simp
  · obtain ⟨i', h3, h4⟩ := gh_inner h1
    obtain ⟨j', h5, h6⟩ := gh_inner h2
    refine h.mem.fdj i' j' (fun hc => ?_) b h4 h6
    subst hc
    exact hne (ndA_look hr.a h3 h5)
  · obtain ⟨i', h3, h4⟩ := gh_inner hb
    obtain ⟨h5, h6, h7⟩ := h.mem.fwr i' b h4
    exact ⟨hC.inn j b hb h5, h6, fun hc => h7 (gh_wr hc)⟩
  · have : ∃ q, look R.a j = some q := by
      rcases gh_A hj with ⟨i, h1, _⟩ | ⟨h1, _⟩ <;> exact ⟨_, h1⟩
    obtain ⟨q, h1⟩ := this
    obtain ⟨e, h2⟩ := hr.ka j q h1
    exact Nat.le_of_ble_eq_true (List.all_eq_true.1 k3 _ (look_mem h2))
  · obtain ⟨c, d, base, h1, _⟩ := gh_B hb
    obtain ⟨bs, h2⟩ := hr.kb b _ h1
    exact Nat.le_of_ble_eq_true (List.all_eq_true.1 k4 _ (look_mem h2))
theorem mat_some {x : p.T} {ss : List Slot} (e : mat fl p R st ss = some x) : RenOk p st R ∧ rdSl fl R st p.env ss = some x.1 ∧ rdBxs fl R st p.box = some x.2.1 ∧ rdAs R st p.arr = some x.2.2 := by
  unfold mat at e
  cases ho : okRen p st R
  · rw [ho] at e; cases e
  · rw [ho] at e
    simp only [cond_true] at e
    split at e
    · rename_i y1 h1
      split at e
      · rename_i y2 h2
        split at e
        · rename_i y3 h3
          cases e
          exact ⟨okRen_spec ho, h1, h2, h3⟩
        · cases e
      · cases e
    · cases e
end
end Go.Ev

namespace Go.Ev
def resS (ty : Ty) (st : St) : ResultVar → Option Slot
  | .tmp t => some (st.ev (.tmp t))
  | .cell a t => match ty t with
    | some ti => match st.leafsAt ti.size (st.ev (.tmp a)) with
      | some ls => bif ls.length == ti.size then mkSlot ti.agg ls else none
      | none => none
    | none => none
def R0 (p : Sp) : Ren := ⟨(p.box.filter fun q => Nat.ble 60000 q.1).map fun q => (q.1, q.1, 0), (p.arr.filter fun q => Nat.ble 64000 q.1).map fun q => (q.1, some q.1)⟩
def disR (R : Ren) (p : Sp) (st : St) (ss : List Slot) : Ren := disBoxs st (disEnv R p.env ss) p.box
def eqO : Option (Nat × Nat) → Nat → Bool
  | some (c, d), b => c == b && d == 0
  | none, _ => false
def eqA : Option (Option Nat) → Nat → Bool
  | some (some i), j => i == j
  | _, _ => false
def pinsB (R : Ren) (st : St) : List Nat → Bool
  | [] => true
  | j :: js => (match st.box.get (60000 + j) with
    | none => true
    | some _ => eqO (look R.b (60000 + j)) (60000 + j)) && pinsB R st js
def pinsA (R : Ren) (p : Sp) : Bool := p.arr.all fun r => Nat.blt r.1 64000 || eqA (look R.a r.1) r.1
def toS (p : Sp) (st : St) (ss : List Slot) : Option p.T :=
  let R := disR (R0 p) p st ss
  let s1 := preM false p R st ss
  bif pinsB R s1.1 (List.range 16) && pinsA R p then mat false p R s1.1 s1.2 else none
def resSs (ty : Ty) (st : St) : List ResultVar → Option (List Slot)
  | [] => some []
  | v :: vs => match resS ty st v with
    | some s => match resSs ty st vs with
      | some ss => some (s :: ss)
      | none => none
    | none => none
def settle1 (st : St) (v : ResultVar) : St :=
  match v with
  | .tmp t => match st.env.get t with
    | some (.lf (.sub id o n)) => match st.arr.get id with
      | some a => bif Nat.blt id 60000 then (st.renew id ⟨a.e, (a.l.drop o).take n, a.deep && a.e.flat⟩).setEnv t (.lf (.own id)) else st
      | none => st
    | _ => st
  | _ => st
def settleC (st : St) (b k : Nat) : St :=
  match st.box.get b with
  | some ls => match ls[k]? with
    | some (.sub id o n) => match st.arr.get id with
      | some a => bif Nat.blt id 64000 then
          (match (st.renew id ⟨a.e, (a.l.drop o).take n, a.deep && a.e.flat⟩).box.get b with
          | some ls1 => { st.renew id ⟨a.e, (a.l.drop o).take n, a.deep && a.e.flat⟩ with box := (st.renew id ⟨a.e, (a.l.drop o).take n, a.deep && a.e.flat⟩).box.set b (some (ls1.set k (.own id))) }
          | none => st.renew id ⟨a.e, (a.l.drop o).take n, a.deep && a.e.flat⟩) else st
      | none => st
    | _ => st
  | none => st
def settleBs : St → Nat → List Nat → St
  | st, _, [] => st
  | st, b, k :: ks => settleBs (settleC st b k) b ks
def settleB : St → List (Nat × List BS) → St
  | st, [] => st
  | st, p :: l => settleB (bif Nat.ble 60000 p.1 then settleBs st p.1 (List.range p.2.length) else st) l
def settle : St → List ResultVar → St
  | st, [] => st
  | st, v :: vs => settle (settle1 st v) vs
def finN (ty : Ty) (q : Sp) (vs : List ResultVar) : Ex → St → Option q.T
  | .exit _, _ => none
  | _, st => match resSs ty (settle (settleB st q.box) vs) vs with
    | some ss => toS q (settle (settleB st q.box) vs) ss
    | none => none
def tupV (vs : List Value) : Value := if h : vs.toArray.size = 1 then vs.toArray[0] else .tuple vs.toArray
structure InS (C : Cx) (G : Gh) (p : Sp) (x : p.T) (vals : List Value) (w : World) : Prop where
  mem : MemR C G (p.hd x).box (p.hd x).arr w
  slots : RepSlots w (G.ok C) G (mkSl p.env x.1) vals
  w0 : C.w0 = w
  pin : ∀ b q, G.B b = some q → C.pin b = some q
  pinA : ∀ j ai, 64000 ≤ j → G.A j = some ai → C.pinA j = some ai
structure OutS (C : Cx) (G : Gh) (q : Sp) (y : q.T) (vs : List Value) (w : World) : Prop where
  mem : MemR C G (q.hd y).box (q.hd y).arr w
  slots : RepSlots w (G.ok C) G (mkSl q.env y.1) vs
  fr : Fr C w
def FnS (P : Program) (f : FuncId) (p q : Sp) (F : p.T → Option q.T) : Prop :=
  Callable P f ∧ ∀ (C : Cx) (G : Gh) (w : World) (x : p.T) (y : q.T) (vals : List Value), F x = some y → InS C G p x vals w →
    Calls P f vals.toArray w fun e w' => ∃ vs G', e = .returned (tupV vs) ∧ OutS C G' q y vs w'
section
variable {P : Program} {C : Cx} {G : Gh} {st : St} {a : Act} {w w' : World} {ok ok' : Nat → Prop}
def resFn (tm : Array Value) : ResultVar → Sem Value
  | .tmp t => pure (tm.getD t undef)
  | .cell a t => do loadVar t (← asAddr (tm.getD a undef))
theorem run_loadVar_gen {t : TypeId} {i : TypeInfo} {d : TypeDesc} (hi : P.info? t = some i) (hd : P.underlying t = some d) {ad : Addr} {cs : List Value} (hl : cs.length = i.size)
    (hc : ∀ j v, cs[j]? = some v → w.cell? (ad.add j) = some v) (v : Value) (hv : if d.isRow then v = .agg cs.toArray else cs = [v]) :
    (loadVar t ad).run P w = .ok v w := by
  simp only [Sem.run_bind, Sem.run_pure, Result.andThen_ok, loadVar, run_isAgg hd]
  cases hr : d.isRow
  · rw [hr] at hv
    simp at hv
    subst hv
    have := hc 0 v rfl
    rw [Addr.add_zero'] at this
    simpa using run_load_cell (P := P) this
  · rw [hr] at hv
    simp at hv
    subst hv
    have := run_loadCells_list (P := P) w ad cs hc
    simp [Sem.run_bind, run_sizeOf hi, ← hl, this]
theorem resS_rep {ty : Ty} (hty : TyOk P ty) (h : Rel C G st a w) {v : ResultVar} {s : Slot} (e : resS ty st v = some s) : ∃ u, (resFn a.tmps v).run P w = .ok u w ∧ RepSlot w (G.ok C) G s u := by
  cases v with
  | tmp t =>
    simp only [resS, Option.some.injEq] at e
    subst e
    exact ⟨a.tmps.getD t undef, by simp only [resFn, Sem.run_pure], h.ev (.tmp t)⟩
  | cell x t =>
    simp only [resS] at e
    split at e
    · rename_i ti hti
      split at e
      · rename_i ls hls
        cases hlen : (ls.length == ti.size)
        · rw [hlen] at e; cases e
        · rw [hlen] at e
          simp only [cond_true] at e
          obtain ⟨ad, cs, hv, hr, hc⟩ := leafsAt_rep h (h.ev (.tmp x)) hls
          obtain ⟨v, h1, h2⟩ := mkSlot_rep hr e
          obtain ⟨i, z, hi, hsz, _⟩ := (hty t ti hti).info
          obtain ⟨d, hd, hrow, _⟩ := (hty t ti hti).und
          have hl : cs.length = i.size := by rw [hsz, ← hr.length]; simpa using hlen
          refine ⟨v, ?_, h1⟩
          have hv' : a.tmps.getD x undef = .pointer (some ad) := hv
          simp only [resFn, hv', asAddr, Sem.run_bind, Sem.run_pure, Result.andThen_ok]
          exact run_loadVar_gen hi hd hl hc v (by rw [hrow]; exact h2)
      · cases e
    · cases e
theorem results_run {fn : Func} {tm : Array Value} {us : List Value} (h : (fn.results.toList.mapM (resFn tm)).run P w = Result.ok us w) :
    (results fn tm).run P w = Result.ok (if h : us.toArray.size = 1 then us.toArray[0] else .tuple us.toArray) w := by
  have e : results fn tm = (do let vs ← fn.results.mapM (resFn tm); pure (if h : vs.size = 1 then vs[0] else .tuple vs)) := rfl
  have e2 : fn.results = fn.results.toList.toArray := by simp
  rw [e, e2, List.mapM_toArray]
  simp only [map_eq_pure_bind, Sem.run_bind, h, Result.andThen_ok, Sem.run_pure]
theorem RepSlots.length : ∀ {ss : List Slot} {vs : List Value}, RepSlots w ok G ss vs → ss.length = vs.length
  | [], [], _ => rfl
  | _ :: _, _ :: _, h => by simp [RepSlots.length h.2]
  | [], _ :: _, h => h.elim
  | _ :: _, [], h => h.elim
theorem RepSlots.get : ∀ {ss : List Slot} {vs : List Value}, RepSlots w ok G ss vs → ∀ (i : Nat) (s : Slot), ss[i]? = some s → ∃ v, vs[i]? = some v ∧ RepSlot w ok G s v
  | l :: ls, v :: vs, h, 0, _, e => by simp at e; subst e; exact ⟨v, rfl, h.1⟩
  | l :: ls, v :: vs, h, i + 1, _, e => by simpa using RepSlots.get h.2 i _ (by simpa using e)
  | [], [], _, _, _, e => by simp at e
  | [], _ :: _, h, _, _, _ => h.elim
  | _ :: _, [], h, _, _, _ => h.elim
theorem resSs_rep {ty : Ty} (hty : TyOk P ty) (h : Rel C G st a w) : ∀ {vs : List ResultVar} {ss : List Slot}, resSs ty st vs = some ss → ∃ us, (vs.mapM (resFn a.tmps)).run P w = .ok us w ∧ RepSlots w (G.ok C) G ss us
  | [], ss, e => by cases e; exact ⟨[], by simp, trivial⟩
  | v :: vs, ss, e => by
    simp only [resSs] at e
    split at e
    · rename_i s hs
      split at e
      · rename_i ss' h2
        cases e
        obtain ⟨u, u1, u2⟩ := resS_rep hty h hs
        obtain ⟨us, q1, q2⟩ := resSs_rep hty h h2
        exact ⟨u :: us, by simp only [List.mapM_cons, Sem.run_bind, u1, Result.andThen_ok, q1, Sem.run_pure], u2, q2⟩
      · cases e
    · cases e
theorem pinsB_spec {R : Ren} : ∀ {js : List Nat}, pinsB R st js = true → ∀ j ∈ js, ∀ ls, st.box.get (60000 + j) = some ls → look R.b (60000 + j) = some (60000 + j, 0)
  | [], _, j, hj, _, _ => by simp at hj
  | i :: js, h, j, hj, ls, hls => by
    simp only [pinsB, Bool.and_eq_true] at h
    rcases List.mem_cons.1 hj with rfl | hj
    · rw [hls] at h
      have h1 := h.1
      simp only at h1
      cases hl : look R.b (60000 + j) with
      | none => rw [hl] at h1; cases h1
      | some q =>
        rw [hl] at h1
        simp only [eqO, Bool.and_eq_true, beq_iff_eq] at h1
        obtain ⟨c, d⟩ := q
        simp only at h1
        rw [h1.1, h1.2]
    · exact pinsB_spec h.2 j hj ls hls
theorem eqA_spec {o : Option (Option Nat)} {j : Nat} (h : eqA o j = true) : o = some (some j) := by
  unfold eqA at h
  split at h
  · rename_i i
    have : i = j := by simpa using h
    subst this; rfl
  · cases h
theorem subC_self {R : Ren} {p : Sp} (h : Rel C G st a w) (hr : RenOk p st R) (h1 : pinsB R st (List.range 16) = true) (h2 : pinsA R p = true) : SubC C C (R.gh p G) p w := by
  refine ⟨fun _ _ _ _ _ _ _ _ h => h, fun _ _ _ _ _ _ _ _ h => h, fun _ _ _ _ _ _ _ h => h, fun _ _ _ h => h, h.mem.X, h.mem.size, fun b q hb => ?_, fun id q hb => ?_, rfl⟩
  · obtain ⟨h3, h4, h5⟩ := h.mem.pin b q hb
    obtain ⟨ls, hls⟩ := h.mem.bdom b q h3
    have := pinsB_spec h1 (b - 60000) (by simp; omega) ls (by rw [show 60000 + (b - 60000) = b by omega]; exact hls)
    rw [show 60000 + (b - 60000) = b by omega] at this
    exact ⟨by have := gh_B' (p := p) this (by exact h3 : G.B b = some (q.1, q.2)); simpa using this, h4, h5⟩
  · obtain ⟨h3, h4⟩ := h.mem.pinA id q hb
    refine ⟨h3, fun ai hA => ?_⟩
    have hk : ∃ e, look p.arr id = some e := by
      rcases gh_A hA with ⟨i, h5, _⟩ | ⟨h5, _⟩
      · exact hr.ka id _ h5
      · exact hr.ka id _ h5
    obtain ⟨e, he⟩ := hk
    have h6 := List.all_eq_true.1 h2 _ (look_mem he)
    simp only [Bool.or_eq_true] at h6
    rcases h6 with h6 | h6
    · have := Nat.le_of_ble_eq_true h6; omega
    · have hl := eqA_spec h6
      rw [gh_A' hl] at hA
      exact h4 ai hA
theorem gh_keeps {R : Ren} {p : Sp} : Keeps w w (G.ok C) ((R.gh p G).ok C) := Keeps.mono w fun i hi => ⟨hi.1, fun hc => hi.2 (gh_wr hc)⟩
theorem toS_rep {p : Sp} (hok : p.ok = true) (h : Rel C G st a w) {ss : List Slot} {vals : List Value} (hs : RepSlots w (G.ok C) G ss vals) {x : p.T} (e : toS p st ss = some x) :
    ∃ G', MemR C G' (p.hd x).box (p.hd x).arr w ∧ RepSlots w (G'.ok C) G' (mkSl p.env x.1) vals := by
  unfold toS at e
  simp only at e
  generalize hR : disR (R0 p) p st ss = R at e
  cases hp : (pinsB R (preM false p R st ss).1 (List.range 16) && pinsA R p)
  · rw [hp] at e; cases e
  · rw [hp] at e
    simp only [cond_true] at e
    simp only [Bool.and_eq_true] at hp
    obtain ⟨G1, g1, g2, g3⟩ := frz_rep (ids := valE p.env ss ++ valBs R st p.box) h hs
    have hpre : preM false p R st ss = frz (valE p.env ss ++ valBs R st p.box) st ss := rfl
    rw [hpre] at e hp
    obtain ⟨m1, m2, m3, m4⟩ := mat_some e
    have hsp := hok
    unfold Sp.ok at hsp
    simp only [Bool.and_eq_true] at hsp
    exact ⟨_, MemR.small (fl := false) g1 hok m1 m3 m4 gh_keeps (fun h => by cases h) (subC_self g1 m1 hp.1 hp.2), rdSl_rep (fl := false) g1 gh_keeps (fun h => by cases h) (fun j hj => m1.ka j _ hj) hsp.1.1 g3 m2⟩
theorem mkEnv_get : ∀ {l : List (Nat × ES)} {ss : List Slot} {t : Nat} {s : Slot}, l.all (fun q => Nat.blt q.1 65000) = true → (mkEnv l ss).get t = some s → ∃ (i : Nat) (e : ES), l[i]? = some (t, e) ∧ ss[i]? = some s
  | [], _, t, s, _, e => by simp [mkEnv, Tr.get] at e
  | _ :: _, [], t, s, _, e => by simp [mkEnv, Tr.get] at e
  | p :: l, s0 :: ss, t, s, hl, e => by
    simp only [List.all_cons, Bool.and_eq_true] at hl
    simp only [mkEnv] at e
    by_cases et : t = p.1
    · subst et
      rw [Tr.get_set_same _ _ (Nat.le_of_ble_eq_true hl.1)] at e; cases e
      exact ⟨0, p.2, rfl, rfl⟩
    · rw [Tr.get_set_ne _ _ et] at e
      obtain ⟨i, e', h1, h2⟩ := mkEnv_get hl.2 e
      exact ⟨i + 1, e', by simpa using h1, by simpa using h2⟩
def enumOk : Nat → List (Nat × ES) → Bool
  | _, [] => true
  | i, p :: l => p.1 == i && enumOk (i + 1) l
theorem enum_get : ∀ {l : List (Nat × ES)} {i j t : Nat} {e : ES}, enumOk i l = true → l[j]? = some (t, e) → t = i + j
  | [], _, _, _, _, _, h => by simp at h
  | p :: l, i, 0, t, e, h, hj => by
    simp only [enumOk, Bool.and_eq_true, beq_iff_eq] at h
    simp at hj; rw [hj] at h; exact h.1
  | p :: l, i, j + 1, t, e, h, hj => by
    simp only [enumOk, Bool.and_eq_true] at h
    have := enum_get h.2 (show l[j]? = some (t, e) by simpa using hj)
    omega
theorem settle1_rel (h : Rel C G st a w) {v : ResultVar} : ∃ G', Rel C G' (settle1 st v) a w := by
  unfold settle1
  split
  · rename_i t
    split
    · rename_i id o n ht
      split
      · rename_i r hr
        cases hid : Nat.blt id 60000
        · exact ⟨G, h⟩
        · have hid' : id < 60000 := Nat.le_of_ble_eq_true hid
          obtain ⟨h1, h2⟩ := h.env t _ ht
          obtain ⟨e, l, dp⟩ := r
          obtain ⟨G', h3, h4, _⟩ := trunc_arr h (by omega) hr (show RepLeaf w (G.ok C) G (.sub id o n) _ from h2)
          refine ⟨G', h3.size, h3.n, h3.dfr, fun t' s hs => ?_, h3.mem, h3.fr⟩
          by_cases e : t' = t
          · subst e
            have : s = .lf (.own id) := by
              have hs' : ((st.renew id _).env.set t' (some (.lf (.own id)))).get t' = some s := hs
              rw [Tr.get_set_same _ _ (by have := h.n; omega)] at hs'
              cases hs'; rfl
            subst this
            exact ⟨h1, h4⟩
          · have hs' : ((st.renew id _).env.set t (some (.lf (.own id)))).get t' = some s := hs
            rw [Tr.get_set_ne _ _ e] at hs'
            exact h3.env t' s hs'
      · exact ⟨G, h⟩
    · exact ⟨G, h⟩
  · exact ⟨G, h⟩
theorem settleC_rel (h : Rel C G st a w) (b k : Nat) : ∃ G', Rel C G' (settleC st b k) a w := by
  unfold settleC
  split
  · rename_i ls hb
    split
    · rename_i id o n hk
      split
      · rename_i r hr
        cases hid : Nat.blt id 64000
        · exact ⟨G, h⟩
        · simp only [cond_true]
          have hid' : id < 64000 := Nat.le_of_ble_eq_true hid
          obtain ⟨e, l, dp⟩ := r
          obtain ⟨blk, base, hB, hat⟩ := h.mem.boxR b ls hb
          obtain ⟨vs, hv1, hv2⟩ := hat.vs
          obtain ⟨v, hv3, hv4⟩ := hv1.get k _ hk
          obtain ⟨G', h3, h4, h5⟩ := trunc_arr h hid' hr hv4
          split
          · rename_i ls1 hb1
            obtain ⟨blk', base', hB', hat'⟩ := h3.mem.boxR b ls1 hb1
            rw [h5, hB] at hB'
            cases hB'
            obtain ⟨vs1, g1, g2⟩ := hat'.vs
            have hbl : b < 65000 := h.mem.ib b _ hB
            obtain ⟨hm, H, hle⟩ := h3.mem.upd_box (w' := w) hbl (ls' := ls1.set k (.own id)) (blk := blk) (base := base) (Nat.le_refl _) (fun x v _ hc => ⟨hc, rfl⟩)
              (.inr ⟨by rw [h5]; exact hB, fun ls2 h6 => by rw [hb1] at h6; cases h6; simp⟩)
              (fun H => ⟨fun i hi => hat'.wr i (by simpa using hi), fun i hi => hat'.fz i (by simpa using hi), vs1, RepLeafs.of_get (by simp [g1.length]) fun i l u hl hu => by
                have hle : G'.Le (G'.setB b (blk, base)) := Gh.le_setB fun q hq => by rw [h5, hB] at hq; cases hq; rfl
                rw [List.getElem?_set] at hl
                by_cases hki : k = i
                · subst hki
                  rw [if_pos rfl] at hl
                  split at hl
                  · cases hl
                    have h7 := g2 k u hu
                    have h8 := hv2 k v hv3
                    rw [h7] at h8
                    cases h8
                    exact h4.trans H hle
                  · cases hl
                · rw [if_neg hki] at hl
                  obtain ⟨u', h7, h8⟩ := g1.get i l hl
                  rw [hu] at h7; cases h7
                  exact h8.trans H hle, g2⟩)
            exact ⟨_, h3.of_mem hm H hle h3.fr⟩
          · exact ⟨G', h3⟩
      · exact ⟨G, h⟩
    · exact ⟨G, h⟩
  · exact ⟨G, h⟩
theorem settleBs_rel : ∀ {ks : List Nat} {b : Nat} {st : St} {G : Gh}, Rel C G st a w → ∃ G', Rel C G' (settleBs st b ks) a w
  | [], _, _, G, h => ⟨G, h⟩
  | k :: ks, b, st, G, h => by
    obtain ⟨G', h'⟩ := settleC_rel h b k
    exact settleBs_rel (ks := ks) h'
theorem settleB_rel : ∀ {l : List (Nat × List BS)} {st : St} {G : Gh}, Rel C G st a w → ∃ G', Rel C G' (settleB st l) a w
  | [], _, G, h => ⟨G, h⟩
  | p :: l, st, G, h => by
    unfold settleB
    cases Nat.ble 60000 p.1
    · exact settleB_rel (l := l) h
    · obtain ⟨G', h'⟩ := settleBs_rel (ks := List.range p.2.length) (b := p.1) h
      exact settleB_rel (l := l) h'
theorem settle_rel : ∀ {vs : List ResultVar} {st : St} {G : Gh}, Rel C G st a w → ∃ G', Rel C G' (settle st vs) a w
  | [], _, G, h => ⟨G, h⟩
  | v :: vs, st, G, h => by
    obtain ⟨G', h'⟩ := settle1_rel (v := v) h
    exact settle_rel (vs := vs) (st := settle1 st v) h'
theorem fnS_of_ev {ty : Ty} (hty : TyOk P ty) (hm : P.follows .mixedOrders = true) {Γ : FuncId → Option SumX} (hΓ : GOk P Γ) {J : Nat → Option (List (Nat × SS))} {Λ : Nat → Option LSum} {f : FuncId} {fn : Func} {c : Code} (hf : P.funcs[f]? = some fn) (hb : fn.body = some c) (hname : (fn.name == "runtime.NumGoroutine") = false)
    {p q : Sp} (hn : ((Nat.ble p.n 16000 && (fn.ntmps == p.n && Nat.ble p.env.length p.n)) && (enumOk 0 p.env && (p.ok && q.ok))) = true)
    (hΛ : ∀ b ∈ loops c, ∀ L, (firstRegion b).bind Λ = some L → LSumOk P b L) {F : p.T → Option q.T}
    (hev : ∀ x, evCode ty Γ J Λ c (p.hd x) (finN ty q fn.results.toList) = F x) : FnS P f p q F := by
  simp only [Bool.and_eq_true, beq_iff_eq] at hn
  obtain ⟨⟨n1, n2, n3⟩, n4, n5, n6⟩ := hn
  have n1' := Nat.le_of_ble_eq_true n1
  have n3' := Nat.le_of_ble_eq_true n3
  refine ⟨⟨fn, hf, by rw [hb]; rfl, hname⟩, fun C G w x y vals hF hin => ?_⟩
  have hlen := hin.slots.length
  have hml : ∀ {l : List (Nat × ES)} {x : EArgs2 l}, (mkSl l x).length = l.length := fun {l x} => by
    induction l with
    | nil => rfl
    | cons p l ih => obtain ⟨t, e⟩ := p; cases e <;> simp [mkSl, ih]
  rw [hml] at hlen
  have hok := n5
  unfold Sp.ok at hok
  simp only [Bool.and_eq_true] at hok
  have hrel : Rel C G (p.hd x) { tmps := vals.toArray ++ Array.replicate (fn.ntmps - vals.toArray.size) undef, defers := [] } w := by
    refine ⟨by simp [Sp.hd]; omega, n1', rfl, fun t s ht => ?_, hin.mem, ?_⟩
    · obtain ⟨i, e, h1, h2⟩ := mkEnv_get hok.2.1.2.2 ht
      have := enum_get n4 h1
      obtain ⟨v, h3, h4⟩ := hin.slots.get i s h2
      have hlt : i < vals.length := (List.getElem?_eq_some_iff.1 h3).1
      rw [show t = i by omega]
      refine ⟨by show i < p.n; omega, ?_⟩
      have : (vals.toArray ++ Array.replicate (fn.ntmps - vals.toArray.size) undef).getD i undef = v := by
        rw [Array.getD_eq_getD_getElem?, Array.getElem?_append_left (by simpa using hlt)]
        simp [h3]
      rw [this]; exact h4
    · have hw := hin.w0
      exact ⟨by rw [hw], by rw [hw], by rw [hw], by simp [Cx.N0, hw], fun _ _ _ => by rw [hw], fun _ _ _ => by rw [hw]; exact ⟨rfl, rfl⟩⟩
  refine calls_of_wp hf hb (ok_code hty hm hΓ hΛ hrel (r := y) (fun ex G' st' a' w' h1 h2 h3 => ?_) ((hev x).trans hF))
  obtain ⟨G', h1⟩ := settleB_rel (l := q.box) h1
  obtain ⟨G', h1⟩ := settle_rel (vs := fn.results.toList) h1
  have hfin : ∀ (h3 : (match resSs ty (settle (settleB st' q.box) fn.results.toList) fn.results.toList with
      | some ss => toS q (settle (settleB st' q.box) fn.results.toList) ss
      | none => none) = some y), a'.defers = [] ∧ ∃ v, (results fn a'.tmps).run P w' = .ok v w' ∧ ∃ vs G', Ending.returned v = .returned (tupV vs) ∧ OutS C G' q y vs w' := by
    intro h3
    refine ⟨h1.dfr, ?_⟩
    split at h3
    · rename_i ss hss
      obtain ⟨us, q1, q2⟩ := resSs_rep hty h1 hss
      obtain ⟨G2, q3, q4⟩ := toS_rep n6 h1 q2 h3
      exact ⟨_, results_run q1, us, G2, rfl, q3, q4, h1.fr⟩
    · cases h3
  cases ex with
  | normal => exact hfin h3
  | exit i => cases h3
  | ret => exact hfin h3
end
end Go.Ev

namespace Go.Ev
def Sp.rd (p : Sp) (st : St) : Option p.T :=
  bif st.n == p.n && p.env.all (fun q => Nat.blt q.1 p.n) then toS p st (p.env.map fun q => st.ev (.tmp q.1)) else none
section
variable {P : Program} {C : Cx} {G : Gh} {a : Act} {w : World} {st : St}
theorem Sp.rd_rep {p : Sp} (hok : p.ok = true) (h : Rel C G st a w) {x : p.T} (e : p.rd st = some x) : ∃ G', Rel C G' (p.hd x) a w ∧ p.n = st.n := by
  unfold Sp.rd at e
  cases hc : (st.n == p.n && p.env.all (fun q => Nat.blt q.1 p.n))
  · rw [hc] at e; cases e
  · rw [hc] at e
    simp only [cond_true] at e
    simp only [Bool.and_eq_true, beq_iff_eq] at hc
    have hev : RepSlots w (G.ok C) G (p.env.map fun q => st.ev (.tmp q.1)) (p.env.map fun q => a.eval (.tmp q.1)) := by
      have := h.evs (p.env.map fun q => Operand.tmp q.1)
      rw [List.map_map, List.map_map] at this
      exact this
    obtain ⟨G', g1, g2⟩ := toS_rep hok h hev e
    refine ⟨G', ⟨h.size.trans hc.1, by have := h.n; rw [hc.1] at this; exact this, h.dfr, fun t s ht => ?_, g1, h.fr⟩, hc.1.symm⟩
    unfold Sp.ok at hok
    simp only [Bool.and_eq_true] at hok
    obtain ⟨i, e', h1, h2⟩ := mkEnv_get hok.2.1.2.2 ht
    obtain ⟨v, h3, h4⟩ := g2.get i s h2
    rw [List.getElem?_map, h1] at h3
    simp only [Option.map_some, Option.some.injEq] at h3
    subst h3
    exact ⟨Nat.le_of_ble_eq_true (List.all_eq_true.1 hc.2 _ (List.mem_of_getElem? h1)), h4⟩
end
@[reducible] def XT : List (Ex × Sp) → Type
  | [] => Empty
  | [p] => p.2.T
  | p :: q :: l => p.2.T ⊕ XT (q :: l)
def exEq : Ex → Ex → Bool
  | .normal, .normal | .ret, .ret => true
  | .exit i, .exit j => i == j
  | _, _ => false
def toX : (l : List (Ex × Sp)) → Ex → St → Option (XT l)
  | [], _, _ => none
  | [p], e, st => bif exEq p.1 e then p.2.rd st else none
  | p :: q :: l, e, st =>
    bif exEq p.1 e then (match p.2.rd st with | some x => some (.inl x) | none => none)
    else match toX (q :: l) e st with
      | some x => some (.inr x)
      | none => none
def ofX {R : Type} : (l : List (Ex × Sp)) → XT l → (Ex → St → Option R) → Option R
  | [], x, _ => nomatch x
  | [p], x, K => K p.1 (p.2.hd x)
  | p :: q :: l, x, K => match x with
    | .inl y => K p.1 (p.2.hd y)
    | .inr z => ofX (q :: l) z K
def rdK (sp : Sp) (xs : List (Ex × Sp)) : Ex → St → Option (sp.T ⊕ XT xs)
  | .normal, st => match sp.rd st with
    | some x => some (.inl x)
    | none => none
  | e, st => match toX xs e st with
    | some x => some (.inr x)
    | none => none
def itr {A B : Type} (step : A → Option (A ⊕ B)) : Nat → A → Option B
  | 0, _ => none
  | m + 1, x => match step x with
    | some (.inl x') => itr step m x'
    | some (.inr y) => some y
    | none => none
def loopL (sp : Sp) (xs : List (Ex × Sp)) (l : sp.T → Option (XT xs)) : LSum := fun st R K =>
  match sp.rd st with
  | some x => (l x).bind fun y => ofX xs y K
  | none => none
section
variable {P : Program} {C : Cx} {G : Gh} {a : Act} {w : World} {st : St}
theorem exEq_spec {e e' : Ex} (h : exEq e e' = true) : e = e' := by
  unfold exEq at h
  split at h
  · rfl
  · rfl
  · have : _ = _ := beq_iff_eq.1 h
    rw [this]
  · cases h
theorem ofX_rep {R : Type} {K : Ex → St → Option R} {r : R} (h : Rel C G st a w) : ∀ {l : List (Ex × Sp)} {e : Ex} {y : XT l}, l.all (·.2.ok) = true → toX l e st = some y → ofX l y K = some r → ∃ G' st', Rel C G' st' a w ∧ st'.n = st.n ∧ K e st' = some r
  | [], e, y, _, h1, _ => by simp [toX] at h1
  | [p], e, y, hok, h1, h2 => by
    simp only [List.all_cons, List.all_nil, Bool.and_true] at hok
    simp only [toX] at h1
    cases hq : exEq p.1 e
    · rw [hq] at h1; cases h1
    · rw [hq] at h1
      have := exEq_spec hq
      subst this
      obtain ⟨G', g1, g2⟩ := Sp.rd_rep hok h h1
      exact ⟨G', _, g1, g2, h2⟩
  | p :: q :: l, e, y, hok, h1, h2 => by
    rw [List.all_cons, Bool.and_eq_true] at hok
    simp only [toX] at h1
    cases hq : exEq p.1 e
    · rw [hq] at h1
      simp only [cond_false] at h1
      split at h1
      · rename_i x hx
        cases h1
        exact ofX_rep h hok.2 hx h2
      · cases h1
    · rw [hq] at h1
      simp only [cond_true] at h1
      have := exEq_spec hq
      subst this
      split at h1
      · rename_i x hx
        cases h1
        obtain ⟨G', g1, g2⟩ := Sp.rd_rep hok.1 h hx
        exact ⟨G', _, g1, g2, h2⟩
      · cases h1
theorem loop_ok {ty : Ty} (hty : TyOk P ty) (hm : P.follows .mixedOrders = true) {Γ : FuncId → Option SumX} (hΓ : GOk P Γ) {J : Nat → Option (List (Nat × SS))} {Λ : Nat → Option LSum} {b : Code} {sp : Sp} {xs : List (Ex × Sp)} (hsp : sp.ok = true) (hxs : xs.all (·.2.ok) = true)
    (hΛ : ∀ c ∈ loops b, ∀ L, (firstRegion c).bind Λ = some L → LSumOk P c L) {step : sp.T → Option (sp.T ⊕ XT xs)} (hstep : ∀ x, evCode ty Γ J Λ b (sp.hd x) (rdK sp xs) = step x)
    {l : sp.T → Option (XT xs)} (hl : ∀ x y, l x = some y → ∃ m, itr step m x = some y) : LSumOk P b (loopL sp xs l) := by
  intro C G st a w R K r Q h hK e
  unfold loopL at e
  split at e
  · rename_i x hx
    obtain ⟨y, hy, e⟩ := Option.bind_eq_some_iff.1 e
    obtain ⟨m, hmm⟩ := hl x y hy
    obtain ⟨G0, g0, hn⟩ := Sp.rd_rep hsp h hx
    refine wp_loop_rounds m ?_
    clear hy hx
    have key : ∀ (m : Nat) (x : sp.T) (G : Gh) (a : Act) (w : World), Rel C G (sp.hd x) a w → itr step m x = some y → Code.rounds P b Q m a w := by
      intro m
      induction m with
      | zero => intro x G a w _ h2; simp [itr] at h2
      | succ m ih =>
        intro x G a w h1 h2
        rw [rounds_succ]
        unfold itr at h2
        have hst := hstep x
        cases hs : step x with
        | none => rw [hs] at h2; cases h2
        | some s =>
          rw [hs] at h2 hst
          refine ok_code hty hm hΓ hΛ h1 (fun ex G' st' a' w' k1 k2 k3 => ?_) hst
          cases s with
          | inl x' =>
            simp only at h2
            cases ex with
            | normal =>
              simp only [rdK] at k3
              split at k3
              · rename_i x2 hx2
                simp only [Option.some.injEq, Sum.inl.injEq] at k3
                subst k3
                obtain ⟨G2, q1, q2⟩ := Sp.rd_rep hsp k1 hx2
                exact ih x2 G2 a' w' q1 h2
              · cases k3
            | exit i => simp only [rdK] at k3; split at k3 <;> cases k3
            | ret => simp only [rdK] at k3; split at k3 <;> cases k3
          | inr y' =>
            simp only [Option.some.injEq] at h2
            subst h2
            have fin : ∀ ex, toX xs ex st' = some y' → Q ex.exit' a' w' := fun ex ht => by
              obtain ⟨G2, st2, q1, q2, q3⟩ := ofX_rep k1 hxs ht e
              exact hK ex G2 st2 a' w' q1 (by rw [q2, k2]; exact hn) q3
            cases ex with
            | normal => simp only [rdK] at k3; split at k3 <;> cases k3
            | exit i =>
              simp only [rdK] at k3
              split at k3
              · rename_i x2 hx2
                simp only [Option.some.injEq, Sum.inr.injEq] at k3
                subst k3
                exact fin (.exit i) hx2
              · cases k3
            | ret =>
              simp only [rdK] at k3
              split at k3
              · rename_i x2 hx2
                simp only [Option.some.injEq, Sum.inr.injEq] at k3
                subst k3
                exact fin .ret hx2
              · cases k3
    exact key m x G0 a w g0 hmm
  · cases e
theorem itr_fuel {A B : Type} {step : A → Option (A ⊕ B)} {fuel : A → Nat} : ∀ x y, (fun x => itr step (fuel x) x) x = some y → ∃ m, itr step m x = some y := fun x y h => ⟨fuel x, h⟩
def loopAt (c : Code) (id : Nat) : Code := ((loops c).find? fun b => firstRegion b == some id).getD .skip
def lamOf : List (Nat × LSum) → Nat → Option LSum
  | [], _ => none
  | p :: l, i => bif p.1 == i then some p.2 else lamOf l i
def distinct : List (Option Nat) → Bool
  | [] => true
  | x :: l => !l.any (fun y => x == y) && distinct l
theorem find_uniq : ∀ {l : List Code} {b : Code} {id : Nat}, distinct (l.map firstRegion) = true → b ∈ l → firstRegion b = some id → (l.find? fun b => firstRegion b == some id) = some b
  | [], _, _, _, h, _ => by simp at h
  | c :: l, b, id, hd, hb, hf => by
    simp only [List.map_cons, distinct, Bool.and_eq_true] at hd
    rcases List.mem_cons.1 hb with rfl | hb
    · simp [hf]
    · have hne : ¬ (firstRegion c == some id) = true := fun hc => by
        have h1 := hd.1
        simp only [Bool.not_eq_true', List.any_eq_false] at h1
        have := h1 (firstRegion b) (List.mem_map.2 ⟨b, hb, rfl⟩)
        rw [hf] at this
        exact this hc
      rw [List.find?_cons, Bool.eq_false_iff.2 hne]
      exact find_uniq hd.2 hb hf
theorem lam_ok {c : Code} {tab : List (Nat × LSum)} (hd : distinct ((loops c).map firstRegion) = true) (h : ∀ p ∈ tab, LSumOk P (loopAt c p.1) p.2) :
    ∀ b ∈ loops c, ∀ L, (firstRegion b).bind (lamOf tab) = some L → LSumOk P b L := fun b hb L hL => by
  obtain ⟨id, h1, h2⟩ := Option.bind_eq_some_iff.1 hL
  have hat : loopAt c id = b := by unfold loopAt; rw [find_uniq hd hb h1]; rfl
  have hmem : ∀ {t : List (Nat × LSum)}, lamOf t id = some L → (id, L) ∈ t := by
    intro t
    induction t with
    | nil => intro h; cases h
    | cons p t ih =>
      intro h
      unfold lamOf at h
      cases hp : (p.1 == id)
      · rw [hp] at h; exact List.mem_cons_of_mem _ (ih h)
      · rw [hp] at h
        have : p.1 = id := by simpa using hp
        cases h
        rw [← this]
        exact List.mem_cons_self ..
  rw [← hat]
  exact @h (id, L) (hmem h2)
def gamOf : List (FuncId × SumX) → FuncId → Option SumX
  | [], _ => none
  | p :: l, i => bif p.1 == i then some p.2 else gamOf l i
theorem gam_ok : ∀ {tab : List (FuncId × SumX)}, (∀ p ∈ tab, SumOk P p.1 p.2.g ∧ (p.2.calm = true → CalmSum p.2.g) ∧ (p.2.fresh = true → FreshSum p.2.g)) → GOk P (gamOf tab)
  | [], _, _, _, h => by cases h
  | p :: l, hall, f, g, h => by
    unfold gamOf at h
    cases hp : (p.1 == f)
    · rw [hp] at h; exact gam_ok (fun q hq => hall q (List.mem_cons_of_mem _ hq)) f g h
    · rw [hp] at h
      have : p.1 = f := by simpa using hp
      cases h
      rw [← this]
      exact hall p (List.mem_cons_self ..)
theorem gm0 : ∀ p ∈ ([] : List (FuncId × SumX)), SumOk P p.1 p.2.g ∧ (p.2.calm = true → CalmSum p.2.g) ∧ (p.2.fresh = true → FreshSum p.2.g) := fun p hp => by cases hp
theorem gm1 {a : FuncId × SumX} {l : List (FuncId × SumX)} (h : SumOk P a.1 a.2.g ∧ (a.2.calm = true → CalmSum a.2.g) ∧ (a.2.fresh = true → FreshSum a.2.g))
    (t : ∀ p ∈ l, SumOk P p.1 p.2.g ∧ (p.2.calm = true → CalmSum p.2.g) ∧ (p.2.fresh = true → FreshSum p.2.g)) : ∀ p ∈ a :: l, SumOk P p.1 p.2.g ∧ (p.2.calm = true → CalmSum p.2.g) ∧ (p.2.fresh = true → FreshSum p.2.g) := fun p hp => by
  rcases List.mem_cons.1 hp with rfl | hp
  · exact h
  · exact t p hp
theorem lm0 {c : Code} : ∀ p ∈ ([] : List (Nat × LSum)), LSumOk P (loopAt c p.1) p.2 := fun p hp => by cases hp
theorem lm1 {c : Code} {a : Nat × LSum} {l : List (Nat × LSum)} (h : LSumOk P (loopAt c a.1) a.2) (t : ∀ p ∈ l, LSumOk P (loopAt c p.1) p.2) : ∀ p ∈ a :: l, LSumOk P (loopAt c p.1) p.2 := fun p hp => by
  rcases List.mem_cons.1 hp with rfl | hp
  · exact h
  · exact t p hp
end
end Go.Ev

namespace Go.Ev
def InBox (G2 : Gh) (p : Sp) (x : Addr) : Prop := ∃ b blk base bs i, G2.B b = some (blk, base) ∧ look p.box b = some bs ∧ i < bsz bs ∧ x = ⟨blk, base + i, none⟩
def InArr (G2 : Gh) (x : Addr) : Prop := ∃ j ai base m, G2.A j = some ai ∧ ai.loc = some (x.block, base, m)
def Cx.sub (C : Cx) (G G2 : Gh) (p : Sp) (w : World) (fl : Bool) : Cx where
  X := fun i => fl = false ∧ ¬ G.ok C i ∧ ¬ G2.wr i ∧ i < w.heap.size
  T0 := fun x => (C.N0 ≤ x.block ∨ C.T0 x) ∧ (InBox G2 p x ∨ InArr G2 x)
  O := fun b => C.all b ∧ ((∃ j ai base m, G2.A j = some ai ∧ ai.loc = some (b, base, m)) ∨ ∃ j, b ∈ G2.inner j)
  w0 := w
  pin := G2.B
  pinA := fun j => if 64000 ≤ j then G2.A j else none
  E := C.E
def Leaf.killL (ids : List Nat) : Leaf → Leaf
  | .own i => bif ids.contains i then .dead else .own i
  | .sub i o n => bif ids.contains i then .dead else .sub i o n
  | l => l
def Slot.killL (ids : List Nat) : Slot → Slot
  | .ep i k o => bif ids.contains i then .dead else .ep i k o
  | s => s.map (Leaf.killL ids)
section
variable {P : Program} {C : Cx} {G : Gh} {st : St} {a : Act} {w w' : World} {R : Ren} {p q : Sp} {fl : Bool}
theorem all_notX {box : Tr (List Leaf)} {arr : Tr Arr} (h : MemR C G box arr w) {i : Nat} (hi : C.all i) : ¬ C.X i := fun hx => by
  have := h.X i hx
  rcases hi with hi | hi
  · exact this.1 (.inl hi)
  · exact this.2 hi
theorem inBox_wr {G2 : Gh} {x : Addr} (h : InBox G2 p x) : G2.wr x.block := by
  obtain ⟨b, blk, base, bs, i, h1, _, _, rfl⟩ := h
  exact Gh.wr_of_B h1
theorem inArr_wr {G2 : Gh} {x : Addr} (h : InArr G2 x) : G2.wr x.block := by
  obtain ⟨j, ai, base, m, h1, h2⟩ := h
  exact Gh.wr_of_A h1 h2
theorem sub_subC (h : Rel C G st a w) (hr : RenOk p st R) (hb : p.box.all (fun q => Nat.ble 60000 q.1 && Nat.blt q.1 60016) = true) (ha : p.arr.all (fun q => Nat.blt q.1 65000) = true) : SubC C (C.sub G (R.gh p G) p w fl) (R.gh p G) p w := by
  refine ⟨fun b blk base bs h1 h2 i hi hp => .inr ⟨hp, .inl ⟨b, blk, base, bs, i, h1, h2, hi, rfl⟩⟩, fun j ai blk base m h1 h2 o hp => .inr ⟨hp, .inr ⟨j, ai, base, m, h1, h2⟩⟩,
    fun j ai blk base m h1 h2 hp => .inr ⟨hp, .inl ⟨j, ai, base, m, h1, h2⟩⟩, fun j b hj hp => .inr ⟨hp, .inr ⟨j, hj⟩⟩, fun i hx => ⟨fun hm => ?_, fun ho => ?_⟩, Nat.le_refl _, fun b q hq => ?_, fun id q hq => ?_, rfl⟩
  · obtain ⟨_, _, h3, h4⟩ := hx
    rcases hm with hm | ⟨o, _, hm | hm⟩
    · have : w.heap.size ≤ i := hm
      omega
    · exact h3 (inBox_wr hm)
    · exact h3 (inArr_wr hm)
  · obtain ⟨_, h2, h3, h4⟩ := hx
    obtain ⟨ho, ⟨j, ai, base, m, h5, h6⟩ | ⟨j, h5⟩⟩ := ho
    · exact h3 (Gh.wr_of_A h5 h6)
    · obtain ⟨i', _, h7⟩ := gh_inner h5
      exact h2 ⟨all_notX h.mem ho, (h.mem.fwr i' i h7).2.2⟩
  · obtain ⟨c, d, base, h1, _⟩ := gh_B (p := p) hq
    obtain ⟨bs, h2⟩ := hr.kb b _ h1
    have := List.all_eq_true.1 hb _ (look_mem h2)
    simp only [Bool.and_eq_true] at this
    exact ⟨hq, Nat.le_of_ble_eq_true this.1, Nat.le_of_ble_eq_true this.2⟩
  · simp only [Cx.sub] at hq
    split at hq
    · rename_i hle
      have : ∃ e, look p.arr id = some e := by
        rcases gh_A hq with ⟨i, h1, _⟩ | ⟨h1, _⟩ <;> exact hr.ka id _ h1
      obtain ⟨e, he⟩ := this
      exact ⟨⟨hle, Nat.le_of_ble_eq_true (List.all_eq_true.1 ha _ (look_mem he))⟩, fun ai hA => by rw [hq] at hA; cases hA; rfl⟩
    · cases hq
theorem sub_keeps : Keeps w w (G.ok C) ((R.gh p G).ok (C.sub G (R.gh p G) p w fl)) := Keeps.mono w fun i hi => ⟨fun hx => hx.2.1 hi, fun hc => hi.2 (gh_wr hc)⟩
theorem sub_lent (h : Rel C G st a w) : Lent G R ((R.gh p G).ok (C.sub G (R.gh p G) p w true)) := by
  refine ⟨fun id ai blk base m hn hA hl => ⟨fun hx => (by cases hx.1), fun hw => ?_⟩, fun hn b blk base hB => ⟨fun hx => (by cases hx.1), fun hw => ?_⟩⟩
  · rcases hw with ⟨b, base', hb⟩ | ⟨j, aj, base', m', hj, hlj⟩
    · obtain ⟨c, d, b3, _, h1, _⟩ := gh_B hb
      exact h.mem.ab c id ai blk b3 base m h1 hA hl
    · obtain ⟨i, h1, h2⟩ := gh_loc hj hlj
      refine h.mem.aa i id aj ai blk base' m' base m (fun hc => ?_) h2 hA hlj hl
      subst hc
      simp only [List.any_eq_false] at hn
      exact hn _ (look_mem h1) (by simp)
  · rcases hw with ⟨b', base', hb⟩ | ⟨j, aj, base', m', hj, hlj⟩
    · obtain ⟨c, d, b3, h1, _⟩ := gh_B hb
      rw [hn] at h1; cases h1
    · obtain ⟨i, h1, h2⟩ := gh_loc hj hlj
      exact h.mem.ab b i aj blk base base' m' hB h2 hlj
end
end Go.Ev

namespace Go.Ev
def renCaps (tB : Nat → Option (Nat × Nat)) : List (Nat × Nat) → Option (List (Nat × Nat))
  | [] => some []
  | c :: cs => match tB c.1, renCaps tB cs with
    | some (b, d), some r => some ((b, d + c.2) :: r)
    | _, _ => none
def Leaf.ren (tA : Nat → Option Nat) (tB : Nat → Option (Nat × Nat)) : Leaf → Leaf
  | .own j => match tA j with | some i => .own i | none => .dead
  | .ptr b o => match tB b with | some (c, d) => .ptr c (d + o) | none => .dead
  | .fn f cs => match renCaps tB cs with | some r => .fn f r | none => .dead
  | .ifp t g b o => match tB b with | some (c, d) => .ifp t g c (d + o) | none => .dead
  | .sub .. => .dead
  | l => l
def Gh.join (G G' : Gh) (sA : Nat → Option (Option Nat)) (sB : Nat → Option Nat) : Gh :=
  ⟨fun c => match sB c with | some b => G'.B b | none => G.B c,
   fun i => match sA i with | none => G.A i | some none => none | some (some j) => G'.A j,
   fun i => match sA i with | none => G.F i | some none => [] | some (some j) => G'.F j, G.E⟩
structure JH (C : Cx) (G G' : Gh) (st : St) (a : Act) (w w' : World) (R : Ren) (p : Sp) (fl : Bool) (box2 boxN : Tr (List Leaf)) (arr2 arrN : Tr Arr) (sA : Nat → Option (Option Nat)) (sB : Nat → Option Nat) (tA : Nat → Option Nat) (tB : Nat → Option (Nat × Nat)) (ids : List Nat) : Prop where
  rel : Rel C G st a w
  ren : RenOk p st R
  mem : MemR (C.sub G (R.gh p G) p w fl) G' box2 arr2 w'
  fr : Fr (C.sub G (R.gh p G) p w fl) w'
  a_frm : ∀ i j, sA i = some (some j) → i < 65000 ∧ (∃ r, arr2.get j = some r) ∧ arrN.get i = arr2.get j ∧ ((j < 64000 ∧ st.arr.get i = none ∧ i < 64000) ∨ (64000 ≤ j ∧ look R.a j = some (some i)))
  a_gone : ∀ i, sA i = some none → arrN.get i = none
  a_old : ∀ i, sA i = none → arrN.get i = st.arr.get i
  a_inj : ∀ i i' j, sA i = some (some j) → sA i' = some (some j) → i = i'
  a_pass : ∀ i j, look R.a j = some (some i) → sA i = some none ∨ (64000 ≤ j ∧ sA i = some (some j))
  a_there : ∀ i j, look R.a j = some (some i) → ∃ r, st.arr.get i = some r
  a_flat : fl = true → ∀ j r, arr2.get j = some r → r.e.flat = true ∨ r.deep = true
  b_new : ∀ c b, sB c = some b → c < 60000 ∧ st.box.get c = none ∧ look R.b b = none ∧ ∃ ls, box2.get b = some ls ∧ ls ≠ [] ∧ boxN.get c = some (ls.map (Leaf.ren tA tB))
  b_inj : ∀ c c' b, sB c = some b → sB c' = some b → c = c'
  b_none : ∀ c, sB c = none → st.box.get c = none → boxN.get c = none
  b_old : ∀ c ls, sB c = none → st.box.get c = some ls → ∃ lsN, boxN.get c = some lsN ∧ lsN.length = ls.length ∧ ∀ k, k < ls.length →
    (∃ b d bs lsb, look R.b b = some (c, d) ∧ look p.box b = some bs ∧ box2.get b = some lsb ∧ lsb.length = bsz bs ∧ d ≤ k ∧ k < d + bsz bs ∧ lsN[k]? = (lsb[k - d]?).map (Leaf.ren tA tB)) ∨
    ((∀ b d bs, look R.b b = some (c, d) → look p.box b = some bs → k < d ∨ d + bsz bs ≤ k) ∧ lsN[k]? = (ls[k]?).map (Leaf.killL ids))
  b_pass : ∀ b c d, look R.b b = some (c, d) → sB c = none
  b_sl : fl = true → ∀ b ls, box2.get b = some ls → ∀ l ∈ ls, ∀ e x y, l ≠ .sl e x y
  t_a : ∀ j i, tA j = some i → sA i = some (some j)
  t_b : ∀ b c d, tB b = some (c, d) → look R.b b = some (c, d) ∨ (sB c = some b ∧ d = 0)
  ids : ∀ i, sA i = some none → ids.contains i = true
section
variable {P : Program} {C : Cx} {G G' : Gh} {st : St} {a : Act} {w w' : World} {R : Ren} {p : Sp} {fl : Bool} {box2 boxN : Tr (List Leaf)} {arr2 arrN : Tr Arr}
  {sA : Nat → Option (Option Nat)} {sB : Nat → Option Nat} {tA : Nat → Option Nat} {tB : Nat → Option (Nat × Nat)} {ids : List Nat}
theorem join_A_old {i : Nat} (h : sA i = none) : (G.join G' sA sB).A i = G.A i ∧ (G.join G' sA sB).F i = G.F i ∧ (G.join G' sA sB).inner i = G.inner i := by simp [Gh.join, Gh.inner, h]
theorem join_A_gone {i : Nat} (h : sA i = some none) : (G.join G' sA sB).A i = none ∧ (G.join G' sA sB).inner i = [] := by simp [Gh.join, Gh.inner, h]
theorem join_A_frm {i j : Nat} (h : sA i = some (some j)) : (G.join G' sA sB).A i = G'.A j ∧ (G.join G' sA sB).F i = G'.F j ∧ (G.join G' sA sB).inner i = G'.inner j := by simp [Gh.join, Gh.inner, h]
theorem join_B_old {c : Nat} (h : sB c = none) : (G.join G' sA sB).B c = G.B c := by simp [Gh.join, h]
theorem join_B_new {c b : Nat} (h : sB c = some b) : (G.join G' sA sB).B c = G'.B b := by simp [Gh.join, h]
theorem sA_cases (i : Nat) : sA i = none ∨ sA i = some none ∨ ∃ j, sA i = some (some j) := by
  cases h : sA i with
  | none => exact .inl rfl
  | some o => cases o with
    | none => exact .inr (.inl rfl)
    | some j => exact .inr (.inr ⟨j, rfl⟩)
namespace JH
variable (J : JH C G G' st a w w' R p fl box2 boxN arr2 arrN sA sB tA tB ids)
include J
theorem sz : w.heap.size ≤ w'.heap.size := J.fr.size
theorem N0 : C.N0 ≤ w.heap.size := J.rel.mem.size
theorem t0_wr {x : Addr} (h : (C.sub G (R.gh p G) p w fl).T0 x) : G.wr x.block := by
  have _ := @J
  rcases h.2 with h | h
  · exact gh_wr (inBox_wr h)
  · exact gh_wr (inArr_wr h)
theorem t0_old {x : Addr} (h : (C.sub G (R.gh p G) p w fl).T0 x) : x.block < w.heap.size := J.rel.mem.lt _ (J.t0_wr h)
theorem keep {x : Addr} {v : Value} (h : w.cell? x = some v) (hn : ¬ (C.sub G (R.gh p G) p w fl).T0 x) : w'.cell? x = some v ∧ w'.frozen? x = w.frozen? x := by
  have := J.fr.cell x (World.block_lt_of_cell? w _ h) hn
  exact ⟨this.1.trans h, this.2⟩
theorem keep_nwr {x : Addr} {v : Value} (h : w.cell? x = some v) (hn : ¬ G.wr x.block) : w'.cell? x = some v ∧ w'.frozen? x = w.frozen? x := J.keep h fun hc => hn (J.t0_wr hc)
theorem arr_old {i : Nat} {ai : AI} {blk base m : Nat} (hs : sA i = none) (hA : G.A i = some ai) (hl : ai.loc = some (blk, base, m)) (o : Nat) : ¬ (C.sub G (R.gh p G) p w fl).T0 ⟨blk, o, none⟩ := fun h => by
  rcases h.2 with ⟨b, blk', base', bs, k, h1, _, _, h2⟩ | ⟨j, aj, base', m', h1, h2⟩
  · injection h2 with h2 _
    subst h2
    obtain ⟨c, d, b3, _, h3, _⟩ := gh_B h1
    exact J.rel.mem.ab c i ai blk b3 base m h3 hA hl
  · obtain ⟨i', h3, h4⟩ := gh_loc h1 h2
    refine J.rel.mem.aa i' i aj ai blk base' m' base m (fun hc => ?_) h4 hA h2 hl
    subst hc
    rcases J.a_pass i' j h3 with h5 | ⟨_, h5⟩ <;> rw [hs] at h5 <;> cases h5
theorem blk2 {blk : Nat} (h : (C.sub G (R.gh p G) p w fl).may blk) : w.heap.size ≤ blk ∨ (R.gh p G).wr blk := by
  have _ := @J
  rcases h with h | ⟨o, h⟩
  · exact .inl h
  · rcases h.2 with h | h
    · exact .inr (inBox_wr h)
    · exact .inr (inArr_wr h)
theorem arr2_may {j : Nat} {ai : AI} {blk base m : Nat} (hA : G'.A j = some ai) (hl : ai.loc = some (blk, base, m)) : (C.sub G (R.gh p G) p w fl).may blk := by
  obtain ⟨r, hr⟩ := J.mem.adom j ai hA
  obtain ⟨ai', h1, h2⟩ := J.mem.arrR j r hr
  rw [hA] at h1; cases h1
  exact h2.may _ _ _ hl
theorem box2_may {b blk base : Nat} {ls : List Leaf} (hb : box2.get b = some ls) (hne : ls ≠ []) (hB : G'.B b = some (blk, base)) : (C.sub G (R.gh p G) p w fl).may blk := by
  obtain ⟨blk', base', h1, h2⟩ := J.mem.boxR b ls hb
  rw [hB] at h1; cases h1
  rcases h2.wr 0 (List.length_pos_iff.2 hne) with h | h
  · exact .inl h
  · exact .inr ⟨_, h⟩
theorem pass_B {b c d blk base : Nat} (hl : look R.b b = some (c, d)) (hB : G.B c = some (blk, base)) : G'.B b = some (blk, base + d) :=
  (J.mem.pin b _ (gh_B' (p := p) hl hB)).1
theorem pass_A {i j : Nat} {ai aj : AI} (hj : 64000 ≤ j) (hl : look R.a j = some (some i)) (hA : G.A i = some ai) (hA' : G'.A j = some aj) : aj = ai := by
  refine (J.mem.pinA j ai ?_).2 aj hA'
  simp only [Cx.sub]
  rw [if_pos hj, gh_A' hl]; exact hA
theorem apart_A {i j : Nat} {ai aj : AI} {blk base m base' m' : Nat} (hs : sA i = none) (hA : G.A i = some ai) (hl : ai.loc = some (blk, base, m)) (hA' : G'.A j = some aj) (hl' : aj.loc = some (blk, base', m')) : False := by
  rcases J.arr2_may hA' hl' with h | ⟨o, h⟩
  · have := J.rel.mem.lt blk (Gh.wr_of_A hA hl)
    have h : w.heap.size ≤ blk := h
    omega
  · exact J.arr_old hs hA hl o h
theorem apart_B {c j : Nat} {aj : AI} {blk base base' m' : Nat} (hB : G.B c = some (blk, base)) (hA' : G'.A j = some aj) (hl' : aj.loc = some (blk, base', m')) : False := by
  rcases J.arr2_may hA' hl' with h | ⟨o, h⟩
  · have := J.rel.mem.lt blk (Gh.wr_of_B hB)
    have h : w.heap.size ≤ blk := h
    omega
  · rcases h.2 with ⟨b, blk', base2, bs, k, h1, _, _, h2⟩ | ⟨j2, aj2, base2, m2, h1, h2⟩
    · injection h2 with h2 _
      subst h2
      have h3 : G'.B b = some (blk, base2) := (J.mem.pin b _ h1).1
      exact J.mem.ab b j aj blk base2 base' m' h3 hA' hl'
    · obtain ⟨i', h3, h4⟩ := gh_loc h1 h2
      exact J.rel.mem.ab c i' aj2 blk base base2 m2 hB h4 h2
theorem all2 {b : Nat} (h : (C.sub G (R.gh p G) p w fl).all b) : C.all b ∧ (w.heap.size ≤ b ∨ (∃ j ai base m, (R.gh p G).A j = some ai ∧ ai.loc = some (b, base, m)) ∨ ∃ j, b ∈ (R.gh p G).inner j) := by
  rcases h with h | h
  · have h : w.heap.size ≤ b := h
    exact ⟨.inl (by have := J.N0; omega), .inl h⟩
  · exact ⟨h.1, .inr h.2⟩
theorem wrN {i : Nat} (h : (G.join G' sA sB).wr i) : (∃ c base, sB c = none ∧ G.B c = some (i, base)) ∨ (∃ c b base, sB c = some b ∧ G'.B b = some (i, base)) ∨ (∃ k ai base m, sA k = none ∧ G.A k = some ai ∧ ai.loc = some (i, base, m)) ∨ (∃ k j ai base m, sA k = some (some j) ∧ G'.A j = some ai ∧ ai.loc = some (i, base, m)) := by
  have _ := @J
  rcases h with ⟨c, base, hb⟩ | ⟨k, ai, base, m, h1, h2⟩
  · cases hs : sB c with
    | none => rw [join_B_old hs] at hb; exact .inl ⟨c, base, hs, hb⟩
    | some b => rw [join_B_new hs] at hb; exact .inr (.inl ⟨c, b, base, hs, hb⟩)
  · rcases sA_cases (sA := sA) k with hs | hs | ⟨j, hs⟩
    · rw [(join_A_old hs).1] at h1; exact .inr (.inr (.inl ⟨k, ai, base, m, hs, h1, h2⟩))
    · rw [(join_A_gone hs).1] at h1; cases h1
    · rw [(join_A_frm hs).1] at h1; exact .inr (.inr (.inr ⟨k, j, ai, base, m, hs, h1, h2⟩))
theorem wr_old {i : Nat} (h : (G.join G' sA sB).wr i) : G.wr i ∨ (w.heap.size ≤ i ∧ G'.wr i) := by
  rcases J.wrN h with ⟨c, base, _, hb⟩ | ⟨c, b, base, hs, hb⟩ | ⟨k, ai, base, m, _, h1, h2⟩ | ⟨k, j, ai, base, m, _, h1, h2⟩
  · exact .inl (Gh.wr_of_B hb)
  · obtain ⟨_, _, _, ls, h3, h4, _⟩ := J.b_new c b hs
    rcases J.blk2 (J.box2_may h3 h4 hb) with h5 | h5
    · exact .inr ⟨h5, Gh.wr_of_B hb⟩
    · exact .inl (gh_wr h5)
  · exact .inl (Gh.wr_of_A h1 h2)
  · rcases J.blk2 (J.arr2_may h1 h2) with h5 | h5
    · exact .inr ⟨h5, Gh.wr_of_A h1 h2⟩
    · exact .inl (gh_wr h5)
theorem keeps : Keeps w w' (G.ok C) ((G.join G' sA sB).ok C) := fun x v hok hx => by
  refine ⟨⟨hok.1, fun hc => ?_⟩, (J.keep_nwr hx hok.2).1⟩
  rcases J.wr_old hc with hc | ⟨hc, _⟩
  · exact hok.2 hc
  · have := World.block_lt_of_cell? w _ hx; omega
theorem keeps2 (hfl : fl = false) : Keeps w' w' (G'.ok (C.sub G (R.gh p G) p w fl)) ((G.join G' sA sB).ok C) := Keeps.mono w' fun i hi => by
  have hcase : G.ok C i ∨ (R.gh p G).wr i ∨ w.heap.size ≤ i := by
    by_cases h1 : G.ok C i
    · exact .inl h1
    · by_cases h2 : (R.gh p G).wr i
      · exact .inr (.inl h2)
      · exact .inr (.inr (Nat.le_of_not_lt fun h3 => hi.1 ⟨hfl, h1, h2, h3⟩))
  have hpass : (R.gh p G).wr i → ∃ j k ai base m, look R.a j = some (some k) ∧ G.A k = some ai ∧ ai.loc = some (i, base, m) := fun h => by
    rcases h with ⟨b, base, hb⟩ | ⟨j, ai, base, m, h1, h2⟩
    · exact absurd (Gh.wr_of_B (J.mem.pin b _ hb).1) hi.2
    · obtain ⟨k, h3, h4⟩ := gh_loc h1 h2
      exact ⟨j, k, ai, base, m, h3, h4, h2⟩
  refine ⟨fun hx => ?_, fun hw => ?_⟩
  · have hX := J.rel.mem.X i hx
    rcases hcase with h | h | h
    · exact h.1 hx
    · obtain ⟨j, k, ai, base, m, _, h4, h5⟩ := hpass h
      obtain ⟨r, hr⟩ := J.rel.mem.adom k ai h4
      obtain ⟨ai', h6, h7⟩ := J.rel.mem.arrR k r hr
      rw [h4] at h6; cases h6
      exact hX.1 (h7.may _ _ _ h5)
    · exact hX.1 (.inl (by have := J.N0; omega))
  · rcases J.wrN hw with ⟨c, base, _, hb⟩ | ⟨c, b, base, hs, hb⟩ | ⟨k, ai, base, m, hs, h1, h2⟩ | ⟨k, j, ai, base, m, _, h1, h2⟩
    · rcases hcase with h | h | h
      · exact h.2 (Gh.wr_of_B hb)
      · obtain ⟨j, k, ai, base', m, _, h4, h5⟩ := hpass h
        exact J.rel.mem.ab c k ai i base base' m hb h4 h5
      · have := J.rel.mem.lt i (Gh.wr_of_B hb); omega
    · exact hi.2 (Gh.wr_of_B hb)
    · rcases hcase with h | h | h
      · exact h.2 (Gh.wr_of_A h1 h2)
      · obtain ⟨j, k', ai', base', m', h3, h4, h5⟩ := hpass h
        refine J.rel.mem.aa k k' ai ai' i base m base' m' (fun hc => ?_) h1 h4 h2 h5
        subst hc
        rcases J.a_pass k j h3 with h6 | ⟨_, h6⟩ <;> rw [hs] at h6 <;> cases h6
      · have := J.rel.mem.lt i (Gh.wr_of_A h1 h2); omega
    · exact hi.2 (Gh.wr_of_A h1 h2)
theorem frm_A {i : Nat} {j : Nat} (hs : sA i = some (some j)) : ∃ ai, G'.A j = some ai ∧ (G.join G' sA sB).A i = some ai := by
  obtain ⟨_, ⟨r, hr⟩, _⟩ := J.a_frm i j hs
  obtain ⟨ai, h1, _⟩ := J.mem.arrR j r hr
  exact ⟨ai, h1, by rw [(join_A_frm hs).1]; exact h1⟩
theorem alive {i : Nat} {ai : AI} (hid : ids.contains i = false) (hA : G.A i = some ai) : (G.join G' sA sB).A i = some ai := by
  rcases sA_cases (sA := sA) i with hs | hs | ⟨j, hs⟩
  · rw [(join_A_old hs).1]; exact hA
  · rw [J.ids i hs] at hid; cases hid
  · obtain ⟨aj, h1, h2⟩ := J.frm_A hs
    rcases (J.a_frm i j hs).2.2.2 with ⟨_, h3, _⟩ | ⟨h3, h4⟩
    · obtain ⟨r, h5⟩ := J.rel.mem.adom i ai hA
      rw [h3] at h5; cases h5
    · rw [h2, J.pass_A h3 h4 hA h1]
theorem B_le {c : Nat} {x : Nat × Nat} (hB : G.B c = some x) : (G.join G' sA sB).B c = some x := by
  cases hs : sB c with
  | none => rw [join_B_old hs]; exact hB
  | some b =>
    obtain ⟨ls, h1⟩ := J.rel.mem.bdom c x hB
    rw [(J.b_new c b hs).2.1] at h1; cases h1
theorem ptr_le {b o : Nat} {v : Value} (h : PtrAt G b o v) : PtrAt (G.join G' sA sB) b o v := h.mono fun _ _ hb => J.B_le hb
theorem caps_le {cs : List (Nat × Nat)} {vs : List Value} (h : CapsAt G cs vs) : CapsAt (G.join G' sA sB) cs vs := h.mono fun _ _ hb => J.B_le hb
theorem kill_leaf {l : Leaf} {v : Value} (h : RepLeaf w (G.ok C) G l v) : RepLeaf w' ((G.join G' sA sB).ok C) (G.join G' sA sB) (l.killL ids) v := by
  cases l with
  | own i =>
    simp only [Leaf.killL]
    cases hid : ids.contains i
    · obtain ⟨ai, x, c, h1, h2⟩ := h
      exact ⟨ai, x, c, J.alive hid h1, h2⟩
    · exact RepLeaf.one (l := .own i) h
  | sub i o n =>
    simp only [Leaf.killL]
    cases hid : ids.contains i
    · obtain ⟨ai, x, c, h1, h2⟩ := h
      exact ⟨ai, x, c, J.alive hid h1, h2⟩
    · exact RepLeaf.one (l := .sub i o n) h
  | sl e x b => exact ⟨h.1.trans J.keeps, h.2⟩
  | ptr b o => exact J.ptr_le h
  | fn f cs => obtain ⟨vs, h1, h2⟩ := h; exact ⟨vs, h1, J.caps_le h2⟩
  | ifp t g b o => obtain ⟨x, h1, h2⟩ := h; exact ⟨x, J.ptr_le h1, h2⟩
  | int | bool | str | nil | nilp | nilf | nili | ifx | dead => exact h
theorem kill_slot {s : Slot} {v : Value} (h : RepSlot w (G.ok C) G s v) : RepSlot w' ((G.join G' sA sB).ok C) (G.join G' sA sB) (s.killL ids) v := by
  cases s with
  | lf l => exact J.kill_leaf h
  | ag ls => obtain ⟨vs, h1, h2⟩ := h; exact ⟨vs, h1, h2.map fun l v h => J.kill_leaf h⟩
  | tp xs => obtain ⟨vs, h1, h2⟩ := h; exact ⟨vs, h1, h2.map fun l v h => J.kill_leaf h⟩
  | ep i k o =>
    simp only [Slot.killL]
    cases hid : ids.contains i
    · obtain ⟨ai, blk, base, m, h1, h2⟩ := h
      exact ⟨ai, blk, base, m, J.alive hid h1, h2⟩
    · trivial
  | rp ls => exact rp_map J.keeps (fun l v h => J.kill_leaf h) h
  | dead => trivial
theorem ren_ptr {b o c d : Nat} {v : Value} (ht : tB b = some (c, d)) (h : PtrAt G' b o v) : PtrAt (G.join G' sA sB) c (d + o) v := by
  obtain ⟨blk, base, h1, h2⟩ := h
  rcases J.t_b b c d ht with h3 | ⟨h3, rfl⟩
  · obtain ⟨bs, h4⟩ := J.ren.kb b _ h3
    obtain ⟨c', d', ls, h5, h6, _⟩ := J.ren.fit b bs h4
    rw [h3] at h5; cases h5
    obtain ⟨blk', base', h7, _⟩ := J.rel.mem.boxR c ls h6
    have := J.pass_B h3 h7
    rw [this] at h1; cases h1
    exact ⟨blk, base', J.B_le h7, by rw [h2, Nat.add_assoc]⟩
  · exact ⟨blk, base, by rw [join_B_new h3]; exact h1, by rw [h2, Nat.zero_add]⟩
theorem ren_caps : ∀ {cs r : List (Nat × Nat)} {vs : List Value}, renCaps tB cs = some r → CapsAt G' cs vs → CapsAt (G.join G' sA sB) r vs
  | [], r, [], e, _ => by cases e; trivial
  | c :: cs, r, v :: vs, e, h => by
    simp only [renCaps] at e
    split at e
    · rename_i b d r' h1 h2
      cases e
      exact ⟨J.ren_ptr h1 h.1, ren_caps h2 h.2⟩
    · cases e
  | [], _, _ :: _, _, h | _ :: _, _, [], _, h => h.elim
theorem ren_leaf {l : Leaf} {v : Value} (h : RepLeaf w' (G'.ok (C.sub G (R.gh p G) p w fl)) G' l v) (hsl : fl = true → ∀ e x y, l ≠ .sl e x y) : RepLeaf w' ((G.join G' sA sB).ok C) (G.join G' sA sB) (l.ren tA tB) v := by
  cases l with
  | own j =>
    simp only [Leaf.ren]
    split
    · rename_i i ht
      obtain ⟨ai, x, c, h1, h2⟩ := h
      exact ⟨ai, x, c, by rw [(join_A_frm (J.t_a j i ht)).1]; exact h1, h2⟩
    · exact RepLeaf.one (l := .own j) h
  | sub i o n => exact RepLeaf.one (l := .sub i o n) h
  | sl e x b =>
    cases hfl : fl with
    | true => exact absurd rfl (hsl hfl e x b)
    | false => exact ⟨h.1.trans (J.keeps2 hfl), h.2.1, fun a j e => by rw [h.2.2 a j e]; show G'.E a j = G.E a j; rw [J.mem.E, J.rel.mem.E]; rfl⟩
  | ptr b o =>
    simp only [Leaf.ren]
    split
    · rename_i c d ht; exact J.ren_ptr ht h
    · exact RepLeaf.one (l := .ptr b o) h
  | fn f cs =>
    simp only [Leaf.ren]
    split
    · rename_i r hr
      obtain ⟨vs, h1, h2⟩ := h
      exact ⟨vs, h1, J.ren_caps hr h2⟩
    · exact RepLeaf.one (l := .fn f cs) h
  | ifp t g b o =>
    simp only [Leaf.ren]
    split
    · rename_i c d ht
      obtain ⟨x, h1, h2⟩ := h
      exact ⟨x, J.ren_ptr ht h1, h2⟩
    · exact RepLeaf.one (l := .ifp t g b o) h
  | int | bool | str | nil | nilp | nilf | nili | ifx | dead => exact h
end JH
end
end Go.Ev
