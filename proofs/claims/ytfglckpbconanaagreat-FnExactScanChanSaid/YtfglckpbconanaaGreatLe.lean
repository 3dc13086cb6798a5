/- What is proved here: summaries of contracts, arguments of rows, loops over lists; no condition. -/
import Derived.Below
import Derived.ChangeOld
import Derived.Laws.BitsLemmas
import Derived.OpenShut
import Derived.ProofKit
import Derived.SizedLaws
import Derived.Test.YtfglckpbconanaaGreatLd
set_option linter.unusedVariables false
set_option linter.unusedSimpArgs false
namespace Go.Ev
section
variable {P : Program} {C : Cx} {G G' : Gh} {st : St} {a : Act} {w w' : World} {R : Ren} {p : Sp} {fl : Bool} {box2 boxN : Tr (List Leaf)} {arr2 arrN : Tr Arr}
  {sA : Nat → Option (Option Nat)} {sB : Nat → Option Nat} {tA : Nat → Option Nat} {tB : Nat → Option (Nat × Nat)} {ids : List Nat}
theorem RepLeafs.at {w : World} {ok : Nat → Prop} {G : Gh} : ∀ {ls : List Leaf} {vs : List Value}, RepLeafs w ok G ls vs → ∀ (i : Nat) (v : Value), vs[i]? = some v → ∃ l, ls[i]? = some l ∧ RepLeaf w ok G l v := fun {ls vs} h i v hv => by
  have hl := h.length
  have hlt := (List.getElem?_eq_some_iff.1 hv).1
  have h1 : ls[i]? = some (ls[i]'(by omega)) := List.getElem?_eq_getElem (by omega)
  obtain ⟨v', h2, h3⟩ := h.get i _ h1
  rw [hv] at h2; cases h2
  exact ⟨_, h1, h3⟩
namespace JH
variable (J : JH C G G' st a w w' R p fl box2 boxN arr2 arrN sA sB tA tB ids)
include J
theorem box_old {c blk base k : Nat} {ls : List Leaf} (hb : st.box.get c = some ls) (hB : G.B c = some (blk, base)) (hk : k < ls.length)
    (hn : ∀ b d bs, look R.b b = some (c, d) → look p.box b = some bs → k < d ∨ d + bsz bs ≤ k) : ¬ (C.sub G (R.gh p G) p w fl).T0 ⟨blk, base + k, none⟩ := fun h => by
  rcases h.2 with ⟨b, blk', base', bs, i, h1, h2, h3, h4⟩ | ⟨j, aj, base', m', h1, h2⟩
  · injection h4 with h4 h5
    subst h4
    obtain ⟨c', d, b3, h6, h7, h8⟩ := gh_B h1
    simp only at h7 h8
    obtain ⟨c2, d2, ls2, h9, h10, h11, _⟩ := J.ren.fit b bs h2
    rw [h6] at h9; cases h9
    by_cases hcc : c' = c
    · subst hcc
      rw [hB] at h7; cases h7
      have := hn b d bs h6 h2
      omega
    · have := J.rel.mem.bb c c' ls ls2 blk base b3 (Ne.symm hcc) hb h10 hB h7
      omega
  · obtain ⟨i', h3, h4⟩ := gh_loc h1 h2
    exact J.rel.mem.ab c i' aj blk base base' m' hB h4 h2
theorem inn_ok {j b : Nat} (hb : b ∈ G'.inner j) : C.all b ∧ b < w'.heap.size ∧ ¬ (G.join G' sA sB).wr b := by
  obtain ⟨h1, h2, h3⟩ := J.mem.fwr j b hb
  obtain ⟨h4, h5⟩ := J.all2 h1
  refine ⟨h4, h2, fun hw => ?_⟩
  have hold : ∀ {i}, G.wr i → i = b → (∃ j ai base m, (R.gh p G).A j = some ai ∧ ai.loc = some (b, base, m)) := fun {i} hi e => by
    subst e
    rcases h5 with h5 | h5 | ⟨j', h5⟩
    · have := J.rel.mem.lt _ hi; omega
    · exact h5
    · obtain ⟨i', _, h6⟩ := gh_inner h5
      exact absurd hi (J.rel.mem.fwr i' _ h6).2.2
  rcases J.wrN hw with ⟨c, base, _, hB⟩ | ⟨c, b', base, hs, hB⟩ | ⟨k, ai, base, m, hs, g1, g2⟩ | ⟨k, j', ai, base, m, _, g1, g2⟩
  · obtain ⟨j2, ai, base2, m, g1, g2⟩ := hold (Gh.wr_of_B hB) rfl
    obtain ⟨i', _, g4⟩ := gh_loc g1 g2
    exact J.rel.mem.ab c i' ai b base base2 m hB g4 g2
  · exact h3 (Gh.wr_of_B hB)
  · obtain ⟨j2, ai2, base2, m2, g3, g4⟩ := hold (Gh.wr_of_A g1 g2) rfl
    exact J.arr_old hs g1 g2 0 ⟨by
      rcases h4 with h4 | h4
      · exact .inl h4
      · obtain ⟨r, hr⟩ := J.rel.mem.adom k ai g1
        obtain ⟨ai', h6, h7⟩ := J.rel.mem.arrR k r hr
        rw [g1] at h6; cases h6
        exact absurd (J.arr_old hs g1 g2) (by
          intro hno
          rcases h7.may _ _ _ g2 with hm | ⟨o, hm⟩
          · exact hno 0 ⟨.inl hm, .inr ⟨j2, ai2, base2, m2, g3, g4⟩⟩
          · exact hno o ⟨.inr hm, .inr ⟨j2, ai2, base2, m2, g3, g4⟩⟩), .inr ⟨j2, ai2, base2, m2, g3, g4⟩⟩
  · exact h3 (Gh.wr_of_A g1 g2)
theorem arr_rep {j : Nat} {r : Arr} (hr : arr2.get j = some r) {ai : AI} (hA : G'.A j = some ai) (ha : ArrAt (C.sub G (R.gh p G) p w fl) G' w' ai r) : ArrAt C (G.join G' sA sB) w' ai r := by
  refine ⟨ha.sz, ha.n, ha.nil, fun blk base m hl => ?_, fun blk base m hl k hk => ?_, ha.le, ha.there, fun blk base m hl i hi => ?_⟩
  · rcases ha.may blk base m hl with h | ⟨o, h⟩
    · have h : w.heap.size ≤ blk := h
      exact .inl (by have := J.N0; omega)
    · rcases h.1 with h | h
      · exact .inl h
      · exact .inr ⟨o, h⟩
  · rcases ha.wr blk base m hl k hk with h | h
    · have h : w.heap.size ≤ blk := h
      exact .inl (by have := J.N0; omega)
    · exact h.1
  · obtain ⟨cs, h1, h2⟩ := ha.el blk base m hl i hi
    cases hfl : fl with
    | false => exact ⟨cs, h1.trans (J.keeps2 hfl), h2⟩
    | true =>
      rcases J.a_flat hfl j r hr with hf | hd
      · exact ⟨cs, h1.flat hf, h2⟩
      · obtain ⟨cs', h3, h4⟩ := (J.mem.own j r ai hr hA hd).el blk base m hl i hi
        exact ⟨cs', h3.rep fun b hb => by
          obtain ⟨g1, g2, g3⟩ := J.inn_ok (mem_inner hb)
          exact ⟨all_notX J.rel.mem g1, g3⟩, h4⟩
theorem memN : MemR C (G.join G' sA sB) boxN arrN w' := by
  have hsz := J.sz
  have hN0 := J.N0
  have hm := J.rel.mem
  refine ⟨fun c x hc => ?_, fun i ai hi => ?_, fun c lsN hc => ?_, fun i r hi => ?_, fun i hi => ?_, fun c c' ls ls' blk base base' hne h1 h2 h3 h4 => ?_, fun i k ai ak blk base m base' m' hne h1 h2 h3 h4 => ?_, fun c i ai blk base base' m hB hA hl => ?_, fun i r ai hi hA hd => ?_,
    fun i => ?_, fun i k hne b h1 h2 => ?_, fun i b hb => ?_, hm.X, by have := hm.size; omega, fun i ai hi => ?_, fun c x hc => ?_, fun b x hb => ?_, fun id x hid => ?_, hm.E⟩
  · -- bdom
    cases hs : sB c with
    | none =>
      rw [join_B_old hs] at hc
      obtain ⟨ls, h1⟩ := hm.bdom c x hc
      obtain ⟨lsN, h2, _⟩ := J.b_old c ls hs h1
      exact ⟨lsN, h2⟩
    | some b =>
      obtain ⟨_, _, _, ls, _, _, h3⟩ := J.b_new c b hs
      exact ⟨_, h3⟩
  · -- adom
    rcases sA_cases (sA := sA) i with hs | hs | ⟨j, hs⟩
    · rw [(join_A_old hs).1] at hi
      rw [J.a_old i hs]; exact hm.adom i ai hi
    · rw [(join_A_gone hs).1] at hi; cases hi
    · obtain ⟨_, h1, h2, _⟩ := J.a_frm i j hs
      rw [h2]; exact h1
  · -- boxR
    cases hs : sB c with
    | none =>
      cases hb : st.box.get c with
      | none => rw [J.b_none c hs hb] at hc; cases hc
      | some ls =>
        obtain ⟨lsN', h1, h2, h3⟩ := J.b_old c ls hs hb
        rw [hc] at h1; cases h1
        obtain ⟨blk, base, hB, hat⟩ := hm.boxR c ls hb
        obtain ⟨vs, hr, hrng⟩ := hat.vs
        have hlv := hr.length
        refine ⟨blk, base, by rw [join_B_old hs]; exact hB, fun i hi => hat.wr i (by omega), fun k hk => ?_, ?_⟩
        · rw [h2] at hk
          rcases h3 k hk with ⟨b, d, bs, lsb, g1, g2, g3, g4, g5, g6, g7⟩ | ⟨g1, g2⟩
          · obtain ⟨blk', base', e1, e2⟩ := J.mem.boxR b lsb g3
            rw [J.pass_B g1 hB] at e1; cases e1
            have := e2.fz (k - d) (by omega)
            rwa [show base + d + (k - d) = base + k by omega] at this
          · have hcell : w.cell? ⟨blk, base + k, none⟩ = some (vs[k]'(by omega)) := hrng k _ (List.getElem?_eq_getElem (by omega))
            rw [(J.keep hcell (J.box_old hb hB hk g1)).2]
            exact hat.fz k hk
        · -- the values
          have hval : ∀ k, k < ls.length → ∃ v, w'.cell? ⟨blk, base + k, none⟩ = some v ∧ ∀ l, lsN[k]? = some l → RepLeaf w' ((G.join G' sA sB).ok C) (G.join G' sA sB) l v := fun k hk => by
            rcases h3 k hk with ⟨b, d, bs, lsb, g1, g2, g3, g4, g5, g6, g7⟩ | ⟨g1, g2⟩
            · obtain ⟨blk', base', e1, e2⟩ := J.mem.boxR b lsb g3
              rw [J.pass_B g1 hB] at e1; cases e1
              obtain ⟨vs2, f1, f2⟩ := e2.vs
              have f3 := f1.length
              have f4 : vs2[k - d]? = some (vs2[k - d]'(by omega)) := List.getElem?_eq_getElem (by omega)
              obtain ⟨l0, f5, f6⟩ := f1.at (k - d) _ f4
              have f7 := f2 (k - d) _ f4
              refine ⟨_, by rw [show base + k = base + d + (k - d) by omega]; exact f7, fun l hl => ?_⟩
              rw [g7, f5] at hl
              cases hl
              exact J.ren_leaf f6 fun hfl => J.b_sl hfl b lsb g3 l0 (List.mem_of_getElem? f5)
            · have f4 : vs[k]? = some (vs[k]'(by omega)) := List.getElem?_eq_getElem (by omega)
              have hcell := hrng k _ f4
              obtain ⟨l0, f5, f6⟩ := hr.at k _ f4
              refine ⟨_, (J.keep hcell (J.box_old hb hB hk g1)).1, fun l hl => ?_⟩
              rw [g2, f5] at hl
              cases hl
              exact J.kill_leaf f6
          have hmk : ∀ n, n ≤ ls.length → ∃ us : List Value, us.length = n ∧ ∀ k, k < n → ∃ v, us[k]? = some v ∧ w'.cell? ⟨blk, base + k, none⟩ = some v ∧ ∀ l, lsN[k]? = some l → RepLeaf w' ((G.join G' sA sB).ok C) (G.join G' sA sB) l v := by
            intro n
            induction n with
            | zero => intro _; exact ⟨[], rfl, fun k hk => by omega⟩
            | succ n ih =>
              intro hn
              obtain ⟨us, u1, u2⟩ := ih (by omega)
              obtain ⟨v, v1, v2⟩ := hval n (by omega)
              refine ⟨us ++ [v], by simp [u1], fun k hk => ?_⟩
              by_cases hkn : k < n
              · obtain ⟨v', e1, e2⟩ := u2 k hkn
                exact ⟨v', by rw [List.getElem?_append_left (by omega)]; exact e1, e2⟩
              · have : k = n := by omega
                subst this
                exact ⟨v, by rw [List.getElem?_append_right (by omega), u1]; simp, v1, v2⟩
          obtain ⟨us, u1, u2⟩ := hmk ls.length (Nat.le_refl _)
          refine ⟨us, RepLeafs.of_get (by omega) fun k l v hl hv => ?_, fun k v hv => ?_⟩
          · have hk : k < us.length := (List.getElem?_eq_some_iff.1 hv).1
            obtain ⟨v', e1, _, e3⟩ := u2 k (by omega)
            rw [hv] at e1; cases e1
            exact e3 l hl
          · have hk : k < us.length := (List.getElem?_eq_some_iff.1 hv).1
            obtain ⟨v', e1, e2, _⟩ := u2 k (by omega)
            rw [hv] at e1; cases e1
            exact e2
    | some b =>
      obtain ⟨_, _, _, ls, h3, h4, h5⟩ := J.b_new c b hs
      rw [hc] at h5; cases h5
      obtain ⟨blk, base, e1, e2⟩ := J.mem.boxR b ls h3
      obtain ⟨vs2, f1, f2⟩ := e2.vs
      refine ⟨blk, base, by rw [join_B_new hs]; exact e1, fun i hi => ?_, fun i hi => e2.fz i (by simpa using hi), vs2, ?_, f2⟩
      · rcases e2.wr i (by simpa using hi) with h | h
        · have h : w.heap.size ≤ blk := h
          exact .inl (by omega)
        · exact h.1
      · refine RepLeafs.of_get (by simp [f1.length]) fun k l v hl hv => ?_
        obtain ⟨l0, f5, f6⟩ := f1.at k v hv
        rw [List.getElem?_map, f5] at hl
        cases hl
        exact J.ren_leaf f6 fun hfl => J.b_sl hfl b ls h3 l0 (List.mem_of_getElem? f5)
  · -- arrR
    rcases sA_cases (sA := sA) i with hs | hs | ⟨j, hs⟩
    · rw [J.a_old i hs] at hi
      obtain ⟨ai, h1, h2⟩ := hm.arrR i r hi
      exact ⟨ai, by rw [(join_A_old hs).1]; exact h1, h2.trans J.keeps fun blk base m hl o v hx => J.keep hx (J.arr_old hs h1 hl o)⟩
    · rw [J.a_gone i hs] at hi; cases hi
    · obtain ⟨_, _, h2, _⟩ := J.a_frm i j hs
      rw [h2] at hi
      obtain ⟨ai, h3, h4⟩ := J.mem.arrR j r hi
      exact ⟨ai, by rw [(join_A_frm hs).1]; exact h3, J.arr_rep hi h3 h4⟩
  · -- lt
    rcases J.wrN hi with ⟨c, base, _, hb⟩ | ⟨c, b, base, hs, hb⟩ | ⟨k, ai, base, m, _, h1, h2⟩ | ⟨k, j, ai, base, m, _, h1, h2⟩
    · have := hm.lt i (Gh.wr_of_B hb); omega
    · exact J.mem.lt i (Gh.wr_of_B hb)
    · have := hm.lt i (Gh.wr_of_A h1 h2); omega
    · exact J.mem.lt i (Gh.wr_of_A h1 h2)
  · -- bb
    have hlenO : ∀ {c ls}, sB c = none → boxN.get c = some ls → ∃ l0, st.box.get c = some l0 ∧ ls.length = l0.length := fun {c ls} hs hb => by
      cases hb0 : st.box.get c with
      | none => rw [J.b_none c hs hb0] at hb; cases hb
      | some l0 =>
        obtain ⟨lsN, e1, e2, _⟩ := J.b_old c l0 hs hb0
        rw [hb] at e1; cases e1
        exact ⟨l0, rfl, e2⟩
    have hON : ∀ {c c' b ls ls' blk base base'}, sB c = none → sB c' = some b → boxN.get c = some ls → boxN.get c' = some ls' → G.B c = some (blk, base) → G'.B b = some (blk, base') → base + ls.length ≤ base' ∨ base' + ls'.length ≤ base := by
      intro c c' b ls ls' blk base base' hs hs' h1 h2 h3 h4
      obtain ⟨l0, e1, e2⟩ := hlenO hs h1
      obtain ⟨_, _, g0, l2, g1, g2, g3⟩ := J.b_new c' b hs'
      rw [h2] at g3; cases g3
      obtain ⟨blk2, base2, f1, f2⟩ := J.mem.boxR b l2 g1
      rw [h4] at f1; cases f1
      have hlt := hm.lt blk (Gh.wr_of_B h3)
      simp only [List.length_map]
      have hpos := List.length_pos_iff.2 g2
      have hcell : ∀ i, i < l2.length → ∃ b2 c2 d2 bs2 base3, look R.b b2 = some (c2, d2) ∧ look p.box b2 = some bs2 ∧ G.B c2 = some (blk, base3) ∧ base3 + d2 ≤ base' + i ∧ base' + i < base3 + d2 + bsz bs2 := fun i hi => by
        rcases f2.wr i hi with hw | ⟨_, hw⟩
        · have hw : w.heap.size ≤ blk := hw
          omega
        · rcases hw with ⟨b2, blk3, base3, bs2, k, q1, q2, q3, q4⟩ | ⟨j2, aj2, base3, m3, q1, q2⟩
          · injection q4 with q4 q5
            subst q4
            obtain ⟨c2, d2, b4, q6, q7, q8⟩ := gh_B q1
            simp only at q7 q8
            exact ⟨b2, c2, d2, bs2, b4, q6, q2, q7, by omega, by omega⟩
          · obtain ⟨i', q3, q4⟩ := gh_loc q1 q2
            exact (hm.ab c i' aj2 blk base base3 m3 h3 q4 q2).elim
      obtain ⟨b2, c2, d2, bs2, base3, q1, q2, q3, q4, q5⟩ := hcell 0 hpos
      have hB2 : G'.B b2 = some (blk, base3 + d2) := J.pass_B q1 q3
      obtain ⟨ls2, hls2⟩ := J.mem.bdom b2 _ hB2
      have hne2 : b2 ≠ b := fun hc => by rw [hc, g0] at q1; cases q1
      obtain ⟨c2', d2', l3, q6, q7, q8, q9⟩ := J.ren.fit b2 bs2 q2
      rw [q1] at q6; cases q6
      obtain ⟨lsN2, r1, r2, r3⟩ := J.b_old c2 l3 (J.b_pass b2 c2 d2 q1) q7
      have : ls2.length = bsz bs2 := by
        rcases r3 d2 (by omega) with ⟨b3, d3, bs3, lsb3, s1, s2, s3, s4, s5, s6, _⟩ | ⟨s1, _⟩
        · by_cases hb3 : b3 = b2
          · subst hb3
            rw [q1] at s1; cases s1
            rw [q2] at s2; cases s2
            rw [hls2] at s3; cases s3
            exact s4
          · have := ndB_mem J.ren.b (look_mem s2) (look_mem q2) hb3
            simp only [rng, s1, q1, apR, Bool.or_eq_true, Bool.not_eq_true', beq_eq_false_iff_ne] at this
            rcases this with this | this | this
            · exact absurd rfl this
            · have := Nat.le_of_ble_eq_true this; omega
            · have := Nat.le_of_ble_eq_true this; omega
        · have := s1 b2 d2 bs2 q1 q2; omega
      have := J.mem.bb b2 b ls2 l2 blk (base3 + d2) base' hne2 hls2 g1 hB2 h4
      omega
    cases hs : sB c with
    | none =>
      rw [join_B_old hs] at h3
      cases hs' : sB c' with
      | none =>
        rw [join_B_old hs'] at h4
        obtain ⟨l0, e1, e2⟩ := hlenO hs h1
        obtain ⟨l0', e1', e2'⟩ := hlenO hs' h2
        rw [e2, e2']
        exact hm.bb c c' l0 l0' blk base base' hne e1 e1' h3 h4
      | some b' =>
        rw [join_B_new hs'] at h4
        exact hON hs hs' h1 h2 h3 h4
    | some b =>
      rw [join_B_new hs] at h3
      cases hs' : sB c' with
      | none =>
        rw [join_B_old hs'] at h4
        exact (hON hs' hs h2 h1 h4 h3).symm
      | some b' =>
        rw [join_B_new hs'] at h4
        obtain ⟨_, _, _, l1, g1, _, g3⟩ := J.b_new c b hs
        obtain ⟨_, _, _, l2, f1, _, f3⟩ := J.b_new c' b' hs'
        rw [h1] at g3; cases g3
        rw [h2] at f3; cases f3
        simp only [List.length_map]
        exact J.mem.bb b b' l1 l2 blk base base' (fun hc => hne (J.b_inj c c' b hs (hc ▸ hs'))) g1 f1 h3 h4
  · -- aa
    rcases sA_cases (sA := sA) i with hs | hs | ⟨j, hs⟩
    · rw [(join_A_old hs).1] at h1
      rcases sA_cases (sA := sA) k with hs' | hs' | ⟨j', hs'⟩
      · rw [(join_A_old hs').1] at h2
        exact hm.aa i k ai ak blk base m base' m' hne h1 h2 h3 h4
      · rw [(join_A_gone hs').1] at h2; cases h2
      · rw [(join_A_frm hs').1] at h2
        exact J.apart_A hs h1 h3 h2 h4
    · rw [(join_A_gone hs).1] at h1; cases h1
    · rw [(join_A_frm hs).1] at h1
      rcases sA_cases (sA := sA) k with hs' | hs' | ⟨j', hs'⟩
      · rw [(join_A_old hs').1] at h2
        exact J.apart_A hs' h2 h4 h1 h3
      · rw [(join_A_gone hs').1] at h2; cases h2
      · rw [(join_A_frm hs').1] at h2
        exact J.mem.aa j j' ai ak blk base m base' m' (fun hc => hne (J.a_inj i k j hs (hc ▸ hs'))) h1 h2 h3 h4
  · -- ab
    cases hs : sB c with
    | none =>
      rw [join_B_old hs] at hB
      rcases sA_cases (sA := sA) i with hs' | hs' | ⟨j', hs'⟩
      · rw [(join_A_old hs').1] at hA
        exact hm.ab c i ai blk base base' m hB hA hl
      · rw [(join_A_gone hs').1] at hA; cases hA
      · rw [(join_A_frm hs').1] at hA
        exact J.apart_B hB hA hl
    | some b =>
      rw [join_B_new hs] at hB
      rcases sA_cases (sA := sA) i with hs' | hs' | ⟨j', hs'⟩
      · rw [(join_A_old hs').1] at hA
        obtain ⟨_, _, _, ls, h3, h4, _⟩ := J.b_new c b hs
        rcases J.box2_may h3 h4 hB with h | ⟨o, h⟩
        · have h : w.heap.size ≤ blk := h
          have := hm.lt blk (Gh.wr_of_A hA hl); omega
        · exact J.arr_old hs' hA hl o h
      · rw [(join_A_gone hs').1] at hA; cases hA
      · rw [(join_A_frm hs').1] at hA
        exact J.mem.ab b j' ai blk base base' m hB hA hl
  · -- own
    rcases sA_cases (sA := sA) i with hs | hs | ⟨j, hs⟩
    · rw [J.a_old i hs] at hi
      rw [(join_A_old hs).1] at hA
      rw [(join_A_old hs).2.1]
      exact (hm.own i r ai hi hA hd).trans (fun x v hx hc => J.keep_nwr hc (hm.fwr i x.block hx).2.2) fun blk base m hl o v hx => (J.keep hx (J.arr_old hs hA hl o)).1
    · rw [J.a_gone i hs] at hi; cases hi
    · obtain ⟨_, _, h2, _⟩ := J.a_frm i j hs
      rw [h2] at hi
      rw [(join_A_frm hs).1] at hA
      rw [(join_A_frm hs).2.1]
      have := J.mem.own j r ai hi hA hd
      exact ⟨fun blk base m hl => (J.all2 (this.new blk base m hl)).1, this.len, this.el⟩
  · -- fnd
    rcases sA_cases (sA := sA) i with hs | hs | ⟨j, hs⟩
    · rw [(join_A_old hs).2.2]; exact hm.fnd i
    · rw [(join_A_gone hs).2]; simp
    · rw [(join_A_frm hs).2.2]; exact J.mem.fnd j
  · -- fdj
    have hON : ∀ {i j b}, sA i = none → b ∈ G.inner i → b ∈ G'.inner j → False := fun {i j b} hs h1 h2 => by
      obtain ⟨e1, e2⟩ := J.all2 (J.mem.fwr j b h2).1
      obtain ⟨f1, f2, f3⟩ := hm.fwr i b h1
      rcases e2 with e2 | ⟨j', ai, base, m, e3, e4⟩ | ⟨j', e3⟩
      · omega
      · exact f3 (gh_wr (Gh.wr_of_A e3 e4))
      · obtain ⟨i', e4, e5⟩ := gh_inner e3
        refine hm.fdj i i' (fun hc => ?_) b h1 e5
        subst hc
        rcases J.a_pass i j' e4 with h5 | ⟨_, h5⟩ <;> rw [hs] at h5 <;> cases h5
    rcases sA_cases (sA := sA) i with hs | hs | ⟨j, hs⟩
    · rw [(join_A_old hs).2.2] at h1
      rcases sA_cases (sA := sA) k with hs' | hs' | ⟨j', hs'⟩
      · rw [(join_A_old hs').2.2] at h2
        exact hm.fdj i k hne b h1 h2
      · rw [(join_A_gone hs').2] at h2; simp at h2
      · rw [(join_A_frm hs').2.2] at h2
        exact hON hs h1 h2
    · rw [(join_A_gone hs).2] at h1; simp at h1
    · rw [(join_A_frm hs).2.2] at h1
      rcases sA_cases (sA := sA) k with hs' | hs' | ⟨j', hs'⟩
      · rw [(join_A_old hs').2.2] at h2
        exact hON hs' h2 h1
      · rw [(join_A_gone hs').2] at h2; simp at h2
      · rw [(join_A_frm hs').2.2] at h2
        exact J.mem.fdj j j' (fun hc => hne (J.a_inj i k j hs (hc ▸ hs'))) b h1 h2
  · -- fwr
    rcases sA_cases (sA := sA) i with hs | hs | ⟨j, hs⟩
    · rw [(join_A_old hs).2.2] at hb
      obtain ⟨f1, f2, f3⟩ := hm.fwr i b hb
      refine ⟨f1, by omega, fun hw => ?_⟩
      rcases J.wr_old hw with hw | ⟨hw, _⟩
      · exact f3 hw
      · omega
    · rw [(join_A_gone hs).2] at hb; simp at hb
    · rw [(join_A_frm hs).2.2] at hb
      exact J.inn_ok hb
  · -- ia
    rcases sA_cases (sA := sA) i with hs | hs | ⟨j, hs⟩
    · rw [(join_A_old hs).1] at hi; exact hm.ia i ai hi
    · rw [(join_A_gone hs).1] at hi; cases hi
    · exact (J.a_frm i j hs).1
  · -- ib
    cases hs : sB c with
    | none => rw [join_B_old hs] at hc; exact hm.ib c x hc
    | some b => have := (J.b_new c b hs).1; omega
  · -- pin
    obtain ⟨h1, h2⟩ := hm.pin b x hb
    exact ⟨J.B_le h1, h2⟩
  · -- pinA
    obtain ⟨h1, h2⟩ := hm.pinA id x hid
    refine ⟨h1, fun ai hA => ?_⟩
    rcases sA_cases (sA := sA) id with hs | hs | ⟨j, hs⟩
    · rw [(join_A_old hs).1] at hA; exact h2 ai hA
    · rw [(join_A_gone hs).1] at hA; cases hA
    · rcases (J.a_frm id j hs).2.2.2 with ⟨_, _, h3⟩ | ⟨h3, h4⟩
      · omega
      · rw [(join_A_frm hs).1] at hA
        obtain ⟨r0, hr0⟩ := J.a_there id j h4
        obtain ⟨a0, h5, _⟩ := hm.arrR id r0 hr0
        rw [J.pass_A h3 h4 h5 hA]; exact h2 a0 h5
theorem frN : Fr C w' := by
  have h0 := J.rel.fr
  have hN0 := J.N0
  have hs := J.sz
  have h := J.fr
  refine ⟨h.os.trans h0.os, h.tape.trans h0.tape, h.output.trans h0.output, by omega, fun i hi hn => ?_, fun x hx hn => ?_⟩
  · rw [← h0.block i hi hn]
    refine h.block i (by show i < w.heap.size; omega) fun o ho => ?_
    rcases ho.1 with h1 | h1
    · have h1 : C.N0 ≤ i := h1
      omega
    · exact hn o h1
  · have h1 := h.cell x (by show x.block < w.heap.size; omega) (fun ho => by
      rcases ho.1 with h1 | h1
      · omega
      · exact hn h1)
    have h2 := h0.cell x hx hn
    exact ⟨h1.1.trans h2.1, h1.2.trans h2.2⟩
end JH
end
end Go.Ev

namespace Go.Ev
def posOf {α : Type} : List (Nat × α) → Nat → Nat
  | [], _ => 0
  | p :: l, j => bif p.1 == j then 0 else posOf l j + 1
def nid (d k : Nat) : Nat := 20000 + d * 32 + k
def tAof (q : Sp) (R : Ren) (d j : Nat) : Option Nat := match look q.arr j with
  | none => none
  | some _ => bif Nat.ble 64000 j then (match look R.a j with | some o => o | none => none) else some (nid d (posOf q.arr j))
def tBof (q : Sp) (R : Ren) (d b : Nat) : Option (Nat × Nat) := match look R.b b with
  | some cd => some cd
  | none => match look q.box b with
    | some _ => some (nid d (posOf q.box b), 0)
    | none => none
def movedA : List (Nat × Option Nat) → List Nat
  | [] => []
  | p :: l => match p.2 with
    | some i => bif Nat.ble 64000 p.1 then movedA l else i :: movedA l
    | none => movedA l
def findA (tA : Nat → Option Nat) : List (Nat × K × Bool) → Nat → Option Nat
  | [], _ => none
  | p :: l, i => match tA p.1 with
    | some i' => bif i' == i then some p.1 else findA tA l i
    | none => findA tA l i
def sAof (q : Sp) (R : Ren) (d i : Nat) : Option (Option Nat) := match findA (tAof q R d) q.arr i with
  | some j => some (some j)
  | none => bif (movedA R.a).contains i then some none else none
def findB (q : Sp) (R : Ren) (d : Nat) : List (Nat × List BS) → Nat → Option Nat
  | [], _ => none
  | p :: l, c => match look R.b p.1 with
    | some _ => findB q R d l c
    | none => bif nid d (posOf q.box p.1) == c then some p.1 else findB q R d l c
def sBof (q : Sp) (R : Ren) (d c : Nat) : Option Nat := findB q R d q.box c
def setArrs (tA : Nat → Option Nat) : (l : List (Nat × K × Bool)) → AArgs l → Tr Arr → Tr Arr
  | [], _, t => t
  | p :: l, x, t => match tA p.1 with
    | some i => (setArrs tA l x.2 t).set i (some ⟨p.2.1, x.1, p.2.2⟩)
    | none => setArrs tA l x.2 t
def rmArrs : List Nat → Tr Arr → Tr Arr
  | [], t => t
  | i :: l, t => (rmArrs l t).set i none
def setBoxs (q : Sp) (R : Ren) (d : Nat) (rn : Leaf → Leaf) : (l : List (Nat × List BS)) → BsArgs l → Tr (List Leaf) → Tr (List Leaf)
  | [], _, t => t
  | p :: l, x, t => match look R.b p.1 with
    | some (c, o) => match (setBoxs q R d rn l x.2 t).get c with
      | some ls => (setBoxs q R d rn l x.2 t).set c (some (splice ls o ((mkBox p.2 x.1).map rn)))
      | none => setBoxs q R d rn l x.2 t
    | none => (setBoxs q R d rn l x.2 t).set (nid d (posOf q.box p.1)) (some ((mkBox p.2 x.1).map rn))
def killT {α β : Type} (ids : List Nat) (f : α → α) (t : Tr α) : Tr α := bif ids.isEmpty then t else t.map fun s => some (f s)
def appN (q : Sp) (R : Ren) (d : Nat) (st : St) (y : q.T) : St :=
  { n := st.n, env := killT (β := Unit) (movedA R.a) (Slot.killL (movedA R.a)) st.env
    box := setBoxs q R d (Leaf.ren (tAof q R d) (tBof q R d)) q.box y.2.1 (killT (β := Unit) (movedA R.a) (fun ls => ls.map (Leaf.killL (movedA R.a))) st.box)
    arr := setArrs (tAof q R d) q.arr y.2.2 (rmArrs (movedA R.a) st.arr) }
def tupN : List Slot → Slot
  | [s] => s
  | ss => .tp (ss.map fun s => (s.isAg, s.leafs))
def freshA (d : Nat) (q : Sp) (st : St) : List (Nat × K × Bool) → Bool
  | [] => true
  | p :: l => (Nat.ble 64000 p.1 || (match st.arr.get (nid d (posOf q.arr p.1)) with | none => true | some _ => false)) && freshA d q st l
def freshB (d : Nat) (q : Sp) (R : Ren) (st : St) : List (Nat × List BS) → Bool
  | [] => true
  | p :: l => (match look R.b p.1 with
    | some _ => true
    | none => match st.box.get (nid d (posOf q.box p.1)) with | none => true | some _ => false) && freshB d q R st l
def okCall (q : Sp) (R : Ren) (d : Nat) (st : St) : Bool := Nat.blt d 1200 && (freshA d q st q.arr && freshB d q R st q.box)
def ES.res : ES → Bool
  | .rp _ => false
  | _ => true
def okPQ (p q : Sp) : Bool :=
  ((p.ok && q.ok) && (p.box.all (fun r => Nat.ble 60000 r.1 && Nat.blt r.1 60016) && p.box.all (fun r => match look q.box r.1 with | some bs => bsz bs == bsz r.2 | none => false))) &&
  ((p.arr.all (fun r => Nat.blt r.1 64000 || q.arr.any fun s => s.1 == r.1) && q.arr.all (fun r => Nat.blt r.1 64000 || p.arr.any fun s => s.1 == r.1)) &&
    ((q.box.all (fun r => !r.2.isEmpty) && q.env.all (fun r => r.2.res)) && (Nat.ble q.arr.length 32 && Nat.ble q.box.length 32)))
def sumN (p q : Sp) (F : p.T → Option q.T) : Sum := fun st args d S k =>
  let R := disR ⟨[], []⟩ p st args
  let s1 := preM q.flat p R st args
  match mat q.flat p R s1.1 s1.2 with
  | some x => bif okCall q R d s1.1 then (F x).bind fun y => k (appN q R d s1.1 y) (tupN ((mkSl q.env y.1).map (Slot.map (Leaf.ren (tAof q R d) (tBof q R d))))) else none
  | none => none
section
variable {P : Program} {C : Cx} {G G' : Gh} {st : St} {a : Act} {w w' : World} {R : Ren} {p q : Sp} {fl : Bool} {d : Nat}
theorem posOf_lt {α : Type} : ∀ {l : List (Nat × α)} {j : Nat} {v : α}, look l j = some v → posOf l j < l.length
  | [], _, _, h => by cases h
  | p :: l, j, v, h => by
    simp only [look] at h
    simp only [posOf]
    cases hp : (p.1 == j)
    · rw [hp] at h
      have := posOf_lt (l := l) (j := j) (v := v) h
      simp only [cond_false, List.length_cons]; omega
    · simp
theorem posOf_inj {α : Type} : ∀ {l : List (Nat × α)} {j j' : Nat} {v v' : α}, look l j = some v → look l j' = some v' → posOf l j = posOf l j' → j = j'
  | [], _, _, _, _, h, _, _ => by cases h
  | p :: l, j, j', v, v', h, h', e => by
    simp only [look] at h h'
    simp only [posOf] at e
    cases hp : (p.1 == j) <;> cases hp' : (p.1 == j') <;> rw [hp, hp'] at e <;> rw [hp] at h <;> rw [hp'] at h'
    · exact posOf_inj (l := l) (v := v) (v' := v') h h' (by simpa using e)
    · simp at e
    · simp at e
    · have h1 : p.1 = j := by simpa using hp
      have h2 : p.1 = j' := by simpa using hp'
      rw [← h1, ← h2]
theorem mkBox_length : ∀ {l : List BS} {x : BArgs l}, (mkBox l x).length = bsz l
  | [], _ => rfl
  | .val k :: l, x => by simp [mkBox, bsz, BS.sz, K.lv_length, mkBox_length]
  | .fix f :: l, x => by simp [mkBox, bsz, BS.sz, mkBox_length (l := l), Nat.add_comm]
theorem killT_get {α : Type} {ids : List Nat} {f : α → α} (hf : ids = [] → ∀ x, f x = x) {t : Tr α} {i : Nat} : (killT (β := Unit) ids f t).get i = (t.get i).map f := by
  unfold killT
  cases h : ids.isEmpty
  · simp only [cond_false, Tr.get_map]; cases t.get i <;> rfl
  · have : ids = [] := List.isEmpty_iff.1 h
    simp only [cond_true]
    cases hh : t.get i with
    | none => rfl
    | some x => simp [hf this x]
theorem movedA_mem : ∀ {l : List (Nat × Option Nat)} {i : Nat}, (movedA l).contains i = true ↔ ∃ j, (j, some i) ∈ l ∧ j < 64000
  | [], i => by simp [movedA]
  | p :: l, i => by
    have ih := movedA_mem (l := l) (i := i)
    obtain ⟨j0, o⟩ := p
    cases o with
    | none =>
      simp only [movedA]
      rw [ih]
      constructor
      · rintro ⟨j, h1, h2⟩; exact ⟨j, List.mem_cons_of_mem _ h1, h2⟩
      · rintro ⟨j, h1, h2⟩
        rcases List.mem_cons.1 h1 with h1 | h1
        · cases h1
        · exact ⟨j, h1, h2⟩
    | some i0 =>
      simp only [movedA]
      cases hb : Nat.ble 64000 j0
      · have hlt : j0 < 64000 := by
          rcases Nat.lt_or_ge j0 64000 with h | h
          · exact h
          · rw [Nat.ble_eq_true_of_le h] at hb; cases hb
        simp only [cond_false, List.contains_cons, Bool.or_eq_true, beq_iff_eq]
        rw [ih]
        constructor
        · rintro (rfl | ⟨j, h1, h2⟩)
          · exact ⟨j0, List.mem_cons_self .., hlt⟩
          · exact ⟨j, List.mem_cons_of_mem _ h1, h2⟩
        · rintro ⟨j, h1, h2⟩
          rcases List.mem_cons.1 h1 with h1 | h1
          · injection h1 with h1 h3; injection h3 with h3; exact .inl h3
          · exact .inr ⟨j, h1, h2⟩
      · have hge := Nat.le_of_ble_eq_true hb
        simp only [cond_true]
        rw [ih]
        constructor
        · rintro ⟨j, h1, h2⟩; exact ⟨j, List.mem_cons_of_mem _ h1, h2⟩
        · rintro ⟨j, h1, h2⟩
          rcases List.mem_cons.1 h1 with h1 | h1
          · injection h1 with h1 h3; omega
          · exact ⟨j, h1, h2⟩
theorem rmArrs_get : ∀ {ids : List Nat} {t : Tr Arr} {i : Nat}, (∀ i ∈ ids, i < 65000) → (rmArrs ids t).get i = if ids.contains i then none else t.get i
  | [], t, i, _ => by simp [rmArrs]
  | k :: l, t, i, h => by
    simp only [rmArrs]
    have hk := h k (by simp)
    have ih := rmArrs_get (ids := l) (t := t) (i := i) fun i hi => h i (by simp [hi])
    by_cases e : i = k
    · subst e; rw [Tr.get_set_same _ _ hk]; simp
    · rw [Tr.get_set_ne _ _ e, ih]
      simp [e]
theorem setArrs_get {tA : Nat → Option Nat} (hlt : ∀ j i, tA j = some i → i < 65000) : ∀ {l : List (Nat × K × Bool)} {x : AArgs l} {t : Tr Arr} {i : Nat}, l.all (fun q => Nat.blt q.1 65000) = true → ndK l = true →
    (setArrs tA l x t).get i = match findA tA l i with
      | some j => (mkArrs l x).get j
      | none => t.get i
  | [], x, t, i, _, _ => rfl
  | p :: l, x, t, i, hl, hn => by
    simp only [List.all_cons, Bool.and_eq_true] at hl
    simp only [ndK, Bool.and_eq_true, Bool.not_eq_true', List.any_eq_false] at hn
    have ih := setArrs_get hlt (l := l) (x := x.2) (t := t) (i := i) hl.2 hn.2
    have hfm : ∀ {l : List (Nat × K × Bool)} {j : Nat}, findA tA l i = some j → ∃ e, (j, e) ∈ l := by
      intro l
      induction l with
      | nil => intro j h; cases h
      | cons r l ih =>
        intro j h
        simp only [findA] at h
        split at h
        · rename_i i' _
          cases hi : (i' == i)
          · rw [hi] at h; obtain ⟨e, he⟩ := ih h; exact ⟨e, List.mem_cons_of_mem _ he⟩
          · rw [hi] at h; cases h; exact ⟨r.2, List.mem_cons_self ..⟩
        · obtain ⟨e, he⟩ := ih h; exact ⟨e, List.mem_cons_of_mem _ he⟩
    have htail : ∀ {j}, findA tA l i = some j → (mkArrs (p :: l) x).get j = (mkArrs l x.2).get j := fun {j} h => by
      obtain ⟨e, he⟩ := hfm h
      simp only [mkArrs]
      exact Tr.get_set_ne _ _ (fun hc => absurd (hn.1 _ he) (by simp [hc]))
    simp only [setArrs, findA]
    cases ht : tA p.1 with
    | none =>
      simp only
      rw [ih]
      cases hf : findA tA l i with
      | none => rfl
      | some j => simp only; rw [htail hf]
    | some i' =>
      simp only
      cases hi : (i' == i)
      · have hne : i ≠ i' := fun hc => by rw [hc] at hi; simp at hi
        rw [Tr.get_set_ne _ _ hne, ih]
        simp only [cond_false]
        cases hf : findA tA l i with
        | none => rfl
        | some j => simp only; rw [htail hf]
      · have : i' = i := by simpa using hi
        subst this
        rw [Tr.get_set_same _ _ (hlt _ _ ht)]
        simp only [cond_true, mkArrs]
        rw [Tr.get_set_same _ _ (Nat.le_of_ble_eq_true hl.1)]
theorem findA_some {tA : Nat → Option Nat} {i j : Nat} : ∀ {l : List (Nat × K × Bool)}, findA tA l i = some j → tA j = some i ∧ ∃ e, (j, e) ∈ l
  | [], h => by cases h
  | p :: l, h => by
    simp only [findA] at h
    split at h
    · rename_i i' ht
      cases hi : (i' == i)
      · rw [hi] at h
        obtain ⟨h1, e, h2⟩ := findA_some (l := l) h
        exact ⟨h1, e, List.mem_cons_of_mem _ h2⟩
      · rw [hi] at h; cases h
        have : i' = i := by simpa using hi
        subst this
        exact ⟨ht, p.2, List.mem_cons_self ..⟩
    · obtain ⟨h1, e, h2⟩ := findA_some (l := l) h
      exact ⟨h1, e, List.mem_cons_of_mem _ h2⟩
theorem findA_none {tA : Nat → Option Nat} {i : Nat} : ∀ {l : List (Nat × K × Bool)}, findA tA l i = none → ∀ q ∈ l, tA q.1 ≠ some i
  | [], _, q, hq => by simp at hq
  | p :: l, h, q, hq => by
    simp only [findA] at h
    split at h
    · rename_i i' ht
      cases hi : (i' == i)
      · rw [hi] at h
        rcases List.mem_cons.1 hq with rfl | hq
        · rw [ht]; intro hc; cases hc; simp at hi
        · exact findA_none h q hq
      · rw [hi] at h; cases h
    · rename_i ht
      rcases List.mem_cons.1 hq with rfl | hq
      · rw [ht]; exact fun hc => by cases hc
      · exact findA_none h q hq
theorem findB_some {c b : Nat} : ∀ {l : List (Nat × List BS)}, findB q R d l c = some b → look R.b b = none ∧ nid d (posOf q.box b) = c ∧ ∃ e, (b, e) ∈ l
  | [], h => by cases h
  | p :: l, h => by
    simp only [findB] at h
    split at h
    · obtain ⟨h1, h2, e, h3⟩ := findB_some (l := l) h
      exact ⟨h1, h2, e, List.mem_cons_of_mem _ h3⟩
    · rename_i hl
      cases hi : (nid d (posOf q.box p.1) == c)
      · rw [hi] at h
        obtain ⟨h1, h2, e, h3⟩ := findB_some (l := l) h
        exact ⟨h1, h2, e, List.mem_cons_of_mem _ h3⟩
      · rw [hi] at h; cases h
        exact ⟨hl, by simpa using hi, p.2, List.mem_cons_self ..⟩
theorem findB_none {c : Nat} : ∀ {l : List (Nat × List BS)}, findB q R d l c = none → ∀ r ∈ l, look R.b r.1 = none → nid d (posOf q.box r.1) ≠ c
  | [], _, r, hr, _ => by simp at hr
  | p :: l, h, r, hr, hn => by
    simp only [findB] at h
    split at h
    · rename_i cd hl
      rcases List.mem_cons.1 hr with rfl | hr
      · rw [hl] at hn; cases hn
      · exact findB_none h r hr hn
    · rename_i hl
      cases hi : (nid d (posOf q.box p.1) == c)
      · rw [hi] at h
        rcases List.mem_cons.1 hr with rfl | hr
        · intro hc; rw [hc] at hi; simp at hi
        · exact findB_none h r hr hn
      · rw [hi] at h; cases h
theorem setBoxs_get {rn : Leaf → Leaf} {t : Tr (List Leaf)} (hnew : ∀ b, look R.b b = none → nid d (posOf q.box b) < 65000)
    (hinj : ∀ b b' e e', look q.box b = some e → look q.box b' = some e' → look R.b b = none → look R.b b' = none → nid d (posOf q.box b) = nid d (posOf q.box b') → b = b')
    (hlt : ∀ b c o, look R.b b = some (c, o) → c < 65000) (hap : ∀ b e b' c o, look q.box b = some e → look R.b b = none → look R.b b' = some (c, o) → c ≠ nid d (posOf q.box b)) :
    ∀ {l : List (Nat × List BS)} {x : BsArgs l}, l.all (fun q => Nat.blt q.1 65000) = true → ndK l = true → (∀ r ∈ l, look q.box r.1 = some r.2) →
      (∀ r ∈ l, ∀ c o ls0, look R.b r.1 = some (c, o) → t.get c = some ls0 → o + bsz r.2 ≤ ls0.length) →
      (∀ c, t.get c = none → (∀ r ∈ l, look R.b r.1 = none → nid d (posOf q.box r.1) ≠ c) → (setBoxs q R d rn l x t).get c = none) ∧
      (∀ r ∈ l, look R.b r.1 = none → ∃ ls, (mkBoxs l x).get r.1 = some ls ∧ (setBoxs q R d rn l x t).get (nid d (posOf q.box r.1)) = some (ls.map rn)) ∧
      (∀ c ls0, t.get c = some ls0 → (∀ r ∈ l, look R.b r.1 = none → nid d (posOf q.box r.1) ≠ c) → ∃ lsN, (setBoxs q R d rn l x t).get c = some lsN ∧ lsN.length = ls0.length ∧ ∀ k, k < ls0.length →
        (∃ b o bs lsb, look l b = some bs ∧ look R.b b = some (c, o) ∧ (mkBoxs l x).get b = some lsb ∧ o ≤ k ∧ k < o + bsz bs ∧ lsN[k]? = (lsb[k - o]?).map rn) ∨
        ((∀ b o bs, look l b = some bs → look R.b b = some (c, o) → k < o ∨ o + bsz bs ≤ k) ∧ lsN[k]? = ls0[k]?))
  | [], x, _, _, _, _ => ⟨fun c h _ => h, fun r hr => by simp at hr, fun c ls0 h _ => ⟨ls0, h, rfl, fun k hk => .inr ⟨fun b o bs hb => (by cases hb), rfl⟩⟩⟩
  | p :: l, x, hl, hn, hq, hfit => by
    simp only [List.all_cons, Bool.and_eq_true] at hl
    simp only [ndK, Bool.and_eq_true, Bool.not_eq_true', List.any_eq_false] at hn
    obtain ⟨i1, i2, i3⟩ := setBoxs_get (rn := rn) (t := t) hnew hinj hlt hap (l := l) (x := x.2) hl.2 hn.2 (fun r hr => hq r (by simp [hr])) (fun r hr => hfit r (by simp [hr]))
    have hpq := hq p (by simp)
    have hhead : (mkBoxs (p :: l) x).get p.1 = some (mkBox p.2 x.1) := by simp only [mkBoxs]; exact Tr.get_set_same _ _ (Nat.le_of_ble_eq_true hl.1)
    have htail : ∀ {b}, b ≠ p.1 → (mkBoxs (p :: l) x).get b = (mkBoxs l x.2).get b := fun {b} h => by simp only [mkBoxs]; exact Tr.get_set_ne _ _ h
    have hnk : ∀ r ∈ l, r.1 ≠ p.1 := fun r hr hc => absurd (hn.1 r hr) (by simp [hc])
    have hnk' : ∀ {b bs}, look l b = some bs → b ≠ p.1 := fun {b bs} h => hnk _ (look_mem h)
    have hlk : ∀ {b bs}, look l b = some bs → look (p :: l) b = some bs := fun {b bs} h => by
      simp only [look]; rw [beq_eq_false_iff_ne.2 (Ne.symm (hnk' h))]; exact h
    have hlk' : ∀ {b bs}, look (p :: l) b = some bs → (b = p.1 ∧ bs = p.2) ∨ look l b = some bs := fun {b bs} h => by
      simp only [look] at h
      cases hp : (p.1 == b)
      · rw [hp] at h; exact .inr h
      · rw [hp] at h; cases h; exact .inl ⟨(by simpa using hp : p.1 = b).symm, rfl⟩
    cases hR : look R.b p.1 with
    | some co =>
      obtain ⟨c0, o0⟩ := co
      have hc0 := hlt _ _ _ hR
      have hne0 : ∀ r ∈ l, look R.b r.1 = none → nid d (posOf q.box r.1) ≠ c0 := fun r hr hrn => Ne.symm (hap r.1 r.2 p.1 c0 o0 (hq r (by simp [hr])) hrn hR)
      cases hg : (setBoxs q R d rn l x.2 t).get c0 with
      | none =>
        have hset : setBoxs q R d rn (p :: l) x t = setBoxs q R d rn l x.2 t := by simp only [setBoxs, hR, hg]
        rw [hset]
        refine ⟨fun c h1 h2 => i1 c h1 fun r hr => h2 r (by simp [hr]), fun r hr hrn => ?_, fun c ls0 h1 h2 => ?_⟩
        · rcases List.mem_cons.1 hr with rfl | hr
          · rw [hR] at hrn; cases hrn
          · rw [htail (hnk r hr)]; exact i2 r hr hrn
        · obtain ⟨lsN, e1, e2, e3⟩ := i3 c ls0 h1 fun r hr => h2 r (by simp [hr])
          refine ⟨lsN, e1, e2, fun k hk => ?_⟩
          rcases e3 k hk with ⟨b, o, bs, lsb, f1, f2, f3, f4⟩ | ⟨f1, f2⟩
          · exact .inl ⟨b, o, bs, lsb, hlk f1, f2, by rw [htail (hnk' f1)]; exact f3, f4⟩
          · refine .inr ⟨fun b o bs hb hRb => ?_, f2⟩
            rcases hlk' hb with ⟨rfl, rfl⟩ | hb
            · rw [hR] at hRb; cases hRb
              rw [hg] at e1; cases e1
            · exact f1 b o bs hb hRb
      | some ls1 =>
        have hset : setBoxs q R d rn (p :: l) x t = (setBoxs q R d rn l x.2 t).set c0 (some (splice ls1 o0 ((mkBox p.2 x.1).map rn))) := by simp only [setBoxs, hR, hg]
        rw [hset]
        refine ⟨fun c h1 h2 => ?_, fun r hr hrn => ?_, fun c ls0 h1 h2 => ?_⟩
        · have := i1 c h1 fun r hr => h2 r (by simp [hr])
          by_cases e : c = c0
          · subst e; rw [hg] at this; cases this
          · rw [Tr.get_set_ne _ _ e]; exact this
        · rcases List.mem_cons.1 hr with rfl | hr
          · rw [hR] at hrn; cases hrn
          · rw [htail (hnk r hr), Tr.get_set_ne _ _ (hne0 r hr hrn)]; exact i2 r hr hrn
        · obtain ⟨lsN, e1, e2, e3⟩ := i3 c ls0 h1 fun r hr => h2 r (by simp [hr])
          by_cases e : c = c0
          · subst e
            rw [hg] at e1; cases e1
            have hf := hfit p (by simp) c o0 ls0 hR h1
            have hml : ((mkBox p.2 x.1).map rn).length = bsz p.2 := by rw [List.length_map, mkBox_length]
            refine ⟨_, Tr.get_set_same _ _ hc0, by simp only [splice, List.length_append, List.length_take, List.length_drop, hml]; omega, fun k hk => ?_⟩
            by_cases hin : o0 ≤ k ∧ k < o0 + bsz p.2
            · refine .inl ⟨p.1, o0, p.2, _, by simp [look], hR, hhead, hin.1, hin.2, ?_⟩
              simp only [splice]
              rw [List.getElem?_append_right (by simp; omega), List.getElem?_append_left (by rw [hml]; simp; omega), List.length_take, Nat.min_eq_left (by omega), List.getElem?_map]
            · have hsame : (splice ls1 o0 ((mkBox p.2 x.1).map rn))[k]? = ls1[k]? := by
                simp only [splice]
                by_cases hlo : k < o0
                · rw [List.getElem?_append_left (by simp; omega), List.getElem?_take, if_pos hlo]
                · rw [List.getElem?_append_right (by simp; omega), List.getElem?_append_right (by rw [hml]; simp; omega), List.getElem?_drop, hml, List.length_take]
                  congr 1; omega
              rw [hsame]
              rcases e3 k hk with ⟨b, o, bs, lsb, f1, f2, f3, f4⟩ | ⟨f1, f2⟩
              · exact .inl ⟨b, o, bs, lsb, hlk f1, f2, by rw [htail (hnk' f1)]; exact f3, f4⟩
              · refine .inr ⟨fun b o bs hb hRb => ?_, f2⟩
                rcases hlk' hb with ⟨rfl, rfl⟩ | hb
                · rw [hR] at hRb; cases hRb; omega
                · exact f1 b o bs hb hRb
          · refine ⟨lsN, by rw [Tr.get_set_ne _ _ e]; exact e1, e2, fun k hk => ?_⟩
            rcases e3 k hk with ⟨b, o, bs, lsb, f1, f2, f3, f4⟩ | ⟨f1, f2⟩
            · exact .inl ⟨b, o, bs, lsb, hlk f1, f2, by rw [htail (hnk' f1)]; exact f3, f4⟩
            · refine .inr ⟨fun b o bs hb hRb => ?_, f2⟩
              rcases hlk' hb with ⟨rfl, rfl⟩ | hb
              · rw [hR] at hRb; cases hRb; exact absurd rfl e
              · exact f1 b o bs hb hRb
    | none =>
      have hset : setBoxs q R d rn (p :: l) x t = (setBoxs q R d rn l x.2 t).set (nid d (posOf q.box p.1)) (some ((mkBox p.2 x.1).map rn)) := by simp only [setBoxs, hR]
      rw [hset]
      refine ⟨fun c h1 h2 => ?_, fun r hr hrn => ?_, fun c ls0 h1 h2 => ?_⟩
      · rw [Tr.get_set_ne _ _ (Ne.symm (h2 p (by simp) hR))]
        exact i1 c h1 fun r hr => h2 r (by simp [hr])
      · rcases List.mem_cons.1 hr with rfl | hr
        · exact ⟨_, hhead, Tr.get_set_same _ _ (hnew _ hR)⟩
        · have hne : nid d (posOf q.box r.1) ≠ nid d (posOf q.box p.1) := fun hc => hnk r hr (hinj r.1 p.1 r.2 p.2 (hq r (by simp [hr])) hpq hrn hR hc)
          rw [htail (hnk r hr), Tr.get_set_ne _ _ hne]; exact i2 r hr hrn
      · obtain ⟨lsN, e1, e2, e3⟩ := i3 c ls0 h1 fun r hr => h2 r (by simp [hr])
        refine ⟨lsN, by rw [Tr.get_set_ne _ _ (Ne.symm (h2 p (by simp) hR))]; exact e1, e2, fun k hk => ?_⟩
        rcases e3 k hk with ⟨b, o, bs, lsb, f1, f2, f3, f4⟩ | ⟨f1, f2⟩
        · exact .inl ⟨b, o, bs, lsb, hlk f1, f2, by rw [htail (hnk' f1)]; exact f3, f4⟩
        · refine .inr ⟨fun b o bs hb hRb => ?_, f2⟩
          rcases hlk' hb with ⟨rfl, rfl⟩ | hb
          · rw [hR] at hRb; cases hRb
          · exact f1 b o bs hb hRb
end
end Go.Ev

namespace Go.Ev
section
variable {P : Program} {C : Cx} {G G' : Gh} {st : St} {a : Act} {w w' : World} {R : Ren} {p q : Sp} {fl : Bool} {d : Nat}
theorem lv_noSl : ∀ {k : K} {x : k.T}, k.flat = true → ∀ l ∈ k.lv x, ∀ e y z, l ≠ .sl e y z
  | .int _, x, _, l, hl, e, y, z => by simp [K.lv] at hl; subst hl; exact fun h => by cases h
  | .bool, x, _, l, hl, e, y, z => by simp [K.lv] at hl; subst hl; exact fun h => by cases h
  | .str, x, _, l, hl, e, y, z => by simp [K.lv] at hl; subst hl; exact fun h => by cases h
  | .sl _, x, h, _, _, _, _, _ => by simp [K.flat] at h
  | .pr p q, x, h, l, hl, e, y, z => by
    simp only [K.flat, Bool.and_eq_true] at h
    simp only [K.lv, List.mem_append] at hl
    rcases hl with hl | hl
    · exact lv_noSl h.1 l hl e y z
    · exact lv_noSl h.2 l hl e y z
theorem inP_noSl {l : Leaf} (h : l.inP q = true) : ∀ e y z, l ≠ .sl e y z := fun e y z hc => by subst hc; simp [Leaf.inP] at h
theorem mkBox_noSl : ∀ {l : List BS} {x : BArgs l}, l.all BS.flat = true → (l.all fun b => b.inP q) = true → ∀ y ∈ mkBox l x, ∀ e u z, y ≠ .sl e u z
  | [], _, _, _, y, hy, _, _, _ => by simp [mkBox] at hy
  | .val k :: l, x, h, h2, y, hy, e, u, z => by
    simp only [List.all_cons, Bool.and_eq_true] at h h2
    simp only [mkBox, List.mem_append] at hy
    rcases hy with hy | hy
    · exact lv_noSl h.1 y hy e u z
    · exact mkBox_noSl h.2 h2.2 y hy e u z
  | .fix f :: l, x, h, h2, y, hy, e, u, z => by
    simp only [List.all_cons, Bool.and_eq_true] at h h2
    simp only [mkBox, List.mem_cons] at hy
    rcases hy with rfl | hy
    · exact inP_noSl (show y.inP q = true from h2.1) e u z
    · exact mkBox_noSl (l := l) h.2 h2.2 y hy e u z
theorem mkArrs_mem : ∀ {l : List (Nat × K × Bool)} {x : AArgs l} {j : Nat} {r : Arr}, l.all (fun q => Nat.blt q.1 65000) = true → (mkArrs l x).get j = some r → ∃ e, (j, e) ∈ l ∧ r.e = e.1 ∧ r.deep = e.2
  | [], x, j, r, _, e => by simp [mkArrs, Tr.get] at e
  | p :: l, x, j, r, hl, e => by
    simp only [List.all_cons, Bool.and_eq_true] at hl
    simp only [mkArrs] at e
    by_cases et : j = p.1
    · subst et
      rw [Tr.get_set_same _ _ (Nat.le_of_ble_eq_true hl.1)] at e; cases e
      exact ⟨p.2, List.mem_cons_self .., rfl, rfl⟩
    · rw [Tr.get_set_ne _ _ et] at e
      obtain ⟨e', h1, h2⟩ := mkArrs_mem hl.2 e
      exact ⟨e', List.mem_cons_of_mem _ h1, h2⟩
theorem mkBoxs_mem : ∀ {l : List (Nat × List BS)} {x : BsArgs l} {j : Nat} {ls : List Leaf}, l.all (fun q => Nat.blt q.1 65000) = true → (mkBoxs l x).get j = some ls → ∃ bs y, look l j = some bs ∧ ls = mkBox bs y
  | [], x, j, r, _, e => by simp [mkBoxs, Tr.get] at e
  | p :: l, x, j, r, hl, e => by
    simp only [List.all_cons, Bool.and_eq_true] at hl
    simp only [mkBoxs] at e
    by_cases et : j = p.1
    · subst et
      rw [Tr.get_set_same _ _ (Nat.le_of_ble_eq_true hl.1)] at e; cases e
      exact ⟨p.2, x.1, by simp [look], rfl⟩
    · rw [Tr.get_set_ne _ _ et] at e
      obtain ⟨bs, y, h1, h2⟩ := mkBoxs_mem hl.2 e
      refine ⟨bs, y, ?_, h2⟩
      simp only [look]; rw [beq_eq_false_iff_ne.2 (Ne.symm et)]; exact h1
theorem freshA_spec {q0 : Sp} : ∀ {l : List (Nat × K × Bool)}, freshA d q0 st l = true → ∀ r ∈ l, r.1 < 64000 → st.arr.get (nid d (posOf q0.arr r.1)) = none
  | [], _, r, hr, _ => by simp at hr
  | p :: l, h, r, hr, hlt => by
    simp only [freshA, Bool.and_eq_true, Bool.or_eq_true] at h
    rcases List.mem_cons.1 hr with rfl | hr
    · rcases h.1 with h1 | h1
      · have := Nat.le_of_ble_eq_true h1; omega
      · split at h1
        · rename_i h2; exact h2
        · cases h1
    · exact freshA_spec h.2 r hr hlt
theorem freshB_spec {q0 : Sp} : ∀ {l : List (Nat × List BS)}, freshB d q0 R st l = true → ∀ r ∈ l, look R.b r.1 = none → st.box.get (nid d (posOf q0.box r.1)) = none
  | [], _, r, hr, _ => by simp at hr
  | p :: l, h, r, hr, hn => by
    simp only [freshB, Bool.and_eq_true] at h
    rcases List.mem_cons.1 hr with rfl | hr
    · have h1 := h.1
      rw [hn] at h1
      simp only at h1
      split at h1
      · rename_i h2; exact h2
      · cases h1
    · exact freshB_spec h.2 r hr hn
theorem killL_nil (l : Leaf) : l.killL [] = l := by cases l <;> rfl
theorem slot_killL_nil (s : Slot) : s.killL [] = s := by
  have hm : ∀ ls : List Leaf, ls.map (Leaf.killL []) = ls := fun ls => by
    induction ls with
    | nil => rfl
    | cons l ls ih => rw [List.map_cons, killL_nil, ih]
  cases s with
  | lf l => show Slot.lf (l.killL []) = .lf l; rw [killL_nil]
  | ag ls => show Slot.ag (ls.map (Leaf.killL [])) = .ag ls; rw [hm]
  | tp vs =>
    show Slot.tp (vs.map fun v => (v.1, v.2.map (Leaf.killL []))) = .tp vs
    congr 1
    induction vs with
    | nil => rfl
    | cons v vs ih => rw [List.map_cons, ih, hm]
  | ep i k o => rfl
  | rp ls => show Slot.rp (ls.map (Leaf.killL [])) = .rp ls; rw [hm]
  | dead => rfl
theorem tupN_rep {ok : Nat → Prop} : ∀ {ss : List Slot} {vs : List Value}, (∀ s ∈ ss, ∃ ls, s = .ag ls ∨ ∃ l, s = .lf l) → RepSlots w ok G ss vs → RepSlot w ok G (tupN ss) (tupV vs) := fun {ss vs} hk h => by
  have htup : ∀ {ss : List Slot} {vs : List Value}, (∀ s ∈ ss, ∃ ls, s = .ag ls ∨ ∃ l, s = .lf l) → RepSlots w ok G ss vs → RepTup w ok G (ss.map fun s => (s.isAg, s.leafs)) vs := by
    intro ss
    induction ss with
    | nil => intro vs _ h; cases vs with
      | nil => trivial
      | cons _ _ => exact h.elim
    | cons s ss ih =>
      intro vs hk h
      cases vs with
      | nil => exact h.elim
      | cons v vs =>
        refine ⟨?_, ih (fun s hs => hk s (by simp [hs])) h.2⟩
        obtain ⟨ls, rfl | ⟨l, rfl⟩⟩ := hk s (by simp)
        · obtain ⟨us, h1, h2⟩ := h.1
          exact ⟨us, h2, .inl ⟨rfl, h1⟩⟩
        · exact ⟨[v], ⟨h.1, trivial⟩, .inr ⟨rfl, rfl⟩⟩
  cases ss with
  | nil => cases vs with
    | nil => exact ⟨[], rfl, trivial⟩
    | cons _ _ => exact h.elim
  | cons s ss =>
    cases vs with
    | nil => exact h.elim
    | cons v vs =>
      cases ss with
      | nil => cases vs with
        | nil => exact h.1
        | cons _ _ => exact h.2.elim
      | cons s2 ss =>
        cases vs with
        | nil => exact h.2.elim
        | cons v2 vs =>
          refine ⟨v :: v2 :: vs, ?_, htup hk h⟩
          unfold tupV
          rw [dif_neg (by simp)]
theorem mkSl_kind : ∀ {l : List (Nat × ES)} {x : EArgs2 l}, (l.all fun r => r.2.res) = true → ∀ s ∈ mkSl l x, ∃ ls, s = .ag ls ∨ ∃ l, s = .lf l
  | [], _, _, s, hs => by simp [mkSl] at hs
  | (_, .val g k) :: l, x, h, s, hs => by
    simp only [List.all_cons, Bool.and_eq_true] at h
    simp only [mkSl, List.mem_cons] at hs
    rcases hs with rfl | hs
    · cases g
      · exact ⟨[], .inr ⟨_, rfl⟩⟩
      · exact ⟨_, .inl rfl⟩
    · exact mkSl_kind h.2 s hs
  | (_, .rp k) :: l, x, h, s, hs => by simp [ES.res] at h
  | (_, .mix g b) :: l, x, h, s, hs => by
    simp only [List.all_cons, Bool.and_eq_true] at h
    simp only [mkSl, List.mem_cons] at hs
    rcases hs with rfl | hs
    · cases g
      · exact ⟨[], .inr ⟨_, rfl⟩⟩
      · exact ⟨_, .inl rfl⟩
    · exact mkSl_kind h.2 s hs
  | (_, .fix f) :: l, x, h, s, hs => by
    simp only [List.all_cons, Bool.and_eq_true] at h
    simp only [mkSl, List.mem_cons] at hs
    rcases hs with rfl | hs
    · exact ⟨[], .inr ⟨_, rfl⟩⟩
    · exact mkSl_kind (l := l) h.2 s hs
theorem leaf1_noSl {ls : List Leaf} (h : ∀ y ∈ ls, ∀ e u z, y ≠ .sl e u z) : ∀ e u z, leaf1 ls ≠ .sl e u z := by
  intro e u z
  unfold leaf1
  split
  · exact h _ (by simp) e u z
  · exact fun hc => by cases hc
theorem mkSl_noSl : ∀ {l : List (Nat × ES)} {x : EArgs2 l}, (l.all fun r => r.2.flat) = true → (l.all fun r => r.2.inP q) = true → ∀ s ∈ mkSl l x, ∀ y ∈ s.leafs, ∀ e u z, y ≠ .sl e u z
  | [], _, _, _, s, hs => by simp [mkSl] at hs
  | (_, .val g k) :: l, x, h, h2, s, hs => by
    simp only [List.all_cons, Bool.and_eq_true] at h h2
    simp only [mkSl, List.mem_cons] at hs
    rcases hs with rfl | hs
    · intro y hy
      cases g
      · have : y = leaf1 (k.lv x.1) := by simpa [mkS, Slot.leafs] using hy
        subst this
        exact leaf1_noSl (lv_noSl h.1)
      · exact lv_noSl h.1 y (by simpa [mkS, Slot.leafs] using hy)
    · exact mkSl_noSl h.2 h2.2 s hs
  | (_, .rp k) :: l, x, h, h2, s, hs => by simp [ES.flat] at h
  | (_, .mix g b) :: l, x, h, h2, s, hs => by
    simp only [List.all_cons, Bool.and_eq_true] at h h2
    have h2' := h2.1
    simp only [ES.inP, Bool.and_eq_true] at h2'
    simp only [mkSl, List.mem_cons] at hs
    rcases hs with rfl | hs
    · intro y hy
      cases g
      · have : y = leaf1 (mkBox b x.1) := by simpa [Slot.leafs] using hy
        subst this
        exact leaf1_noSl (mkBox_noSl h.1 h2'.1.1)
      · exact mkBox_noSl h.1 h2'.1.1 y (by simpa [Slot.leafs] using hy)
    · exact mkSl_noSl h.2 h2.2 s hs
  | (_, .fix f) :: l, x, h, h2, s, hs => by
    simp only [List.all_cons, Bool.and_eq_true] at h h2
    simp only [mkSl, List.mem_cons] at hs
    rcases hs with rfl | hs
    · intro y hy
      have : y = f := by simpa [Slot.leafs] using hy
      subst this
      exact inP_noSl h2.1
    · exact mkSl_noSl (l := l) h.2 h2.2 s hs
theorem nid_lt {d k : Nat} (hd : d < 1200) (hk : k ≤ 32) : nid d k < 60000 := by unfold nid; omega
theorem sumN_ok {f : FuncId} {F : p.T → Option q.T} (hc : FnS P f p q F) (hpq : okPQ p q = true) : SumOk P f (sumN p q F) := by
  refine ⟨hc.1, fun {C G st a w args vals d S k r} h hd hs e => ?_⟩
  unfold okPQ at hpq
  simp only [Bool.and_eq_true] at hpq
  obtain ⟨⟨⟨p1, p2⟩, p3, p4⟩, ⟨p5, p6⟩, ⟨p7, p8⟩, p9, p10⟩ := hpq
  have hp1 := p1
  unfold Sp.ok at hp1
  simp only [Bool.and_eq_true] at hp1
  obtain ⟨⟨a1, a2⟩, ⟨a3, a4, a5⟩, a6, a7, a8⟩ := hp1
  have hp2 := p2
  unfold Sp.ok at hp2
  simp only [Bool.and_eq_true] at hp2
  obtain ⟨⟨c1, c2⟩, ⟨c3, c4, c5⟩, c6, c7, c8⟩ := hp2
  unfold sumN at e
  simp only at e
  obtain ⟨fl, hfl⟩ : ∃ fl, fl = q.flat := ⟨_, rfl⟩
  rw [← hfl] at e
  generalize disR ⟨[], []⟩ p st args = R at e
  have hpre : ∃ G1, Rel C G1 (preM fl p R st args).1 a w ∧ (preM fl p R st args).1.n = st.n ∧ RepSlots w (G1.ok C) G1 (preM fl p R st args).2 vals := by
    cases fl with
    | true => exact ⟨G, h, rfl, hs⟩
    | false => exact frz_rep h hs
  generalize preM fl p R st args = s1 at e hpre
  obtain ⟨G1, g1, g2, g3⟩ := hpre
  split at e
  · rename_i x hx
    cases hok : okCall q R d s1.1
    · rw [hok] at e; cases e
    · rw [hok] at e
      simp only [cond_true] at e
      obtain ⟨y, hF, e⟩ := Option.bind_eq_some_iff.1 e
      obtain ⟨m1, m2, m3, m4⟩ := mat_some hx
      unfold okCall at hok
      simp only [Bool.and_eq_true] at hok
      obtain ⟨o1, o2, o3⟩ := hok
      have hd12 : d < 1200 := Nat.le_of_ble_eq_true o1
      have hl9 := Nat.le_of_ble_eq_true p9
      have hl10 := Nat.le_of_ble_eq_true p10
      have hL : fl = true → Lent G1 R ((R.gh p G1).ok (C.sub G1 (R.gh p G1) p w fl)) := fun hf => by subst hf; exact sub_lent g1
      have hin : InS (C.sub G1 (R.gh p G1) p w fl) (R.gh p G1) p x vals w :=
        ⟨MemR.small g1 p1 m1 m3 m4 sub_keeps hL (sub_subC g1 m1 p3 a3), rdSl_rep g1 sub_keeps hL (fun j hj => m1.ka j _ hj) a1 g3 m2, rfl, fun b q h => h, fun j ai hj hA => by simp only [Cx.sub]; rw [if_pos hj]; exact hA⟩
      refine (hc.2 _ _ w x y vals hF hin).mono fun en w' he => ?_
      obtain ⟨vs, G', rfl, ho⟩ := he
      have hthere : ∀ i j, look R.a j = some (some i) → ∃ r, s1.1.arr.get i = some r := fun i j hj => by
        obtain ⟨e0, he0⟩ := m1.ka j _ hj
        obtain ⟨r', hr'⟩ := arrs_all (x := x.2.2) a3 he0
        obtain ⟨q', h1, h2⟩ := arrs_get a3 m4 hr'
        rcases h2 with ⟨i', r, h3, h4, _⟩ | ⟨h3, _⟩
        · rw [hj] at h3; cases h3; exact ⟨r, h4⟩
        · rw [hj] at h3; cases h3
      have hia : ∀ i j, look R.a j = some (some i) → i < 65000 := fun i j hj => by
        obtain ⟨r, hr⟩ := hthere i j hj
        obtain ⟨ai, hA, _⟩ := g1.mem.arrR i r hr
        exact g1.mem.ia i ai hA
      have htA : ∀ j i, tAof q R d j = some i → ∃ e0, look q.arr j = some e0 ∧ ((64000 ≤ j ∧ look R.a j = some (some i)) ∨ (j < 64000 ∧ i = nid d (posOf q.arr j) ∧ s1.1.arr.get i = none ∧ i < 60000)) := fun j i hj => by
        unfold tAof at hj
        split at hj
        · cases hj
        · rename_i e0 he0
          refine ⟨e0, he0, ?_⟩
          cases hb : Nat.ble 64000 j
          · rw [hb] at hj
            simp only [cond_false, Option.some.injEq] at hj
            have hlt : j < 64000 := by
              rcases Nat.lt_or_ge j 64000 with h | h
              · exact h
              · rw [Nat.ble_eq_true_of_le h] at hb; cases hb
            have hpos := posOf_lt he0
            subst hj
            exact .inr ⟨hlt, rfl, freshA_spec o2 _ (look_mem he0) hlt, nid_lt hd12 (by omega)⟩
          · rw [hb] at hj
            simp only [cond_true] at hj
            split at hj
            · rename_i o ho'
              subst hj
              exact .inl ⟨Nat.le_of_ble_eq_true hb, ho'⟩
            · cases hj
      have htAinj : ∀ j j' i, tAof q R d j = some i → tAof q R d j' = some i → j = j' := fun j j' i h1 h2 => by
        obtain ⟨e1, f1, h3⟩ := htA j i h1
        obtain ⟨e2, f2, h4⟩ := htA j' i h2
        rcases h3 with ⟨_, h3⟩ | ⟨_, h3, h5, _⟩ <;> rcases h4 with ⟨_, h4⟩ | ⟨_, h4, h6, _⟩
        · exact ndA_look m1.a h3 h4
        · obtain ⟨r, hr⟩ := hthere i j h3; rw [h6] at hr; cases hr
        · obtain ⟨r, hr⟩ := hthere i j' h4; rw [h5] at hr; cases hr
        · refine posOf_inj f1 f2 ?_
          rw [h3] at h4
          unfold nid at h4; omega
      have hltA : ∀ j i, tAof q R d j = some i → i < 65000 := fun j i hj => by
        obtain ⟨_, _, ⟨_, h2⟩ | ⟨_, _, _, h2⟩⟩ := htA j i hj
        · exact hia i j h2
        · omega
      have hfind : ∀ j i, tAof q R d j = some i → findA (tAof q R d) q.arr i = some j := fun j i hj => by
        obtain ⟨e0, he0, _⟩ := htA j i hj
        cases hf : findA (tAof q R d) q.arr i with
        | none => exact absurd hj (findA_none hf _ (look_mem he0))
        | some j' => rw [htAinj j' j i (findA_some hf).1 hj]
      have hmov : ∀ i, (movedA R.a).contains i = true → ∃ j, look R.a j = some (some i) ∧ j < 64000 := fun i hi => by
        obtain ⟨j, h1, h2⟩ := movedA_mem.1 hi
        exact ⟨j, look_nd m1.nk h1, h2⟩
      have hmovlt : ∀ i ∈ movedA R.a, i < 65000 := fun i hi => by
        obtain ⟨j, h1, _⟩ := hmov i (List.contains_iff_mem.2 hi)
        exact hia i j h1
      have harrN : ∀ i, (appN q R d s1.1 y).arr.get i = match findA (tAof q R d) q.arr i with
          | some j => (mkArrs q.arr y.2.2).get j
          | none => if (movedA R.a).contains i then none else s1.1.arr.get i := fun i => by
        have := setArrs_get (x := y.2.2) (t := rmArrs (movedA R.a) s1.1.arr) (i := i) hltA c3 c7
        rw [rmArrs_get hmovlt] at this
        exact this
      have hfit : ∀ b c o, look R.b b = some (c, o) → ∃ bs ls, look p.box b = some bs ∧ s1.1.box.get c = some ls ∧ o + bsz bs ≤ ls.length := fun b c o hb => by
        obtain ⟨bs, h1⟩ := m1.kb b _ hb
        obtain ⟨c', o', ls, h2, h3, h4, _⟩ := m1.fit b bs h1
        rw [hb] at h2; cases h2
        exact ⟨bs, ls, h1, h3, h4⟩
      have hpq4 : ∀ b bs, look p.box b = some bs → ∃ bs', look q.box b = some bs' ∧ bsz bs' = bsz bs := fun b bs hb => by
        have := List.all_eq_true.1 p4 _ (look_mem hb)
        simp only at this
        split at this
        · rename_i bs' h1; exact ⟨bs', h1, by simpa using this⟩
        · cases this
      have hfresh : ∀ b e0, look q.box b = some e0 → look R.b b = none → s1.1.box.get (nid d (posOf q.box b)) = none ∧ nid d (posOf q.box b) < 60000 := fun b e0 hb hn =>
        ⟨freshB_spec o3 _ (look_mem hb) hn, nid_lt hd12 (by have := posOf_lt hb; omega)⟩
      have hclt : ∀ b c o, look R.b b = some (c, o) → c < 65000 := fun b c o hb => by
        obtain ⟨bs, ls, _, h2, _⟩ := hfit b c o hb
        obtain ⟨blk, base, hB, _⟩ := g1.mem.boxR c ls h2
        exact g1.mem.ib c _ hB
      have hnid : ∀ b, look R.b b = none → nid d (posOf q.box b) < 65000 := fun b _ => by
        have : ∀ {l : List (Nat × List BS)}, posOf l b ≤ l.length := fun {l} => by
          induction l with
          | nil => simp [posOf]
          | cons r l ih => simp only [posOf]; cases (r.1 == b) <;> simp <;> omega
        have := nid_lt hd12 (Nat.le_trans (this (l := q.box)) hl10)
        omega
      have hap : ∀ b e0 b' c o, look q.box b = some e0 → look R.b b = none → look R.b b' = some (c, o) → c ≠ nid d (posOf q.box b) := fun b e0 b' c o h1 h2 h3 hc => by
        obtain ⟨bs, ls, _, h4, _⟩ := hfit b' c o h3
        rw [hc, (hfresh b e0 h1 h2).1] at h4; cases h4
      have hkt : ∀ c, (killT (β := Unit) (movedA R.a) (fun ls => ls.map (Leaf.killL (movedA R.a))) s1.1.box).get c = (s1.1.box.get c).map (fun ls => ls.map (Leaf.killL (movedA R.a))) := fun c => killT_get fun h ls => by
        rw [h]
        induction ls with
        | nil => rfl
        | cons l ls ih => rw [List.map_cons, killL_nil, ih]
      obtain ⟨b1, b2, b3⟩ := setBoxs_get (q := q) (R := R) (d := d) (rn := Leaf.ren (tAof q R d) (tBof q R d)) (t := killT (β := Unit) (movedA R.a) (fun ls => ls.map (Leaf.killL (movedA R.a))) s1.1.box) (x := y.2.1) hnid
        (fun b b' e0 e0' h1 h2 h3 h4 h5 => posOf_inj h1 h2 (by unfold nid at h5; omega)) hclt hap c4 c6 (fun r hr => look_nd c6 hr) (fun r hr c o ls0 h1 h2 => by
          obtain ⟨bs, ls, h3, h4, h5⟩ := hfit _ _ _ h1
          obtain ⟨bs', h6, h7⟩ := hpq4 _ _ h3
          rw [look_nd c6 hr] at h6; cases h6
          rw [hkt, h4] at h2; cases h2
          simp only [List.length_map]; omega)
      have J : JH C G1 G' s1.1 a w w' R p fl (q.hd y).box (appN q R d s1.1 y).box (q.hd y).arr (appN q R d s1.1 y).arr (sAof q R d) (sBof q R d) (tAof q R d) (tBof q R d) (movedA R.a) := by
        refine ⟨g1, m1, ho.mem, ho.fr, fun i j hs => ?_, fun i hs => ?_, fun i hs => ?_, fun i i' j h1 h2 => ?_, fun i j hj => ?_, hthere, fun hf j r0 hr => ?_, fun c b hb => ?_, fun c c' b h1 h2 => ?_, fun c hs hn => ?_, fun c ls hs hb => ?_, fun b c o hb => ?_, fun hf b ls hb l hl => ?_, fun j i hj => ?_, fun b c o hb => ?_, fun i hs => ?_⟩
        · -- a_frm
          unfold sAof at hs
          split at hs
          · rename_i j' hf
            cases hs
            obtain ⟨h1, _⟩ := findA_some hf
            obtain ⟨e0, h2, h3⟩ := htA _ _ h1
            refine ⟨hltA _ _ h1, arrs_all c3 h2, by rw [harrN, hf]; rfl, ?_⟩
            rcases h3 with h3 | ⟨h3, _, h4, h5⟩
            · exact .inr h3
            · exact .inl ⟨h3, h4, by omega⟩
          · cases h : (movedA R.a).contains i <;> rw [h] at hs <;> cases hs
        · unfold sAof at hs
          split at hs
          · cases hs
          · rename_i hf
            cases h : (movedA R.a).contains i
            · rw [h] at hs; cases hs
            · rw [harrN, hf]; simp only; rw [if_pos h]
        · unfold sAof at hs
          split at hs
          · cases hs
          · rename_i hf
            cases h : (movedA R.a).contains i
            · rw [harrN, hf]; simp only; rw [if_neg (by rw [h]; simp)]
            · rw [h] at hs; cases hs
        · have hget : ∀ {i}, sAof q R d i = some (some j) → tAof q R d j = some i := fun {i} hs => by
            unfold sAof at hs
            split at hs
            · rename_i j' hf; cases hs; exact (findA_some hf).1
            · cases h : (movedA R.a).contains i <;> rw [h] at hs <;> cases hs
          have := (hget h1).symm.trans (hget h2)
          cases this; rfl
        · -- a_pass
          obtain ⟨e0, he0⟩ := m1.ka j _ hj
          obtain ⟨r0, hr0⟩ := hthere i j hj
          by_cases hlt : j < 64000
          · left
            have hc := movedA_mem.2 ⟨j, look_mem hj, hlt⟩
            unfold sAof
            cases hf : findA (tAof q R d) q.arr i with
            | none => simp only; rw [hc]; rfl
            | some j' =>
              obtain ⟨_, _, ⟨h1, h2⟩ | ⟨_, _, h2, _⟩⟩ := htA j' i (findA_some hf).1
              · have := ndA_look m1.a hj h2; omega
              · rw [hr0] at h2; cases h2
          · right
            refine ⟨by omega, ?_⟩
            have h1 := List.all_eq_true.1 p5 _ (look_mem he0)
            simp only [Bool.or_eq_true] at h1
            rcases h1 with h1 | h1
            · have := Nat.le_of_ble_eq_true h1; omega
            · obtain ⟨e1, he1⟩ := any_look h1
              have ht : tAof q R d j = some i := by
                unfold tAof
                rw [he1]
                simp only [Nat.ble_eq_true_of_le (show 64000 ≤ j by omega), cond_true, hj]
              unfold sAof
              rw [hfind j i ht]
        · have hf' : q.flat = true := by rw [← hfl]; exact hf
          unfold Sp.flat at hf'
          simp only [Bool.and_eq_true] at hf'
          obtain ⟨e0, h1, h2, h3⟩ := mkArrs_mem c3 hr
          have := List.all_eq_true.1 hf'.2.2 _ h1
          simp only [Bool.or_eq_true] at this
          rw [h2, h3]; exact this
        · -- b_new
          obtain ⟨h1, h2, e0, h3⟩ := findB_some hb
          have h4 := look_nd c6 h3
          obtain ⟨h5, h6⟩ := hfresh b e0 h4 h1
          obtain ⟨ls, h7, h8⟩ := b2 _ h3 h1
          rw [h2] at h5 h6 h8
          refine ⟨h6, h5, h1, ls, h7, fun hc => ?_, h8⟩
          obtain ⟨bs, z, h9, h10⟩ := mkBoxs_mem c4 h7
          have h11 := List.all_eq_true.1 p7 _ (look_mem h9)
          have h12 := bsz_pos (bs := bs) (by simpa using h11)
          rw [← mkBox_length (x := z), ← h10, hc] at h12
          simp at h12
        · obtain ⟨_, h3, _⟩ := findB_some h1
          obtain ⟨_, h4, _⟩ := findB_some h2
          rw [← h3, ← h4]
        · exact b1 c (by rw [hkt, hn]; rfl) fun r hr hrn => findB_none hs r hr hrn
        · obtain ⟨lsN, h1, h2, h3⟩ := b3 c (ls.map (Leaf.killL (movedA R.a))) (by rw [hkt, hb]; rfl) fun r hr hrn => findB_none hs r hr hrn
          refine ⟨lsN, h1, by rw [h2, List.length_map], fun k hk => ?_⟩
          rcases h3 k (by rw [List.length_map]; exact hk) with ⟨b, o, bs, lsb, f1, f2, f3, f4, f5, f6⟩ | ⟨f1, f2⟩
          · obtain ⟨bsp, ls', g4, _, _⟩ := hfit _ _ _ f2
            obtain ⟨bs', g5, g6⟩ := hpq4 _ _ g4
            rw [f1] at g5; cases g5
            obtain ⟨bs2, z, h9, h10⟩ := mkBoxs_mem c4 f3
            rw [f1] at h9; cases h9
            exact .inl ⟨b, o, bsp, lsb, f2, g4, f3, by rw [h10, mkBox_length, g6], f4, by omega, f6⟩
          · refine .inr ⟨fun b o bs hRb hpb => ?_, by rw [f2, List.getElem?_map]⟩
            obtain ⟨bs', g5, g6⟩ := hpq4 _ _ hpb
            have := f1 b o bs' g5 hRb
            omega
        · -- b_pass
          cases hs : sBof q R d c with
          | none => rfl
          | some b' =>
            obtain ⟨h1, h2, e0, h3⟩ := findB_some hs
            obtain ⟨bs, ls, _, h4, _⟩ := hfit _ _ _ hb
            rw [← h2, (hfresh b' e0 (look_nd c6 h3) h1).1] at h4; cases h4
        · have hf' : q.flat = true := by rw [← hfl]; exact hf
          unfold Sp.flat at hf'
          simp only [Bool.and_eq_true] at hf'
          obtain ⟨bs, z, h9, rfl⟩ := mkBoxs_mem c4 hb
          exact mkBox_noSl (List.all_eq_true.1 hf'.2.1 _ (look_mem h9)) (List.all_eq_true.1 c2 _ (look_mem h9)) l hl
        · unfold sAof
          rw [hfind j i hj]
        · unfold tBof at hb
          split at hb
          · rename_i cd h1; cases hb; exact .inl h1
          · rename_i h1
            split at hb
            · rename_i e0 h2
              simp only [Option.some.injEq, Prod.mk.injEq] at hb
              obtain ⟨rfl, rfl⟩ := hb
              refine .inr ⟨?_, rfl⟩
              cases hs : sBof q R d (nid d (posOf q.box b)) with
              | none => exact absurd rfl (findB_none hs _ (look_mem h2) h1)
              | some b' =>
                obtain ⟨h3, h4, e1, h5⟩ := findB_some hs
                rw [posOf_inj (look_nd c6 h5) h2 (by unfold nid at h4; omega)]
            · cases hb
        · unfold sAof at hs
          split at hs
          · cases hs
          · cases h : (movedA R.a).contains i
            · rw [h] at hs; cases hs
            · rfl
      refine ⟨_, G1.join G' (sAof q R d) (sBof q R d), appN q R d s1.1 y, _, rfl, ⟨g1.size, g1.n, g1.dfr, fun t s ht => ?_, J.memN, J.frN⟩, g2, ?_, e⟩
      · have hk : (killT (β := Unit) (movedA R.a) (Slot.killL (movedA R.a)) s1.1.env).get t = some s := ht
        rw [killT_get fun h x => by rw [h]; exact slot_killL_nil x] at hk
        obtain ⟨s0, h1, rfl⟩ := Option.map_eq_some_iff.1 hk
        obtain ⟨h2, h3⟩ := g1.env t s0 h1
        exact ⟨h2, J.kill_slot h3⟩
      · have hkind := mkSl_kind (x := y.1) p8
        have hns : fl = true → ∀ s ∈ mkSl q.env y.1, ∀ u ∈ s.leafs, ∀ e u' z, u ≠ .sl e u' z := fun hf => by
          have hf' : q.flat = true := by rw [← hfl]; exact hf
          unfold Sp.flat at hf'
          simp only [Bool.and_eq_true] at hf'
          exact mkSl_noSl hf'.1 c1
        have hslots : ∀ {ss : List Slot} {vs : List Value}, (∀ s ∈ ss, ∃ ls, s = .ag ls ∨ ∃ l, s = .lf l) → (fl = true → ∀ s ∈ ss, ∀ u ∈ s.leafs, ∀ e u' z, u ≠ .sl e u' z) → RepSlots w' (G'.ok (C.sub G1 (R.gh p G1) p w fl)) G' ss vs →
            RepSlots w' ((G1.join G' (sAof q R d) (sBof q R d)).ok C) (G1.join G' (sAof q R d) (sBof q R d)) (ss.map (Slot.map (Leaf.ren (tAof q R d) (tBof q R d)))) vs := by
          intro ss
          induction ss with
          | nil => intro vs _ _ h; cases vs with
            | nil => trivial
            | cons _ _ => exact h.elim
          | cons s ss ih =>
            intro vs hk hn h
            cases vs with
            | nil => exact h.elim
            | cons v vs =>
              refine ⟨?_, ih (fun s hs => hk s (by simp [hs])) (fun hf s hs => hn hf s (by simp [hs])) h.2⟩
              obtain ⟨ls, rfl | ⟨l, rfl⟩⟩ := hk s (by simp)
              · obtain ⟨us, h1, h2⟩ := h.1
                refine ⟨us, h1, RepLeafs.of_get (by simp [h2.length]) fun k l v hl hv => ?_⟩
                obtain ⟨l0, h3, h4⟩ := h2.at k v hv
                rw [List.getElem?_map, h3] at hl
                cases hl
                exact J.ren_leaf h4 fun hf => hn hf (.ag ls) (by simp) l0 (by simpa [Slot.leafs] using List.mem_of_getElem? h3)
              · exact J.ren_leaf h.1 fun hf => hn hf (.lf l) (by simp) l (by simp [Slot.leafs])
        have := hslots hkind hns ho.slots
        exact tupN_rep (fun s hs => by
          obtain ⟨s0, h1, rfl⟩ := List.mem_map.1 hs
          obtain ⟨ls, rfl | ⟨l, rfl⟩⟩ := hkind s0 h1
          · exact ⟨_, .inl rfl⟩
          · exact ⟨[], .inr ⟨_, rfl⟩⟩) this
  · cases e
end
end Go.Ev

namespace Go.Ev
def nA : Nat → Option Nat := fun _ => none
def nB : Nat → Option (Nat × Nat) := fun _ => none
def sumC (p q : Sp) (F : p.T → Option q.T) : Sum := fun st args d S k =>
  match mat q.flat p ⟨[], []⟩ st args with
  | some x => (F x).bind fun y => k st (tupN ((mkSl q.env y.1).map (Slot.map (Leaf.ren nA nB))))
  | none => none
def okC (p q : Sp) : Bool := (p.ok && q.ok) && ((p.box.isEmpty && p.arr.isEmpty) && ((q.box.isEmpty && q.arr.isEmpty) && q.env.all (fun r => r.2.res)))
section
variable {P : Program} {C : Cx} {G G' : Gh} {st : St} {a : Act} {w w' : World} {R : Ren} {p q : Sp} {fl : Bool} {d : Nat}
theorem sumC_ok {f : FuncId} {F : p.T → Option q.T} (hc : FnS P f p q F) (hpq : okC p q = true) : SumOk P f (sumC p q F) := by
  refine ⟨hc.1, fun {C G st a w args vals d S k r} h hd hs e => ?_⟩
  unfold okC at hpq
  simp only [Bool.and_eq_true, List.isEmpty_iff] at hpq
  obtain ⟨⟨p1, p2⟩, ⟨pb, pa⟩, ⟨qb, qa⟩, p8⟩ := hpq
  have hp1 := p1
  unfold Sp.ok at hp1
  simp only [Bool.and_eq_true] at hp1
  have hp2 := p2
  unfold Sp.ok at hp2
  simp only [Bool.and_eq_true] at hp2
  unfold sumC at e
  obtain ⟨fl, hfl⟩ : ∃ fl, fl = q.flat := ⟨_, rfl⟩
  rw [← hfl] at e
  split at e
  · rename_i x hx
    obtain ⟨y, hF, e⟩ := Option.bind_eq_some_iff.1 e
    obtain ⟨m1, m2, m3, m4⟩ := mat_some hx
    generalize hR : (⟨[], []⟩ : Ren) = R at m1 m2 m3 m4
    have hL : fl = true → Lent G R ((R.gh p G).ok (C.sub G (R.gh p G) p w fl)) := fun hf => by subst hf; exact sub_lent h
    have hin : InS (C.sub G (R.gh p G) p w fl) (R.gh p G) p x vals w :=
      ⟨MemR.small h p1 m1 m3 m4 sub_keeps hL (sub_subC h m1 (by rw [pb]; rfl) (by rw [pa]; rfl)), rdSl_rep h sub_keeps hL (fun j hj => m1.ka j _ hj) hp1.1.1 hs m2, rfl, fun b q h => h, fun j ai hj hA => by simp only [Cx.sub]; rw [if_pos hj]; exact hA⟩
    refine (hc.2 _ _ w x y vals hF hin).mono fun en w' he => ?_
    obtain ⟨vs, G', rfl, ho⟩ := he
    have hbq : (q.hd y).box = .nil := by
      show mkBoxs q.box y.2.1 = .nil
      generalize y.2.1 = z; revert z; rw [qb]; intro z; rfl
    have haq : (q.hd y).arr = .nil := by
      show mkArrs q.arr y.2.2 = .nil
      generalize y.2.2 = z; revert z; rw [qa]; intro z; rfl
    have hRa : R.a = [] := by rw [← hR]
    have hRb : R.b = [] := by rw [← hR]
    have J : JH C G G' st a w w' R p fl (q.hd y).box st.box (q.hd y).arr st.arr (fun _ => none) (fun _ => none) nA nB [] := by
      refine ⟨h, m1, ho.mem, ho.fr, fun _ _ h => (by cases h), fun _ h => (by cases h), fun _ _ => rfl, fun _ _ _ h => (by cases h), fun i j hj => ?_, fun i j hj => ?_, fun _ j r hr => ?_, fun _ _ h => (by cases h), fun _ _ _ h => (by cases h), fun _ _ h => h, fun c ls _ hb => ⟨ls, hb, rfl, fun k hk => .inr ⟨fun b d bs hb' => ?_, ?_⟩⟩, fun b c d hb => rfl, fun _ b ls hb => ?_, fun _ _ h => (by cases h), fun _ _ _ h => (by cases h), fun _ h => (by cases h)⟩
      · rw [hRa] at hj; cases hj
      · rw [hRa] at hj; cases hj
      · rw [haq] at hr; cases hr
      · rw [hRb] at hb'; cases hb'
      · cases hq : ls[k]? with
        | none => rfl
        | some l => simp [killL_nil]
      · rw [hbq] at hb; cases hb
    have hkind := mkSl_kind (x := y.1) p8
    have hns : fl = true → ∀ s ∈ mkSl q.env y.1, ∀ u ∈ s.leafs, ∀ e u' z, u ≠ .sl e u' z := fun hf => by
      have hf' : q.flat = true := by rw [← hfl]; exact hf
      unfold Sp.flat at hf'
      simp only [Bool.and_eq_true] at hf'
      exact mkSl_noSl hf'.1 hp2.1.1
    have hslots : ∀ {ss : List Slot} {vs : List Value}, (∀ s ∈ ss, ∃ ls, s = .ag ls ∨ ∃ l, s = .lf l) → (fl = true → ∀ s ∈ ss, ∀ u ∈ s.leafs, ∀ e u' z, u ≠ .sl e u' z) → RepSlots w' (G'.ok (C.sub G (R.gh p G) p w fl)) G' ss vs →
        RepSlots w' ((G.join G' (fun _ => none) (fun _ => none)).ok C) (G.join G' (fun _ => none) (fun _ => none)) (ss.map (Slot.map (Leaf.ren nA nB))) vs := by
      intro ss
      induction ss with
      | nil => intro vs _ _ h; cases vs with
        | nil => trivial
        | cons _ _ => exact h.elim
      | cons s ss ih =>
        intro vs hk hn h
        cases vs with
        | nil => exact h.elim
        | cons v vs =>
          refine ⟨?_, ih (fun s hs => hk s (by simp [hs])) (fun hf s hs => hn hf s (by simp [hs])) h.2⟩
          obtain ⟨ls, rfl | ⟨l, rfl⟩⟩ := hk s (by simp)
          · obtain ⟨us, h1, h2⟩ := h.1
            refine ⟨us, h1, RepLeafs.of_get (by simp [h2.length]) fun k l v hl hv => ?_⟩
            obtain ⟨l0, h3, h4⟩ := h2.at k v hv
            rw [List.getElem?_map, h3] at hl
            cases hl
            exact J.ren_leaf h4 fun hf => hn hf (.ag ls) (by simp) l0 (by simpa [Slot.leafs] using List.mem_of_getElem? h3)
          · exact J.ren_leaf h.1 fun hf => hn hf (.lf l) (by simp) l (by simp [Slot.leafs])
    refine ⟨_, _, st, _, rfl, ⟨h.size, h.n, h.dfr, fun t s ht => ?_, J.memN, J.frN⟩, rfl, tupN_rep (fun s hs => ?_) (hslots hkind hns ho.slots), e⟩
    · obtain ⟨h2, h3⟩ := h.env t s ht
      exact ⟨h2, by have := J.kill_slot h3; rwa [slot_killL_nil] at this⟩
    · obtain ⟨s0, h1, rfl⟩ := List.mem_map.1 hs
      obtain ⟨ls, rfl | ⟨l, rfl⟩⟩ := hkind s0 h1
      · exact ⟨_, .inl rfl⟩
      · exact ⟨[], .inr ⟨_, rfl⟩⟩
  · cases e
theorem rdS_ext {st st' : St} (hx : st.Ext st') : ∀ {k : K} {ls : List Leaf} {x : k.T}, k.rdS st ls = some x → k.rdS st' ls = some x
  | .int _, _, _, h | .bool, _, _, h | .str, _, _, h => h
  | .sl e, ls, x, h => by
    simp only [K.rdS] at h ⊢
    split at h
    · exact cont_ext hx h
    · cases h
  | .pr a b, ls, x, h => by
    simp only [K.rdS] at h ⊢
    split at h
    · rename_i y z h1 h2
      rw [rdS_ext hx h1, rdS_ext hx h2]; exact h
    · cases h
theorem rdV_ext {st st' : St} (hx : st.Ext st') {fl : Bool} {k : K} {ls : List Leaf} {x : k.T} (h : rdV fl R st k ls = some x) : rdV fl R st' k ls = some x := by
  unfold rdV at h ⊢
  cases fl with
  | false => exact h
  | true =>
    simp only [cond_true] at h ⊢
    cases hl : ls.all (lentL R)
    · rw [hl] at h; cases h
    · rw [hl] at h; exact rdS_ext hx h
theorem rdBx_ext {st st' : St} (hx : st.Ext st') {fl : Bool} : ∀ {l : List BS} {ls : List Leaf} {x : BArgs l}, rdBx fl R st l ls = some x → rdBx fl R st' l ls = some x
  | [], _, _, h => h
  | .val k :: l, ls, x, h => by
    simp only [rdBx] at h ⊢
    split at h
    · rename_i y hy
      split at h
      · rename_i ys h2
        simp only [rdV_ext hx hy, rdBx_ext hx h2]; exact h
      · cases h
    · cases h
  | .fix f :: l, y :: ls, x, h => by
    simp only [rdBx] at h ⊢
    cases hc : chkLeaf R f y
    · rw [hc] at h; cases h
    · rw [hc] at h
      simp only [cond_true] at h ⊢
      exact rdBx_ext hx h
  | .fix f :: l, [], x, h => by simp [rdBx] at h
theorem rdSl_ext {st st' : St} (hx : st.Ext st') {fl : Bool} : ∀ {l : List (Nat × ES)} {ss : List Slot} {x : EArgs2 l}, rdSl fl R st l ss = some x → rdSl fl R st' l ss = some x
  | [], [], _, h => h
  | (_, .val g k) :: l, s :: ss, x, h => by
    simp only [rdSl] at h ⊢
    cases hg : (s.isAg == g)
    · rw [hg] at h; cases h
    · rw [hg] at h
      simp only [cond_true] at h ⊢
      split at h
      · rename_i y hy
        split at h
        · rename_i ys h2
          simp only [rdV_ext hx hy, rdSl_ext hx h2]; exact h
        · cases h
      · cases h
  | (_, .rp k) :: l, s :: ss, x, h => by
    simp only [rdSl] at h ⊢
    split at h
    · rename_i ls
      split at h
      · rename_i y hy
        split at h
        · rename_i ys h2
          simp only [hy, rdSl_ext hx h2]; exact h
        · cases h
      · cases h
    · rename_i s' hne
      cases hf : (fl && lentS R s)
      · rw [hf] at h; cases h
      · rw [hf] at h
        simp only [cond_true] at h ⊢
        split at h
        · rename_i ls hls
          split at h
          · rename_i y hy
            split at h
            · rename_i ys h2
              simp only [leafsAt_ext hx hls, rdV_ext hx hy, rdSl_ext hx h2]; exact h
            · cases h
          · cases h
        · cases h
  | (_, .mix g b) :: l, s :: ss, x, h => by
    simp only [rdSl] at h ⊢
    cases hg : (s.isAg == g && s.leafs.length == bsz b)
    · rw [hg] at h; cases h
    · rw [hg] at h
      simp only [cond_true] at h ⊢
      split at h
      · rename_i y hy
        split at h
        · rename_i ys h2
          simp only [rdBx_ext hx hy, rdSl_ext hx h2]; exact h
        · cases h
      · cases h
  | (_, .fix f) :: l, s :: ss, x, h => by
    simp only [rdSl] at h ⊢
    split at h
    · rename_i y
      cases hc : chkLeaf R f y
      · rw [hc] at h; cases h
      · rw [hc] at h
        simp only [cond_true] at h ⊢
        exact rdSl_ext hx h
    · cases h
  | [], _ :: _, _, h | (_, .val _ _) :: _, [], _, h | (_, .rp _) :: _, [], _, h | (_, .mix _ _) :: _, [], _, h | (_, .fix _) :: _, [], _, h => by simp [rdSl] at h
theorem mat_ext {st st' : St} (hx : st.Ext st') {fl : Bool} (hb : p.box = []) (ha : p.arr = []) {ss : List Slot} {x : p.T} (h : mat fl p ⟨[], []⟩ st ss = some x) : mat fl p ⟨[], []⟩ st' ss = some x := by
  obtain ⟨n, en, bx, ar⟩ := p
  simp only at hb ha
  subst hb; subst ha
  unfold mat at h ⊢
  have hok : ∀ st, okRen ⟨n, en, [], []⟩ st ⟨[], []⟩ = true := fun st => rfl
  rw [hok] at h ⊢
  simp only [cond_true] at h ⊢
  split at h
  · rename_i y hy
    rw [rdSl_ext hx hy]; exact h
  · cases h
theorem sumC_calm {F : p.T → Option q.T} (hpq : okC p q = true) : CalmSum (sumC p q F) := by
  unfold okC at hpq
  simp only [Bool.and_eq_true, List.isEmpty_iff] at hpq
  obtain ⟨⟨p1, p2⟩, ⟨pb, pa⟩, ⟨qb, qa⟩, p8⟩ := hpq
  intro st args d S k r e
  unfold sumC at e
  split at e
  · rename_i x hx
    obtain ⟨y, hF, e⟩ := Option.bind_eq_some_iff.1 e
    refine ⟨_, e, fun {st'} hE {d' R' k' r'} hk => ?_⟩
    unfold sumC
    rw [mat_ext hE pb pa hx]
    simp only [hF, Option.bind_some]
    exact hk
  · cases e
end
def cN (p q : Sp) (F : p.T → Option q.T) : SumX := ⟨true, false, sumC p q F⟩
def xN (p q : Sp) (F : p.T → Option q.T) : SumX := ⟨false, false, sumN p q F⟩
theorem cN_ok {P : Program} {f : FuncId} {p q : Sp} {F : p.T → Option q.T} (hc : FnS P f p q F) (h : okC p q = true) : SumOk P f (cN p q F).g ∧ ((cN p q F).calm = true → CalmSum (cN p q F).g) ∧ ((cN p q F).fresh = true → FreshSum (cN p q F).g) := ⟨sumC_ok hc h, fun _ => @sumC_calm p q F h, fun h => by cases h⟩
theorem xN_ok {P : Program} {f : FuncId} {p q : Sp} {F : p.T → Option q.T} (hc : FnS P f p q F) (h : okPQ p q = true) : SumOk P f (xN p q F).g ∧ ((xN p q F).calm = true → CalmSum (xN p q F).g) ∧ ((xN p q F).fresh = true → FreshSum (xN p q F).g) := ⟨sumN_ok hc h, fun h => (by cases h), fun h => by cases h⟩
/-! contracts that bring nothing but new boxes and arrays -/
def sumF (p q : Sp) (F : p.T → Option q.T) : Sum := fun st args d S k =>
  match mat q.flat p ⟨[], []⟩ st args with
  | some x => bif okCall q ⟨[], []⟩ d st then (F x).bind fun y => k (appN q ⟨[], []⟩ d st y) (tupN ((mkSl q.env y.1).map (Slot.map (Leaf.ren (tAof q ⟨[], []⟩ d) (tBof q ⟨[], []⟩ d))))) else none
  | none => none
def okF (p q : Sp) : Bool := okPQ p q && (q.flat && (p.box.isEmpty && p.arr.isEmpty))
section
variable {P : Program} {C : Cx} {G G' : Gh} {st : St} {a : Act} {w w' : World} {R : Ren} {p q : Sp} {fl : Bool} {d : Nat}
theorem disLeaf_nil (hb : p.box = []) (ha : p.arr = []) {f l : Leaf} (h : f.inP p = true) : disLeaf ⟨[], []⟩ f l = ⟨[], []⟩ := by
  cases f with
  | own j => simp [Leaf.inP, ha] at h
  | ptr b o => simp [Leaf.inP, hb] at h
  | ifp t g b o => simp [Leaf.inP, hb] at h
  | fn f cs =>
    cases cs with
    | nil => cases l <;> rfl
    | cons c cs => simp [Leaf.inP, hb] at h
  | _ => cases l <;> rfl
theorem disBox_nil (hb : p.box = []) (ha : p.arr = []) : ∀ {l : List BS} {ls : List Leaf}, (l.all fun b => b.inP p) = true → disBox ⟨[], []⟩ l ls = ⟨[], []⟩
  | [], _, _ => rfl
  | .val k :: l, ls, h => by
    simp only [List.all_cons, Bool.and_eq_true] at h
    exact disBox_nil hb ha (l := l) h.2
  | .fix f :: l, [], h => rfl
  | .fix f :: l, y :: ls, h => by
    simp only [List.all_cons, Bool.and_eq_true] at h
    simp only [disBox, disLeaf_nil hb ha (show f.inP p = true from h.1)]
    exact disBox_nil hb ha h.2
theorem disEnv_nil (hb : p.box = []) (ha : p.arr = []) : ∀ {l : List (Nat × ES)} {ss : List Slot}, (l.all fun r => r.2.inP p) = true → disEnv ⟨[], []⟩ l ss = ⟨[], []⟩
  | [], _, _ => by cases ‹List Slot› <;> rfl
  | (_, .val g k) :: l, [], h => rfl
  | (_, .rp k) :: l, [], h => rfl
  | (_, .mix g b) :: l, [], h => rfl
  | (_, .fix f) :: l, [], h => rfl
  | (_, .val g k) :: l, s :: ss, h => by
    simp only [List.all_cons, Bool.and_eq_true] at h
    exact disEnv_nil hb ha (l := l) h.2
  | (_, .rp k) :: l, s :: ss, h => by
    simp only [List.all_cons, Bool.and_eq_true] at h
    exact disEnv_nil hb ha (l := l) h.2
  | (_, .mix g b) :: l, s :: ss, h => by
    simp only [List.all_cons, Bool.and_eq_true] at h
    have h1 := h.1
    simp only [ES.inP, Bool.and_eq_true] at h1
    simp only [disEnv, disBox_nil hb ha h1.1.1]
    exact disEnv_nil hb ha h.2
  | (_, .fix f) :: l, s :: ss, h => by
    simp only [List.all_cons, Bool.and_eq_true] at h
    cases s with
    | lf y =>
      simp only [disEnv, disLeaf_nil hb ha (show f.inP p = true from h.1)]
      exact disEnv_nil hb ha h.2
    | _ => exact disEnv_nil hb ha (l := l) h.2
theorem sumF_ok {f : FuncId} {F : p.T → Option q.T} (hc : FnS P f p q F) (hpq : okF p q = true) : SumOk P f (sumF p q F) := by
  unfold okF at hpq
  simp only [Bool.and_eq_true, List.isEmpty_iff] at hpq
  obtain ⟨h1, h2, h3, h4⟩ := hpq
  have hs := sumN_ok hc h1
  refine ⟨hs.1, fun {C G st a w args vals d S k r} h hd hsl e => hs.2 h hd hsl ?_⟩
  have henv : (p.env.all fun r => r.2.inP p) = true := by
    unfold okPQ at h1
    simp only [Bool.and_eq_true] at h1
    have := h1.1.1.1
    unfold Sp.ok at this
    simp only [Bool.and_eq_true] at this
    exact this.1.1
  have hR : disR ⟨[], []⟩ p st args = ⟨[], []⟩ := by
    unfold disR
    rw [disEnv_nil h3 h4 henv, h3]; rfl
  unfold sumN
  simp only [hR, h2, preM, cond_true]
  unfold sumF at e
  rw [h2] at e
  exact e
theorem setArrs_add {tA : Nat → Option Nat} : ∀ {l : List (Nat × K × Bool)} {x : AArgs l}, ∃ na : List (Nat × Arr), (∀ t, setArrs tA l x t = addL na t) ∧ (∀ p ∈ na, ∃ q ∈ l, tA q.1 = some p.1) ∧ ∀ q ∈ l, ∀ i, tA q.1 = some i → ∃ p ∈ na, p.1 = i
  | [], _ => ⟨[], fun _ => rfl, fun p hp => (by simp at hp), fun p hp => by simp at hp⟩
  | p :: l, x => by
    obtain ⟨na, h1, h2, h0⟩ := setArrs_add (tA := tA) (l := l) (x := x.2)
    cases ht : tA p.1 with
    | none => exact ⟨na, fun t => by simp only [setArrs, ht]; exact h1 t, fun r hr => (by obtain ⟨q, hq, h3⟩ := h2 r hr; exact ⟨q, by simp [hq], h3⟩), fun q hq i hi => by
      rcases List.mem_cons.1 hq with rfl | hq
      · rw [ht] at hi; cases hi
      · exact h0 q hq i hi⟩
    | some i =>
      refine ⟨(i, ⟨p.2.1, x.1, p.2.2⟩) :: na, fun t => by simp only [setArrs, ht, addL]; rw [h1 t], fun r hr => ?_, fun q hq j hj => ?_⟩
      · rcases List.mem_cons.1 hr with rfl | hr
        · exact ⟨p, by simp, ht⟩
        · obtain ⟨q, hq, h3⟩ := h2 r hr; exact ⟨q, by simp [hq], h3⟩
      · rcases List.mem_cons.1 hq with rfl | hq
        · rw [ht] at hj; cases hj; exact ⟨_, List.mem_cons_self .., rfl⟩
        · obtain ⟨r, hr, h3⟩ := h0 q hq j hj; exact ⟨r, by simp [hr], h3⟩
theorem setBoxs_add {rn : Leaf → Leaf} : ∀ {l : List (Nat × List BS)} {x : BsArgs l}, ∃ nb : List (Nat × List Leaf), (∀ t, setBoxs q ⟨[], []⟩ d rn l x t = addL nb t) ∧ (∀ p ∈ nb, ∃ r ∈ l, p.1 = nid d (posOf q.box r.1)) ∧ ∀ r ∈ l, ∃ p ∈ nb, p.1 = nid d (posOf q.box r.1)
  | [], _ => ⟨[], fun _ => rfl, fun p hp => (by simp at hp), fun p hp => by simp at hp⟩
  | p :: l, x => by
    obtain ⟨nb, h1, h2, h0⟩ := setBoxs_add (rn := rn) (l := l) (x := x.2)
    refine ⟨(nid d (posOf q.box p.1), (mkBox p.2 x.1).map rn) :: nb, fun t => by simp only [setBoxs, look, addL]; rw [h1 t], fun r hr => ?_, fun r hr => ?_⟩
    · rcases List.mem_cons.1 hr with rfl | hr
      · exact ⟨p, by simp, rfl⟩
      · obtain ⟨q', hq, h3⟩ := h2 r hr; exact ⟨q', by simp [hq], h3⟩
    · rcases List.mem_cons.1 hr with rfl | hr
      · exact ⟨_, List.mem_cons_self .., rfl⟩
      · obtain ⟨r', hr', h3⟩ := h0 r hr; exact ⟨r', by simp [hr'], h3⟩
theorem freshA_of {q0 : Sp} : ∀ {l : List (Nat × K × Bool)}, (∀ r ∈ l, r.1 < 64000 → st.arr.get (nid d (posOf q0.arr r.1)) = none) → freshA d q0 st l = true
  | [], _ => rfl
  | p :: l, h => by
    simp only [freshA, Bool.and_eq_true, Bool.or_eq_true]
    refine ⟨?_, freshA_of fun r hr => h r (by simp [hr])⟩
    rcases Nat.lt_or_ge p.1 64000 with hlt | hge
    · right; rw [h p (by simp) hlt]
    · left; exact Nat.ble_eq_true_of_le hge
theorem freshB_of {q0 : Sp} : ∀ {l : List (Nat × List BS)}, (∀ r ∈ l, st.box.get (nid d (posOf q0.box r.1)) = none) → freshB d q0 ⟨[], []⟩ st l = true
  | [], _ => rfl
  | p :: l, h => by
    simp only [freshB, look, Bool.and_eq_true]
    refine ⟨?_, freshB_of fun r hr => h r (by simp [hr])⟩
    rw [h p (by simp)]
theorem sumF_fresh {F : p.T → Option q.T} (hpq : okF p q = true) : FreshSum (sumF p q F) := by
  unfold okF at hpq
  simp only [Bool.and_eq_true, List.isEmpty_iff] at hpq
  obtain ⟨h1, h2, h3, h4⟩ := hpq
  have hq : q.box.length ≤ 32 ∧ q.arr.length ≤ 32 := by
    unfold okPQ at h1
    simp only [Bool.and_eq_true] at h1
    exact ⟨Nat.le_of_ble_eq_true h1.2.2.2.2, Nat.le_of_ble_eq_true h1.2.2.2.1⟩
  have hple : ∀ {α : Type} {l : List (Nat × α)} {b : Nat}, posOf l b ≤ l.length := by
    intro α l b
    induction l with
    | nil => simp [posOf]
    | cons r l ih => simp only [posOf]; cases (r.1 == b) <;> simp <;> omega
  intro st args d S k r e
  unfold sumF at e
  split at e
  · rename_i x hx
    cases hok : okCall q ⟨[], []⟩ d st
    · rw [hok] at e; cases e
    · rw [hok] at e
      simp only [cond_true] at e
      obtain ⟨y, hF, e⟩ := Option.bind_eq_some_iff.1 e
      have hok' := hok
      unfold okCall at hok'
      simp only [Bool.and_eq_true] at hok'
      have hd12 : d < 1200 := Nat.le_of_ble_eq_true hok'.1
      obtain ⟨nb, b1, b2, b3⟩ := setBoxs_add (q := q) (d := d) (rn := Leaf.ren (tAof q ⟨[], []⟩ d) (tBof q ⟨[], []⟩ d)) (l := q.box) (x := y.2.1)
      obtain ⟨na, a1, a2, a3⟩ := setArrs_add (tA := tAof q ⟨[], []⟩ d) (l := q.arr) (x := y.2.2)
      have ha : ∀ p ∈ na, ∃ r ∈ q.arr, r.1 < 64000 ∧ p.1 = nid d (posOf q.arr r.1) := fun p hp => by
        obtain ⟨r, hr, h5⟩ := a2 p hp
        refine ⟨r, hr, ?_⟩
        unfold tAof at h5
        split at h5
        · cases h5
        · cases hb : Nat.ble 64000 r.1
          · rw [hb] at h5
            simp only [cond_false, Option.some.injEq] at h5
            refine ⟨?_, h5.symm⟩
            rcases Nat.lt_or_ge r.1 64000 with h | h
            · exact h
            · rw [Nat.ble_eq_true_of_le h] at hb; cases hb
          · rw [hb] at h5
            simp only [cond_true, look] at h5
            cases h5
      have hadd : ∀ st' : St, appN q ⟨[], []⟩ d st' y = st'.add nb na := fun st' => by
        have e1 : appN q ⟨[], []⟩ d st' y = ⟨st'.n, st'.env, setBoxs q ⟨[], []⟩ d (Leaf.ren (tAof q ⟨[], []⟩ d) (tBof q ⟨[], []⟩ d)) q.box y.2.1 st'.box, setArrs (tAof q ⟨[], []⟩ d) q.arr y.2.2 st'.arr⟩ := rfl
        rw [e1, b1, a1]; rfl
      rw [hadd] at e
      refine ⟨nb, na, _, ⟨fun p hp => ?_, fun p hp => ?_, fun p hp => ?_, fun p hp => ?_⟩, e, fun {st'} hE hab {R' k' r'} hk => ?_⟩
      · obtain ⟨r, hr, h5⟩ := b2 p hp
        rw [h5]; exact freshB_spec hok'.2.2 r hr rfl
      · obtain ⟨r, hr, h5, h6⟩ := ha p hp
        rw [h6]; exact freshA_spec hok'.2.1 r hr h5
      · obtain ⟨r, hr, h5⟩ := b2 p hp
        have := nid_lt hd12 (Nat.le_trans (hple (l := q.box) (b := r.1)) hq.1)
        rw [h5]; omega
      · obtain ⟨r, hr, h5, h6⟩ := ha p hp
        have := nid_lt hd12 (Nat.le_trans (hple (l := q.arr) (b := r.1)) hq.2)
        rw [h6]; omega
      · have hm : mat q.flat p ⟨[], []⟩ st' args = some x := mat_ext hE h3 h4 hx
        unfold sumF
        rw [hm]
        have hokc : okCall q ⟨[], []⟩ d st' = true := by
          unfold okCall
          simp only [Bool.and_eq_true]
          refine ⟨hok'.1, freshA_of fun r hr hlt => ?_, freshB_of fun r hr => ?_⟩
          · have ht : ∃ e0, look q.arr r.1 = some e0 := any_look (List.any_eq_true.2 ⟨r, hr, by simp⟩)
            obtain ⟨e0, he0⟩ := ht
            have hn : Nat.ble 64000 r.1 = false := by
              cases hb : Nat.ble 64000 r.1
              · rfl
              · have := Nat.le_of_ble_eq_true hb; omega
            obtain ⟨p0, hp0, h5⟩ := a3 r hr (nid d (posOf q.arr r.1)) (by unfold tAof; rw [he0]; simp only [hn, cond_false])
            rw [← h5]; exact hab.a p0 hp0
          · obtain ⟨p0, hp0, h5⟩ := b3 r hr
            rw [← h5]; exact hab.b p0 hp0
        simp only [hokc, cond_true, hF, Option.bind_some]
        rw [hadd]; exact hk
  · cases e
end
def fN (p q : Sp) (F : p.T → Option q.T) : SumX := ⟨false, true, sumF p q F⟩
theorem fN_ok {P : Program} {f : FuncId} {p q : Sp} {F : p.T → Option q.T} (hc : FnS P f p q F) (h : okF p q = true) : SumOk P f (fN p q F).g ∧ ((fN p q F).calm = true → CalmSum (fN p q F).g) ∧ ((fN p q F).fresh = true → FreshSum (fN p q F).g) := ⟨sumF_ok hc h, fun h => (by cases h), fun _ => @sumF_fresh p q F h⟩
/-! recursion -/
noncomputable def limN {A B : Type} (F : Nat → A → Option B) (x : A) : Option B :=
  open Classical in if h : ∃ y, ∃ n, F n x = some y then some h.choose else none
theorem limN_some {A B : Type} {F : Nat → A → Option B} {x : A} {y : B} (h : limN F x = some y) : ∃ n, F n x = some y := by
  unfold limN at h
  split at h
  · rename_i hh; cases h; exact hh.choose_spec
  · cases h
theorem limN_of {A B : Type} {F : Nat → A → Option B} (hm : ∀ n x y, F n x = some y → F (n + 1) x = some y) {n : Nat} {x : A} {y : B} (h : F n x = some y) : limN F x = some y := by
  have hh : ∃ y, ∃ n, F n x = some y := ⟨y, n, h⟩
  have mono : ∀ k n x y, F n x = some y → F (n + k) x = some y := by
    intro k
    induction k with
    | zero => intro n x y h; exact h
    | succ k ih => intro n x y h; exact hm _ _ _ (ih n x y h)
  unfold limN
  rw [dif_pos hh]
  obtain ⟨m', h'⟩ := hh.choose_spec
  have h1 := mono m' n x y h
  have h2 := mono n m' x _ h'
  rw [Nat.add_comm m' n] at h2
  rw [h1] at h2
  exact h2.symm
theorem fnS_lim {P : Program} {f : FuncId} {p q : Sp} {F : Nat → p.T → Option q.T} (h : ∀ n, FnS P f p q (F n)) : FnS P f p q (limN F) :=
  ⟨(h 0).1, fun C G w x y vals hF hin => by
    obtain ⟨n, hn⟩ := limN_some hF
    exact (h n).2 C G w x y vals hn hin⟩
theorem fnS_none {P : Program} {f : FuncId} {p q : Sp} {fn : Func} (hf : P.funcs[f]? = some fn) (hb : fn.body.isNone = false) (hname : (fn.name == "runtime.NumGoroutine") = false) : FnS P f p q (fun _ => none) :=
  ⟨⟨fn, hf, hb, hname⟩, fun C G w x y vals hF => by cases hF⟩
end Go.Ev

namespace Go.Ev
def jOf : List (Nat × List (Nat × SS)) → Nat → Option (List (Nat × SS))
  | [], _ => none
  | p :: l, i => bif p.1 == i then some p.2 else jOf l i
theorem itr_mono {A B : Type} {step : A → Option (A ⊕ B)} : ∀ {m n : Nat} {x : A} {y : B}, itr step m x = some y → m ≤ n → itr step n x = some y
  | 0, _, _, _, h, _ => by simp [itr] at h
  | m + 1, 0, _, _, _, h => by omega
  | m + 1, n + 1, x, y, h, hn => by
    unfold itr at h ⊢
    split at h
    · rename_i x' hx
      exact itr_mono h (by omega)
    · exact h
    · cases h
noncomputable def lim {A B : Type} (step : A → Option (A ⊕ B)) (x : A) : Option B :=
  open Classical in if h : ∃ y, ∃ m, itr step m x = some y then some h.choose else none
theorem lim_itr {A B : Type} {step : A → Option (A ⊕ B)} : ∀ x y, lim step x = some y → ∃ m, itr step m x = some y := fun x y h => by
  unfold lim at h
  split at h
  · rename_i hh
    cases h
    exact hh.choose_spec
  · cases h
theorem lim_of {A B : Type} {step : A → Option (A ⊕ B)} {m : Nat} {x : A} {y : B} (h : itr step m x = some y) : lim step x = some y := by
  have hh : ∃ y, ∃ m, itr step m x = some y := ⟨y, m, h⟩
  unfold lim
  rw [dif_pos hh]
  obtain ⟨m', h'⟩ := hh.choose_spec
  have h1 := itr_mono h (Nat.le_max_left m m')
  have h2 := itr_mono h' (Nat.le_max_right m m')
  rw [h1] at h2
  exact h2.symm
theorem lim_eq {A B : Type} (step : A → Option (A ⊕ B)) (x : A) : lim step x = match step x with
    | some (.inl x') => lim step x'
    | some (.inr y) => some y
    | none => none := by
  cases hs : step x with
  | none =>
    cases hl : lim step x with
    | none => rfl
    | some y =>
      obtain ⟨m, hm⟩ := lim_itr x y hl
      cases m with
      | zero => simp [itr] at hm
      | succ m => simp [itr, hs] at hm
  | some s =>
    cases s with
    | inr y => exact lim_of (m := 1) (by simp [itr, hs])
    | inl x' =>
      simp only
      cases hl : lim step x' with
      | some y =>
        obtain ⟨m, hm⟩ := lim_itr x' y hl
        exact lim_of (m := m + 1) (by simp only [itr, hs]; exact hm)
      | none =>
        cases hl2 : lim step x with
        | none => rfl
        | some y =>
          obtain ⟨m, hm⟩ := lim_itr x y hl2
          cases m with
          | zero => simp [itr] at hm
          | succ m =>
            simp only [itr, hs] at hm
            rw [lim_of hm] at hl; cases hl
end Go.Ev

namespace Go.Ev
def Wf : (k : K) → k.T → Prop
  | .int k, x => (Lit.int k x).wf = true
  | .bool, _ => True
  | .str, s => s.size ≤ maxLen
  | .sl e, l => l.length ≤ maxLen ∧ ∀ x ∈ l, Wf e x
  | .pr a b, x => Wf a x.1 ∧ Wf b x.2
def kOfs (P : Program) (r : K → TypeId → Bool) : K → List Field → Nat → Bool
  | _, [], _ => false
  | k, [f], off => (r k f.type && (f.offset == off)) && P.cellsOf f.type == k.sz
  | .pr a b, f :: g :: fs, off => ((r a f.type && (f.offset == off)) && P.cellsOf f.type == a.sz) && kOfs P r b (g :: fs) (off + a.sz)
  | _, _ :: _ :: _, _ => false
def kOf (P : Program) : Nat → K → TypeId → Bool
  | 0, _, _ => false
  | n + 1, k, t =>
    match P.underlying t with
    | some (.int kd) => k == .int kd
    | some .bool => k == .bool
    | some .string => k == .str
    | some (.slice e) => match k with
      | .sl ke => kOf P n ke e && P.cellsOf e == ke.sz
      | _ => false
    | some (.struct fs) => kOfs P (kOf P n) k fs.toList 0 && P.cellsOf t == k.sz
    | _ => false
section
variable {P : Program} {H : Type} {enc : TypeId × Value → H} {w : World} {base : Nat} {spare : Nat → Bool} {held : Bool}
theorem open_fields {r : K → TypeId → Bool} {n : Nat} (hr : ∀ k t cs x, r k t = true → DataW.trod enc P w base spare held n t cs = some x → ∃ y : k.T, RepT w (fun _ => True) k y cs ∧ Wf k y) :
    ∀ {fs : List Field} {k : K} {off : Nat} {cs : List Value}, kOfs P r k fs off = true → off + k.sz = cs.length → (∀ f ∈ fs, ∃ x, DataW.trod enc P w base spare held n f.type ((cs.drop f.offset).take (P.cellsOf f.type)) = some x) →
      ∃ y : k.T, RepT w (fun _ => True) k y (cs.drop off) ∧ Wf k y
  | [], k, off, cs, h, _, _ => by cases k <;> simp [kOfs] at h
  | [f], k, off, cs, h, hl, hf => by
    have h' : ((r k f.type && (f.offset == off)) && P.cellsOf f.type == k.sz) = true := by cases k <;> exact h
    simp only [Bool.and_eq_true, beq_iff_eq] at h'
    obtain ⟨⟨h1, h2⟩, h3⟩ := h'
    obtain ⟨x, hx⟩ := hf f (by simp)
    obtain ⟨y, g1, g2⟩ := hr k _ _ _ h1 hx
    rw [h2, h3, List.take_of_length_le (by rw [List.length_drop]; omega)] at g1
    exact ⟨y, g1, g2⟩
  | f :: g :: fs, k, off, cs, h, hl, hf => by
    cases k with
    | pr a b =>
      simp only [kOfs, Bool.and_eq_true, beq_iff_eq] at h
      obtain ⟨⟨⟨h1, h2⟩, h3⟩, h4⟩ := h
      simp only [K.sz] at hl
      obtain ⟨x, hx⟩ := hf f (by simp)
      obtain ⟨y, g1, g2⟩ := hr a _ _ _ h1 hx
      obtain ⟨z, g3, g4⟩ := open_fields hr (k := b) (off := off + a.sz) (cs := cs) h4 (by omega) (fun f' hf' => hf f' (by simp at hf' ⊢; exact .inr hf'))
      rw [h2, h3] at g1
      refine ⟨(y, z), ⟨_, _, ?_, g1, g3⟩, g2, g4⟩
      rw [← List.drop_drop, List.take_append_drop]
    | _ => simp [kOfs] at h
theorem cells?_get {b n : Nat} {a : Addr} {cs : List Value} (h : w.cells? b a n = some cs) : ∀ j v, cs[j]? = some v → w.cell? (a.add j) = some v := fun j v hj => by
  obtain ⟨_, h1, h2⟩ := World.cells?_some h
  have hlt := (List.getElem?_eq_some_iff.1 hj).1
  rw [h2 j (by omega)]; exact hj
theorem open_kind : ∀ (m : Nat) {k : K} {t : TypeId} {fuel : Nat} {cs : List Value} {x : DataW H × List MemPlace}, kOf P m k t = true → DataW.trod enc P w base spare held fuel t cs = some x → ∃ y : k.T, RepT w (fun _ => True) k y cs ∧ Wf k y
  | 0, k, t, fuel, cs, x, h, _ => by simp [kOf] at h
  | m + 1, k, t, fuel, cs, x, h, hx => by
    unfold kOf at h
    split at h
    · rename_i kd hu
      have : k = .int kd := by simpa using h
      subst this
      obtain ⟨n, rfl, rfl, hw⟩ := DataW.trod_int hu hx
      exact ⟨n, rfl, hw⟩
    · rename_i hu
      have : k = .bool := by simpa using h
      subst this
      cases fuel with
      | zero => simp [DataW.trod] at hx
      | succ n =>
        unfold DataW.trod at hx
        rw [hu] at hx
        split at hx
        all_goals first
          | (rename_i b _ _; exact ⟨b, rfl, trivial⟩)
          | (rename_i b _; exact ⟨b, rfl, trivial⟩)
          | (rename_i b; exact ⟨b, rfl, trivial⟩)
          | simp_all
    · rename_i hu
      have : k = .str := by simpa using h
      subst this
      cases fuel with
      | zero => simp [DataW.trod] at hx
      | succ n =>
        unfold DataW.trod at hx
        rw [hu] at hx
        split at hx <;> simp_all
        exact ⟨_, rfl, by simpa [Wf] using hx.1⟩
    · rename_i e hu
      split at h
      · rename_i ke
        simp only [Bool.and_eq_true, beq_iff_eq] at h
        obtain ⟨h1, h2⟩ := h
        rcases DataW.trod_slice hu hx with ⟨rfl, _⟩ | ⟨a, len, cap, elems, rest, n, _, rfl, _, hb, hlc, hcm, hel, hget, _, _⟩
        · exact ⟨[], ⟨none, 0, rfl, Nat.le_refl _, fun i hi => by simp at hi⟩, by simp [Wf]⟩
        · have each : ∀ i, i < len → ∃ y : ke.T, (∃ cs, RepT w (fun _ => True) ke y cs ∧ ∀ j v, cs[j]? = some v → w.cell? (a.add (i * ke.sz + j)) = some v) ∧ Wf ke y := fun i hi => by
            have h3 := hget i hi
            have h4 : elems[i]? = some elems[i] := List.getElem?_eq_getElem (by omega)
            rw [h4] at h3
            obtain ⟨cs', h5, h6⟩ := Option.bind_eq_some_iff.1 h3
            obtain ⟨y, g1, g2⟩ := open_kind m h1 h6
            have h7 := cells?_get h5
            refine ⟨y, ⟨cs', g1, fun j v hj => ?_⟩, g2⟩
            have := h7 j v hj
            rw [h2, addr_add_add] at this
            exact this
          have hl : ∀ n, n ≤ len → ∃ l : List ke.T, l.length = n ∧ ∀ i, i < n → (∃ cs, RepT w (fun _ => True) ke (l.getD i ke.zero) cs ∧ ∀ j v, cs[j]? = some v → w.cell? (a.add (i * ke.sz + j)) = some v) ∧ Wf ke (l.getD i ke.zero) := by
            intro n
            induction n with
            | zero => intro _; exact ⟨[], rfl, fun i hi => by omega⟩
            | succ n ih =>
              intro hn
              obtain ⟨l, q1, q2⟩ := ih (by omega)
              obtain ⟨y, q3⟩ := each n (by omega)
              refine ⟨l ++ [y], by simp [q1], fun i hi => ?_⟩
              rw [getD_append]
              by_cases hin : i < n
              · rw [if_pos (by omega)]; exact q2 i hin
              · have : i = n := by omega
                subst this
                rw [if_neg (by omega), q1, Nat.sub_self]; exact q3
          obtain ⟨l, q1, q2⟩ := hl len (Nat.le_refl _)
          refine ⟨l, ⟨some a, cap, by rw [q1], by omega, fun i hi => ⟨a, rfl, trivial, (q2 i (by omega)).1⟩⟩, by rw [q1]; omega, fun x hx => ?_⟩
          obtain ⟨i, hi, rfl⟩ := List.getElem_of_mem hx
          have := (q2 i (by omega)).2
          rwa [getD_eq _ _ _ hi] at this
      · cases h
    · rename_i fs hu
      simp only [Bool.and_eq_true, beq_iff_eq] at h
      obtain ⟨xs, n, _, _, hl, hlen, hf⟩ := DataW.trod_struct hu hx
      obtain ⟨y, g1, g2⟩ := open_fields (n := n) (fun k t cs x hk hx => open_kind m hk hx) (fs := fs.toList) (k := k) (off := 0) (cs := cs) h.1 (by rw [hl, h.2]; omega) (fun f hf' => by
        obtain ⟨i, hi, rfl⟩ := List.getElem_of_mem hf'
        have := hf i fs.toList[i] (by rw [← Array.getElem?_toList]; exact List.getElem?_eq_getElem hi)
        have hxi : i < xs.length := by rw [hlen]; simpa using hi
        rw [List.getElem?_eq_getElem hxi] at this
        exact ⟨_, this⟩)
      exact ⟨y, by simpa using g1, g2⟩
    · cases h
end
end Go.Ev

namespace Go.Ev
def RepVs (w : World) : (l : List (Nat × ES)) → EArgs2 l → List Value → Prop
  | [], _, [] => True
  | (_, .val g k) :: l, x, v :: vs => RepV w (fun _ => True) g k x.1 v ∧ RepVs w l x.2 vs
  | _, _, _ => False
abbrev qBool : Sp := ⟨1, [(0, .val false .bool)], [], []⟩
theorem repVs_slots {w : World} {ok : Nat → Prop} {G : Gh} (hok : ∀ i, ok i) : ∀ {l : List (Nat × ES)} {x : EArgs2 l} {vs : List Value}, RepVs w l x vs → RepSlots w ok G (mkSl l x) vs
  | [], _, [], _ => trivial
  | (_, .val g k) :: l, x, v :: vs, h => ⟨mkS_rep (h.1.trans fun _ _ _ hv => ⟨hok _, hv⟩), repVs_slots hok h.2⟩
  | [], _, _ :: _, h => h.elim
  | (_, .val _ _) :: _, _, [], h => h.elim
  | (_, .rp _) :: _, _, vs, h | (_, .mix _ _) :: _, _, vs, h | (_, .fix _) :: _, _, vs, h => by cases vs <;> exact h.elim
theorem law_callsN {P : Program} {f : FuncId} {n : Nat} {env : List (Nat × ES)} {F : (Sp.mk n env [] []).T → Option qBool.T} (hc : FnS P f ⟨n, env, [], []⟩ qBool F) {x : EArgs2 env} (hF : F (x, (), ()) = some ((true, ()), (), ())) {vals : List Value} {w : World}
    (hra : RepVs w env x vals) : Calls P f vals.toArray w fun e w' => e = .returned (.bool true) ∧ RowKit.Below w.heap.size w w' := by
  let C0 : Cx := ⟨fun _ => False, fun _ => False, fun _ => False, w, fun _ => none, fun _ => none, fun _ _ => undef⟩
  let G0 : Gh := ⟨fun _ => none, fun _ => none, fun _ => [], fun _ _ => undef⟩
  have hwr : ∀ i, ¬ G0.wr i := by
    rintro i (⟨b, base, hb⟩ | ⟨id, ai, base, m, h1, _⟩)
    · cases hb
    · cases h1
  have hin : InS C0 G0 ⟨n, env, [], []⟩ (x, (), ()) vals w := by
    refine ⟨⟨fun b p h => (by cases h), fun _ _ h => (by cases h), fun b ls h => (by cases h), fun _ _ h => (by cases h), fun i h => (hwr i h).elim, fun _ _ _ _ _ _ _ _ h => (by cases h), fun _ _ _ _ _ _ _ _ _ _ h => (by cases h), fun _ _ _ _ _ _ _ h => (by cases h), fun _ _ _ h => (by cases h), fun _ => by simp [Gh.inner, G0], fun _ _ _ b h => by simp [Gh.inner, G0] at h, fun _ b h => by simp [Gh.inner, G0] at h, fun _ h => h.elim, Nat.le_refl _, fun _ _ h => (by cases h), fun _ _ h => (by cases h), fun _ _ h => (by cases h), fun _ _ h => (by cases h), rfl⟩,
      repVs_slots (fun i => ⟨fun h => h, hwr i⟩) hra, rfl, fun _ _ h => (by cases h), fun _ _ _ h => (by cases h)⟩
  refine (hc.2 C0 G0 w (x, (), ()) _ vals hF hin).mono fun e w' he => ?_
  obtain ⟨vs, G', rfl, ho⟩ := he
  have hfr := ho.fr
  refine ⟨?_, ⟨hfr.os, hfr.tape, hfr.output, hfr.size, fun k hk => hfr.block k hk fun _ h => h⟩⟩
  have hs := ho.slots
  cases vs with
  | nil => exact hs.elim
  | cons u us =>
    cases us with
    | cons _ _ => exact hs.2.elim
    | nil =>
      have : u = .bool true := hs.1
      rw [this]; rfl
end Go.Ev

namespace Go.Ev
theorem wrap_id {x : Int} (h : -9223372036854775808 ≤ x) (h' : x ≤ 9223372036854775807) : IntKind.wrap .i64 x = x := by
  rw [IntKind.wrap_i64]; omega
def foldE {α σ B : Type} (f : Nat → σ → α → σ ⊕ B) (out : σ → B) : Nat → List α → σ → B
  | _, [], s => out s
  | i, d :: l, s => match f i s d with
    | .inl s' => foldE f out (i + 1) l s'
    | .inr b => b
theorem lim_fold {A B α σ : Type} {step : A → Option (A ⊕ B)} (l0 : List α) (mk : Nat → σ → A) (f : Nat → σ → α → σ ⊕ B) (out : σ → B) (I : Nat → σ → Prop)
    (h1 : ∀ i s d, I i s → l0[i]? = some d → step (mk i s) = some (match f i s d with | .inl s' => .inl (mk (i + 1) s') | .inr b => .inr b))
    (h2 : ∀ s, I l0.length s → step (mk l0.length s) = some (.inr (out s)))
    (hI : ∀ i s d s', I i s → l0[i]? = some d → f i s d = .inl s' → I (i + 1) s') :
    ∀ (l : List α) (i : Nat) (s : σ), I i s → l0.drop i = l → i ≤ l0.length → lim step (mk i s) = some (foldE f out i l s)
  | [], i, s, hi, hd, hle => by
    have : i = l0.length := by have := congrArg List.length hd; simp at this; omega
    subst this
    rw [lim_eq, h2 s hi]; rfl
  | d :: l, i, s, hi, hd, hle => by
    have hlt : i < l0.length := by have := congrArg List.length hd; simp at this; omega
    have hget : l0[i]? = some d := by
      have := congrArg (·[0]?) hd
      simpa using this
    have hd' : l0.drop (i + 1) = l := by
      rw [← List.drop_drop, hd]; rfl
    rw [lim_eq, h1 i s d hi hget]
    unfold foldE
    cases hf : f i s d with
    | inr b => rfl
    | inl s' =>
      simp only
      exact lim_fold l0 mk f out I h1 h2 hI l (i + 1) s' (hI i s d s' hi hget hf) hd' hlt
theorem getD_of {α : Type} {l : List α} {i : Nat} {d x : α} (h : l[i]? = some x) : l.getD i d = x := by rw [List.getD_eq_getElem?_getD, h]; rfl
theorem lt_of_get {α : Type} {l : List α} {i : Nat} {x : α} (h : l[i]? = some x) : i < l.length := (List.getElem?_eq_some_iff.1 h).1
theorem ib_nat {i n : Nat} (h : i < n) : ib (i : Int) n = true := by simp [ib, h]
theorem dec_lt {i n : Nat} (h : i < n) : decide ((i : Int) < (n : Int)) = true := by simp [h]
theorem dec_self {n : Nat} : decide ((n : Int) < (n : Int)) = false := by simp
theorem wrap_succ {i n : Nat} (h : i < n) (hn : n ≤ maxLen) : IntKind.wrap .i64 ((i : Int) + 1) = ((i + 1 : Nat) : Int) := by
  simp only [maxLen] at hn
  rw [wrap_id (by omega) (by omega)]; omega
end Go.Ev

namespace Go.Ev
theorem lim_any {A B α : Type} {step : A → Option (A ⊕ B)} (l : List α) (mk : Nat → A) (p : α → Bool) (hit out : B)
    (h1 : ∀ i d, l[i]? = some d → step (mk i) = some (bif p d then .inr hit else .inl (mk (i + 1)))) (h2 : step (mk l.length) = some (.inr out)) : lim step (mk 0) = some (bif l.any p then hit else out) := by
  have key : ∀ (r : List α) (i : Nat), l.drop i = r → i ≤ l.length → lim step (mk i) = some (bif r.any p then hit else out) := by
    intro r
    induction r with
    | nil =>
      intro i hd hle
      have : i = l.length := by have := congrArg List.length hd; simp at this; omega
      subst this
      rw [lim_eq, h2]; rfl
    | cons d r ih =>
      intro i hd hle
      have hlt : i < l.length := by have := congrArg List.length hd; simp at this; omega
      have hg : l[i]? = some d := by
        have := congrArg (·[0]?) hd
        simpa using this
      rw [lim_eq, h1 i d hg]
      cases hp : p d
      · simp only [cond_false]
        rw [ih (i + 1) (by rw [← List.drop_drop, hd]; rfl) hlt]
        simp [hp]
      · simp [hp]
  exact key l 0 rfl (Nat.zero_le _)
theorem lim_copy {A B α : Type} {step : A → Option (A ⊕ B)} (l : List α) (mk : Nat → List α → A) (out : List α → B) (z : α)
    (h1 : ∀ i acc d, acc.length = l.length → l[i]? = some d → step (mk i acc) = some (.inl (mk (i + 1) (acc.set i d)))) (h2 : ∀ acc, step (mk l.length acc) = some (.inr (out acc))) :
    lim step (mk 0 (List.replicate l.length z)) = some (out l) := by
  have key : ∀ (r : List α) (i : Nat) (acc : List α), l.drop i = r → i ≤ l.length → acc.length = l.length → acc.take i = l.take i → lim step (mk i acc) = some (out l) := by
    intro r
    induction r with
    | nil =>
      intro i acc hd hle hn ht
      have : i = l.length := by have := congrArg List.length hd; simp at this; omega
      subst this
      rw [List.take_of_length_le (by omega), List.take_of_length_le (Nat.le_refl _)] at ht
      rw [lim_eq, h2, ht]
    | cons d r ih =>
      intro i acc hd hle hn ht
      have hlt : i < l.length := by have := congrArg List.length hd; simp at this; omega
      have hg : l[i]? = some d := by
        have := congrArg (·[0]?) hd
        simpa using this
      rw [lim_eq, h1 i acc d hn hg]
      refine ih (i + 1) _ (by rw [← List.drop_drop, hd]; rfl) hlt (by simp [hn]) ?_
      rw [List.take_add_one, List.take_add_one, List.getElem?_set_self (by omega), hg, List.take_set_of_le (Nat.le_refl i), ht]
  exact key l 0 _ rfl (Nat.zero_le _) (by simp) (by simp)
end Go.Ev
