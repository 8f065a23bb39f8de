import PyProof.Rows.All
import Wide.All
import OpenK.AllK
import Wide.FinOn
import KE.GoesMore
import HandS.ForMost
import HandS.Walk
import HandS.Zip
import KE.KRevSl
import KE.KTupSum
import HandS.TupAny
import HandS.Exc
import HandS.TryOnly
import HandS.ExcOwn
import HandS.WordsExc
import HandS.Defaults
import HandS.More
import HandS.Conv
import HandS.Star
import HandS.Style
import HandS.Small
import HandS.Flow
import HandS.IsInst
import HandS.Wide
import HandS.WideBits
import HandS.HeadHook1
import HandS.HeadHook2
import HandS.ExcInit
import HandS.ExcIs
import HandS.ExcField
import HandS.Lambda
import KE.KExcIs
import KE.KExcSuper
import PyProof.Rows.ReprR
import PyProof.Rows.RegFStrParts
import HandS.Finally
import HandS.HeadHook4
import HandS.Head0
import HandS.Head1
import HandS.Head2
import HandS.HeadWalk
import PySem.Challenge.RW_boxparts_k57_whole_boxes_that_are_watche
/-! Greene's theorem for row insertion, and that elementary exchanges keep the lines. Core Lean. -/
set_option Elab.async false
set_option linter.all false
namespace K57
/-! ### row insertion -/
def rowIns : List Int → Int → List Int × Option Int
  | [], x => ([x], none)
  | r :: rs, x => if x < r then (x :: rs, some r) else (r :: (rowIns rs x).1, (rowIns rs x).2)
def ins : List (List Int) → Int → List (List Int)
  | [], x => [[x]]
  | r :: rs, x => match (rowIns r x).2 with
    | none => (rowIns r x).1 :: rs
    | some b => (rowIns r x).1 :: ins rs b
/-- the lines of a word -/
def Ln (w : List Int) : List (List Int) := w.foldl ins []
theorem P_snoc (w : List Int) (x : Int) : Ln (w ++ [x]) = ins (Ln w) x := by simp [Ln, List.foldl_append]

/-! ### coloured words: colour 0 is none -/
abbrev CW := List (Int × Nat)
def OkC (c : CW) : Prop := c.Pairwise fun p q => p.2 = q.2 → p.2 ≠ 0 → p.1 ≤ q.1
def cnt (c : CW) : Nat := c.countP fun p => decide (p.2 ≠ 0)
structure FamC (k n : Nat) (w : List Int) (c : CW) : Prop where
  fst : c.map Prod.fst = w
  le : ∀ p ∈ c, p.2 ≤ k
  ok : OkC c
  n : n ≤ cnt c
def Fam (k n : Nat) (w : List Int) : Prop := ∃ c, FamC k n w c
theorem cnt_append (a b : CW) : cnt (a ++ b) = cnt a + cnt b := by simp [cnt, List.countP_append]
theorem cnt_cons (p : Int × Nat) (b : CW) : cnt (p :: b) = (if p.2 ≠ 0 then 1 else 0) + cnt b := by
  simp only [cnt, List.countP_cons, decide_eq_true_eq]; omega

theorem okC_append {a b : CW} : OkC (a ++ b) ↔ OkC a ∧ OkC b ∧ ∀ p ∈ a, ∀ q ∈ b, p.2 = q.2 → p.2 ≠ 0 → p.1 ≤ q.1 := by
  simp only [OkC, List.pairwise_append]
theorem okC_cons {p : Int × Nat} {b : CW} : OkC (p :: b) ↔ (∀ q ∈ b, p.2 = q.2 → p.2 ≠ 0 → p.1 ≤ q.1) ∧ OkC b := by
  simp only [OkC, List.pairwise_cons]
theorem okC_nil : OkC [] := List.Pairwise.nil

/-- exchange two colours -/
def sw (i j : Nat) (c : CW) : CW := c.map fun p => (p.1, if p.2 = i then j else if p.2 = j then i else p.2)
theorem sw_fst (i j : Nat) (c : CW) : (sw i j c).map Prod.fst = c.map Prod.fst := by simp [sw]
theorem sw_cnt {i j : Nat} (hi : i ≠ 0) (hj : j ≠ 0) (c : CW) : cnt (sw i j c) = cnt c := by
  induction c with
  | nil => rfl
  | cons p c ih =>
    have e : sw i j (p :: c) = (p.1, if p.2 = i then j else if p.2 = j then i else p.2) :: sw i j c := rfl
    rw [e, cnt_cons, cnt_cons, ih]
    congr 1
    by_cases h1 : p.2 = i
    · simp [h1, hi, hj]
    · by_cases h2 : p.2 = j
      · have hji : j ≠ i := fun z => h1 (h2.trans z)
        simp [h2, hi, hj, hji]
      · simp [h1, h2]
theorem sw_ok {i j : Nat} (hi : i ≠ 0) (hj : j ≠ 0) {c : CW} (h : OkC c) : OkC (sw i j c) := by
  unfold sw OkC
  rw [List.pairwise_map]
  refine List.Pairwise.imp ?_ h
  intro p q hpq e0 e1
  apply hpq
  · revert e0; dsimp only; split <;> split <;> (try split) <;> (try split) <;> omega
  · intro z
    apply e1
    dsimp only
    rw [if_neg (by omega), if_neg (by omega)]
    exact z
theorem mem_sw {i j : Nat} {c : CW} {q : Int × Nat} (h : q ∈ sw i j c) : ∃ q0 ∈ c, q.1 = q0.1 ∧ q.2 = (if q0.2 = i then j else if q0.2 = j then i else q0.2) := by
  obtain ⟨q0, h0, rfl⟩ := List.mem_map.mp h
  exact ⟨q0, h0, rfl, rfl⟩
theorem sw_le {i j k : Nat} {c : CW} (hi : i ≤ k) (hj : j ≤ k) (h : ∀ p ∈ c, p.2 ≤ k) : ∀ p ∈ sw i j c, p.2 ≤ k := by
  intro p hp
  obtain ⟨q0, h0, _, e⟩ := mem_sw hp
  have := h q0 h0
  rw [e]; split
  · exact hj
  · split <;> omega

theorem fst_split {u s v : List Int} {c : CW} (h : c.map Prod.fst = u ++ s ++ v) : ∃ cu cs cv, c = cu ++ cs ++ cv ∧ cu.map Prod.fst = u ∧ cs.map Prod.fst = s ∧ cv.map Prod.fst = v := by
  obtain ⟨c1, cv, rfl, h1, h2⟩ := List.map_eq_append_iff.mp h
  obtain ⟨cu, cs, rfl, h3, h4⟩ := List.map_eq_append_iff.mp h1
  exact ⟨cu, cs, cv, rfl, h3, h4, h2⟩
theorem fst3 {a b c : Int} {cs : CW} (h : cs.map Prod.fst = [a, b, c]) : ∃ i j l, cs = [(a, i), (b, j), (c, l)] := by
  match cs, h with
  | [p, q, r], h =>
    obtain ⟨a', i⟩ := p; obtain ⟨b', j⟩ := q; obtain ⟨c', l⟩ := r
    simp at h
    obtain ⟨rfl, rfl, rfl⟩ := h
    exact ⟨i, j, l, rfl⟩
theorem fst2 {a b : Int} {cs : CW} (h : cs.map Prod.fst = [a, b]) : ∃ i j, cs = [(a, i), (b, j)] := by
  match cs, h with
  | [p, q], h =>
    obtain ⟨a', i⟩ := p; obtain ⟨b', j⟩ := q
    simp at h
    obtain ⟨rfl, rfl⟩ := h
    exact ⟨i, j, rfl⟩

/-- a fall undone loses nothing -/
theorem fam_down {k n : Nat} {u v : List Int} {a b : Int} (hab : b < a) (h : Fam k n (u ++ [a, b] ++ v)) : Fam k n (u ++ [b, a] ++ v) := by
  obtain ⟨c, hf, hl, ho, hn⟩ := h
  obtain ⟨cu, cs, cv, rfl, h1, h2, h3⟩ := fst_split hf
  obtain ⟨i, j, rfl⟩ := fst2 h2
  refine ⟨cu ++ [(b, j), (a, i)] ++ cv, ?_, ?_, ?_, ?_⟩
  · simp [h1, h3]
  · intro p hp
    apply hl p
    simp only [List.mem_append, List.mem_cons, List.not_mem_nil, or_false] at hp ⊢
    rcases hp with (hp | rfl | rfl) | hp
    · exact .inl (.inl hp)
    · exact .inl (.inr (.inr rfl))
    · exact .inl (.inr (.inl rfl))
    · exact .inr hp
  · simp only [okC_append, okC_cons, okC_nil, List.mem_append, List.mem_cons, List.not_mem_nil, or_false] at ho ⊢
    obtain ⟨⟨o1, ⟨o2, o3, _⟩, o4⟩, o5, o6⟩ := ho
    refine ⟨⟨o1, ⟨?_, ?_, trivial⟩, ?_⟩, o5, ?_⟩
    · rintro q rfl e0 _; dsimp only at *; omega
    · intro q hq; exact hq.elim
    · rintro p hp q (rfl | rfl)
      · exact o4 p hp _ (.inr rfl)
      · exact o4 p hp _ (.inl rfl)
    · rintro p (hp | rfl | rfl) q hq
      · exact o6 p (.inl hp) q hq
      · exact o6 _ (.inr (.inr rfl)) q hq
      · exact o6 _ (.inr (.inl rfl)) q hq
  · rw [cnt_append, cnt_append, cnt_cons, cnt_cons] at hn ⊢
    omega

/-- yxz to yzx, x < y ≤ z -/
theorem fam_k1 {k n : Nat} {u v : List Int} {x y z : Int} (hxy : x < y) (hyz : y ≤ z) (h : Fam k n (u ++ [y, x, z] ++ v)) : Fam k n (u ++ [y, z, x] ++ v) := by
  obtain ⟨c, hf, hl, ho, hn⟩ := h
  obtain ⟨cu, cs, cv, rfl, h1, h2, h3⟩ := fst_split hf
  obtain ⟨i, j, l, rfl⟩ := fst3 h2
  simp only [okC_append, okC_cons, okC_nil, List.mem_append, List.mem_cons, List.not_mem_nil, or_false] at ho
  obtain ⟨⟨o1, ⟨o2, o3, _⟩, o4⟩, o5, o6⟩ := ho
  have hi : i ≤ k := hl (y, i) (by simp)
  have hj : j ≤ k := hl (x, j) (by simp)
  have hz : l ≤ k := hl (z, l) (by simp)
  have hu : ∀ p ∈ cu, p.2 ≤ k := fun p hp => hl p (by simp [hp])
  have hv : ∀ p ∈ cv, p.2 ≤ k := fun p hp => hl p (by simp [hp])
  rw [cnt_append, cnt_append, cnt_cons, cnt_cons, cnt_cons] at hn
  by_cases hjl : j = l ∧ j ≠ 0
  · obtain ⟨rfl, j0⟩ := hjl
    have hij : i ≠ j := fun e => by
      have := o2 (x, j) (.inl rfl) e (by rw [e]; exact j0)
      dsimp only at this; omega
    by_cases i0 : i = 0
    · subst i0
      refine ⟨cu ++ [(y, j), (z, j), (x, 0)] ++ cv, by simp [h1, h3], ?_, ?_, ?_⟩
      · intro p hp
        simp only [List.mem_append, List.mem_cons, List.not_mem_nil, or_false] at hp
        rcases hp with (hp | rfl | rfl | rfl) | hp
        · exact hu p hp
        · exact hj
        · exact hj
        · exact Nat.zero_le _
        · exact hv p hp
      · simp only [okC_append, okC_cons, okC_nil, List.mem_append, List.mem_cons, List.not_mem_nil, or_false]
        refine ⟨⟨o1, ⟨?_, ?_, fun q hq => hq.elim, trivial⟩, ?_⟩, o5, ?_⟩
        · rintro q (rfl | rfl) e0 e1
          · exact hyz
          · exact absurd e0 j0
        · rintro q rfl e0 e1
          exact absurd e0 j0
        · rintro p hp q (rfl | rfl | rfl) e0 e1
          · have := o4 p hp (x, j) (.inr (.inl rfl)) e0 e1
            dsimp only at this ⊢; omega
          · exact o4 p hp _ (.inr (.inr rfl)) e0 e1
          · exact absurd e0 e1
        · rintro p (hp | rfl | rfl | rfl) q hq e0 e1
          · exact o6 p (.inl hp) q hq e0 e1
          · have := o6 (z, j) (.inr (.inr (.inr rfl))) q hq e0 e1
            dsimp only at this ⊢; omega
          · exact o6 _ (.inr (.inr (.inr rfl))) q hq e0 e1
          · exact absurd rfl e1
      · rw [cnt_append, cnt_append, cnt_cons, cnt_cons, cnt_cons]
        simp only [j0, ne_eq, not_true, not_false_eq_true, if_true, if_false] at hn ⊢
        omega
    · refine ⟨cu ++ [(y, i), (z, i), (x, j)] ++ sw i j cv, by simp [h1, h3, sw_fst], ?_, ?_, ?_⟩
      · intro p hp
        simp only [List.mem_append, List.mem_cons, List.not_mem_nil, or_false] at hp
        rcases hp with (hp | rfl | rfl | rfl) | hp
        · exact hu p hp
        · exact hi
        · exact hi
        · exact hj
        · exact sw_le hi hj hv p hp
      · simp only [okC_append, okC_cons, okC_nil, List.mem_append, List.mem_cons, List.not_mem_nil, or_false]
        refine ⟨⟨o1, ⟨?_, ?_, fun q hq => hq.elim, trivial⟩, ?_⟩, sw_ok i0 j0 o5, ?_⟩
        · rintro q (rfl | rfl) e0 e1
          · exact hyz
          · exact absurd e0 hij
        · rintro q rfl e0 e1
          exact absurd e0 hij
        · rintro p hp q (rfl | rfl | rfl) e0 e1
          · exact o4 p hp _ (.inl rfl) e0 e1
          · have := o4 p hp (y, i) (.inl rfl) e0 e1
            dsimp only at this ⊢; omega
          · exact o4 p hp _ (.inr (.inl rfl)) e0 e1
        · rintro p hp q hq e0 e1
          obtain ⟨q0, hq0, eq1, eq2⟩ := mem_sw hq
          rw [eq1]
          rw [eq2] at e0
          have g6 := fun p hp => o6 p hp q0 hq0
          rcases hp with hp | rfl | rfl | rfl
          · by_cases a1 : q0.2 = i
            · rw [if_pos a1] at e0
              have := g6 (y, i) (.inr (.inl rfl)) a1.symm i0
              have w2 := o4 p hp (x, j) (.inr (.inl rfl)) e0 e1
              dsimp only at this w2; omega
            · rw [if_neg a1] at e0
              by_cases a2 : q0.2 = j
              · rw [if_pos a2] at e0
                have := g6 (z, j) (.inr (.inr (.inr rfl))) a2.symm j0
                have w2 := o4 p hp (y, i) (.inl rfl) e0 e1
                dsimp only at this w2; omega
              · rw [if_neg a2] at e0
                exact g6 p (.inl hp) e0 e1
          · dsimp only at e0 e1 ⊢
            by_cases a1 : q0.2 = i
            · rw [if_pos a1] at e0; omega
            · rw [if_neg a1] at e0
              by_cases a2 : q0.2 = j
              · have := g6 (z, j) (.inr (.inr (.inr rfl))) a2.symm j0
                dsimp only at this; omega
              · rw [if_neg a2] at e0; omega
          · dsimp only at e0 e1 ⊢
            by_cases a1 : q0.2 = i
            · rw [if_pos a1] at e0; omega
            · rw [if_neg a1] at e0
              by_cases a2 : q0.2 = j
              · have := g6 (z, j) (.inr (.inr (.inr rfl))) a2.symm j0
                dsimp only at this; omega
              · rw [if_neg a2] at e0; omega
          · dsimp only at e0 e1 ⊢
            by_cases a1 : q0.2 = i
            · have := g6 (y, i) (.inr (.inl rfl)) a1.symm i0
              dsimp only at this; omega
            · rw [if_neg a1] at e0
              by_cases a2 : q0.2 = j
              · rw [if_pos a2] at e0; omega
              · rw [if_neg a2] at e0; omega
      · rw [cnt_append, cnt_append, cnt_cons, cnt_cons, cnt_cons, sw_cnt i0 j0]
        simp only [i0, j0, ne_eq, not_true, not_false_eq_true, if_true, if_false] at hn ⊢
        omega
  · refine ⟨cu ++ [(y, i), (z, l), (x, j)] ++ cv, by simp [h1, h3], ?_, ?_, ?_⟩
    · intro p hp
      simp only [List.mem_append, List.mem_cons, List.not_mem_nil, or_false] at hp
      rcases hp with (hp | rfl | rfl | rfl) | hp
      · exact hu p hp
      · exact hi
      · exact hz
      · exact hj
      · exact hv p hp
    · simp only [okC_append, okC_cons, okC_nil, List.mem_append, List.mem_cons, List.not_mem_nil, or_false]
      refine ⟨⟨o1, ⟨?_, ?_, fun q hq => hq.elim, trivial⟩, ?_⟩, o5, ?_⟩
      · rintro q (rfl | rfl)
        · exact o2 _ (.inr rfl)
        · exact o2 _ (.inl rfl)
      · rintro q rfl e0 e1
        dsimp only at e0 e1
        exact absurd ⟨e0.symm, fun q => e1 (e0.trans q)⟩ hjl
      · rintro p hp q (rfl | rfl | rfl)
        · exact o4 p hp _ (.inl rfl)
        · exact o4 p hp _ (.inr (.inr rfl))
        · exact o4 p hp _ (.inr (.inl rfl))
      · rintro p (hp | rfl | rfl | rfl) q hq
        · exact o6 p (.inl hp) q hq
        · exact o6 _ (.inr (.inl rfl)) q hq
        · exact o6 _ (.inr (.inr (.inr rfl))) q hq
        · exact o6 _ (.inr (.inr (.inl rfl))) q hq
    · rw [cnt_append, cnt_append, cnt_cons, cnt_cons, cnt_cons]
      omega

/-- xzy to zxy, x ≤ y < z -/
theorem fam_k2 {k n : Nat} {u v : List Int} {x y z : Int} (hxy : x ≤ y) (hyz : y < z) (h : Fam k n (u ++ [x, z, y] ++ v)) : Fam k n (u ++ [z, x, y] ++ v) := by
  obtain ⟨c, hf, hl, ho, hn⟩ := h
  obtain ⟨cu, cs, cv, rfl, h1, h2, h3⟩ := fst_split hf
  obtain ⟨j, l, i, rfl⟩ := fst3 h2
  simp only [okC_append, okC_cons, okC_nil, List.mem_append, List.mem_cons, List.not_mem_nil, or_false] at ho
  obtain ⟨⟨o1, ⟨o2, o3, _⟩, o4⟩, o5, o6⟩ := ho
  have hi : i ≤ k := hl (y, i) (by simp)
  have hj : j ≤ k := hl (x, j) (by simp)
  have hz : l ≤ k := hl (z, l) (by simp)
  have hu : ∀ p ∈ cu, p.2 ≤ k := fun p hp => hl p (by simp [hp])
  have hv : ∀ p ∈ cv, p.2 ≤ k := fun p hp => hl p (by simp [hp])
  rw [cnt_append, cnt_append, cnt_cons, cnt_cons, cnt_cons] at hn
  by_cases hjl : j = l ∧ j ≠ 0
  · obtain ⟨rfl, j0⟩ := hjl
    have hij : i ≠ j := fun e => by
      have := o3 (y, i) rfl e.symm j0
      dsimp only at this; omega
    by_cases i0 : i = 0
    · subst i0
      refine ⟨cu ++ [(z, 0), (x, j), (y, j)] ++ cv, by simp [h1, h3], ?_, ?_, ?_⟩
      · intro p hp
        simp only [List.mem_append, List.mem_cons, List.not_mem_nil, or_false] at hp
        rcases hp with (hp | rfl | rfl | rfl) | hp
        · exact hu p hp
        · exact Nat.zero_le _
        · exact hj
        · exact hj
        · exact hv p hp
      · simp only [okC_append, okC_cons, okC_nil, List.mem_append, List.mem_cons, List.not_mem_nil, or_false]
        refine ⟨⟨o1, ⟨?_, ?_, fun q hq => hq.elim, trivial⟩, ?_⟩, o5, ?_⟩
        · rintro q _ e0 e1
          exact absurd rfl e1
        · rintro q rfl e0 e1
          exact hxy
        · rintro p hp q (rfl | rfl | rfl) e0 e1
          · exact absurd e0 e1
          · exact o4 p hp _ (.inl rfl) e0 e1
          · have := o4 p hp (x, j) (.inl rfl) e0 e1
            dsimp only at this ⊢; omega
        · rintro p (hp | rfl | rfl | rfl) q hq e0 e1
          · exact o6 p (.inl hp) q hq e0 e1
          · exact absurd rfl e1
          · exact o6 _ (.inr (.inl rfl)) q hq e0 e1
          · have := o6 (z, j) (.inr (.inr (.inl rfl))) q hq e0 e1
            dsimp only at this ⊢; omega
      · rw [cnt_append, cnt_append, cnt_cons, cnt_cons, cnt_cons]
        simp only [j0, ne_eq, not_true, not_false_eq_true, if_true, if_false] at hn ⊢
        omega
    · refine ⟨cu ++ [(z, i), (x, j), (y, j)] ++ sw i j cv, by simp [h1, h3, sw_fst], ?_, ?_, ?_⟩
      · intro p hp
        simp only [List.mem_append, List.mem_cons, List.not_mem_nil, or_false] at hp
        rcases hp with (hp | rfl | rfl | rfl) | hp
        · exact hu p hp
        · exact hi
        · exact hj
        · exact hj
        · exact sw_le hi hj hv p hp
      · simp only [okC_append, okC_cons, okC_nil, List.mem_append, List.mem_cons, List.not_mem_nil, or_false]
        refine ⟨⟨o1, ⟨?_, ?_, fun q hq => hq.elim, trivial⟩, ?_⟩, sw_ok i0 j0 o5, ?_⟩
        · rintro q (rfl | rfl) e0 e1
          · exact absurd e0 hij
          · exact absurd e0 hij
        · rintro q rfl e0 e1
          exact hxy
        · rintro p hp q (rfl | rfl | rfl) e0 e1
          · have := o4 p hp (y, i) (.inr (.inr rfl)) e0 e1
            dsimp only at this ⊢; omega
          · exact o4 p hp _ (.inl rfl) e0 e1
          · have := o4 p hp (x, j) (.inl rfl) e0 e1
            dsimp only at this ⊢; omega
        · rintro p hp q hq e0 e1
          obtain ⟨q0, hq0, eq1, eq2⟩ := mem_sw hq
          rw [eq1]
          rw [eq2] at e0
          have g6 := fun p hp => o6 p hp q0 hq0
          rcases hp with hp | rfl | rfl | rfl
          · by_cases a1 : q0.2 = i
            · rw [if_pos a1] at e0
              have := g6 (y, i) (.inr (.inr (.inr rfl))) a1.symm i0
              have w2 := o4 p hp (x, j) (.inl rfl) e0 e1
              dsimp only at this w2; omega
            · rw [if_neg a1] at e0
              by_cases a2 : q0.2 = j
              · rw [if_pos a2] at e0
                have := g6 (z, j) (.inr (.inr (.inl rfl))) a2.symm j0
                have w2 := o4 p hp (y, i) (.inr (.inr rfl)) e0 e1
                dsimp only at this w2; omega
              · rw [if_neg a2] at e0
                exact g6 p (.inl hp) e0 e1
          · dsimp only at e0 e1 ⊢
            by_cases a1 : q0.2 = i
            · rw [if_pos a1] at e0; omega
            · rw [if_neg a1] at e0
              by_cases a2 : q0.2 = j
              · have := g6 (z, j) (.inr (.inr (.inl rfl))) a2.symm j0
                dsimp only at this; omega
              · rw [if_neg a2] at e0; omega
          · dsimp only at e0 e1 ⊢
            by_cases a1 : q0.2 = i
            · have := g6 (y, i) (.inr (.inr (.inr rfl))) a1.symm i0
              dsimp only at this; omega
            · rw [if_neg a1] at e0
              by_cases a2 : q0.2 = j
              · rw [if_pos a2] at e0; omega
              · rw [if_neg a2] at e0; omega
          · dsimp only at e0 e1 ⊢
            by_cases a1 : q0.2 = i
            · have := g6 (y, i) (.inr (.inr (.inr rfl))) a1.symm i0
              dsimp only at this; omega
            · rw [if_neg a1] at e0
              by_cases a2 : q0.2 = j
              · rw [if_pos a2] at e0; omega
              · rw [if_neg a2] at e0; omega
      · rw [cnt_append, cnt_append, cnt_cons, cnt_cons, cnt_cons, sw_cnt i0 j0]
        simp only [i0, j0, ne_eq, not_true, not_false_eq_true, if_true, if_false] at hn ⊢
        omega
  · refine ⟨cu ++ [(z, l), (x, j), (y, i)] ++ cv, by simp [h1, h3], ?_, ?_, ?_⟩
    · intro p hp
      simp only [List.mem_append, List.mem_cons, List.not_mem_nil, or_false] at hp
      rcases hp with (hp | rfl | rfl | rfl) | hp
      · exact hu p hp
      · exact hz
      · exact hj
      · exact hi
      · exact hv p hp
    · simp only [okC_append, okC_cons, okC_nil, List.mem_append, List.mem_cons, List.not_mem_nil, or_false]
      refine ⟨⟨o1, ⟨?_, ?_, fun q hq => hq.elim, trivial⟩, ?_⟩, o5, ?_⟩
      · rintro q (rfl | rfl) e0 e1
        · dsimp only at e0 e1
          exact absurd ⟨e0.symm, fun q => e1 (e0.trans q)⟩ hjl
        · exact o3 _ rfl e0 e1
      · rintro q rfl
        exact o2 _ (.inr rfl)
      · rintro p hp q (rfl | rfl | rfl)
        · exact o4 p hp _ (.inr (.inl rfl))
        · exact o4 p hp _ (.inl rfl)
        · exact o4 p hp _ (.inr (.inr rfl))
      · rintro p (hp | rfl | rfl | rfl) q hq
        · exact o6 p (.inl hp) q hq
        · exact o6 _ (.inr (.inr (.inl rfl))) q hq
        · exact o6 _ (.inr (.inl rfl)) q hq
        · exact o6 _ (.inr (.inr (.inr rfl))) q hq
    · rw [cnt_append, cnt_append, cnt_cons, cnt_cons, cnt_cons]
      omega

/-! ### words that are alike for all families, in all surroundings -/
def Eqv (s t : List Int) : Prop := ∀ u v k n, Fam k n (u ++ s ++ v) ↔ Fam k n (u ++ t ++ v)
theorem Eqv.refl (s : List Int) : Eqv s s := fun _ _ _ _ => Iff.rfl
theorem Eqv.symm {s t : List Int} (h : Eqv s t) : Eqv t s := fun u v k n => (h u v k n).symm
theorem Eqv.trans {s t r : List Int} (h : Eqv s t) (g : Eqv t r) : Eqv s r := fun u v k n => (h u v k n).trans (g u v k n)
theorem Eqv.ctx {s t : List Int} (h : Eqv s t) (a b : List Int) : Eqv (a ++ s ++ b) (a ++ t ++ b) := fun u v k n => by
  have := h (u ++ a) (b ++ v) k n
  simpa only [List.append_assoc] using this
theorem eqv_k1 {x y z : Int} (hxy : x < y) (hyz : y ≤ z) : Eqv [y, x, z] [y, z, x] := fun u v k n =>
  ⟨fam_k1 hxy hyz, fun h => by
    have e : u ++ [y, z, x] ++ v = (u ++ [y]) ++ [z, x] ++ v := by simp
    rw [e] at h
    have := fam_down (by omega) h
    simpa using this⟩
theorem eqv_k2 {x y z : Int} (hxy : x ≤ y) (hyz : y < z) : Eqv [x, z, y] [z, x, y] := fun u v k n =>
  ⟨fam_k2 hxy hyz, fun h => by
    have e : u ++ [z, x, y] ++ v = u ++ [z, x] ++ ([y] ++ v) := by simp
    rw [e] at h
    have := fam_down (by omega) h
    simpa using this⟩
theorem Eqv.fam {s t : List Int} (h : Eqv s t) (k n : Nat) : Fam k n s ↔ Fam k n t := by
  have := h [] [] k n
  simpa using this

/-! ### a letter pushed on a row -/
abbrev Srt (r : List Int) : Prop := r.Pairwise (· ≤ ·)
theorem rowIns_none {r : List Int} {x : Int} (h : (rowIns r x).2 = none) : (rowIns r x).1 = r ++ [x] ∧ ∀ a ∈ r, a ≤ x := by
  induction r with
  | nil => exact ⟨rfl, by simp⟩
  | cons a r ih =>
    unfold rowIns at h ⊢
    split at h
    · cases h
    · rename_i hx
      rw [if_neg hx]
      obtain ⟨h1, h2⟩ := ih h
      refine ⟨by rw [h1]; rfl, fun b hb => ?_⟩
      rcases List.mem_cons.mp hb with rfl | hb
      · omega
      · exact h2 b hb
/-- the row's front: x or the old front, and below what goes out -/
theorem rowIns_some {r : List Int} {x b : Int} (h : (rowIns r x).2 = some b) : ∃ r1 r2, r = r1 ++ b :: r2 ∧ (rowIns r x).1 = r1 ++ x :: r2 ∧ x < b ∧ ∀ a ∈ r1, a ≤ x := by
  induction r with
  | nil => cases h
  | cons a r ih =>
    unfold rowIns at h ⊢
    split at h
    · rename_i hx
      rw [if_pos hx]
      cases h
      exact ⟨[], r, rfl, rfl, hx, by simp⟩
    · rename_i hx
      rw [if_neg hx]
      obtain ⟨r1, r2, e1, e2, e3, e4⟩ := ih h
      refine ⟨a :: r1, r2, by rw [e1]; rfl, by rw [e2]; rfl, e3, fun c hc => ?_⟩
      rcases List.mem_cons.mp hc with rfl | hc
      · omega
      · exact e4 c hc
theorem rowIns_srt {r : List Int} (x : Int) (h : Srt r) : Srt (rowIns r x).1 := by
  cases e : (rowIns r x).2 with
  | none =>
    obtain ⟨h1, h2⟩ := rowIns_none e
    rw [h1]
    simp only [Srt, List.pairwise_append, List.pairwise_cons, List.mem_singleton]
    exact ⟨h, by simp, fun a ha b hb => by rw [hb]; exact h2 a ha⟩
  | some b =>
    obtain ⟨r1, r2, e1, e2, e3, e4⟩ := rowIns_some e
    rw [e2]
    rw [e1] at h
    simp only [Srt, List.pairwise_append, List.pairwise_cons, List.mem_cons] at h ⊢
    obtain ⟨h1, ⟨h2, h3⟩, h4⟩ := h
    refine ⟨h1, ⟨fun a ha => ?_, h3⟩, fun a ha c hc => ?_⟩
    · have := h2 a ha; omega
    · rcases hc with rfl | hc
      · exact e4 a ha
      · exact h4 a ha c (.inr hc)
/-- x goes back over a rising row above it -/
theorem eqv_over {x : Int} : ∀ (r : List Int) (b : Int), x < b → Srt (b :: r) → Eqv (b :: r ++ [x]) (b :: x :: r)
  | [], b, _, _ => Eqv.refl _
  | a :: r, b, hx, hs => by
    have hs2 : Srt (a :: r) := (List.pairwise_cons.mp hs).2
    have hba : b ≤ a := (List.pairwise_cons.mp hs).1 a List.mem_cons_self
    have ih := eqv_over (x := x) r a (by omega) hs2
    have h1 : Eqv (b :: a :: r ++ [x]) (b :: a :: x :: r) := by
      have := ih.ctx [b] []
      simpa using this
    have h2 : Eqv (b :: a :: x :: r) (b :: x :: a :: r) := by
      have := (eqv_k1 hx hba).symm.ctx [] r
      simpa using this
    exact h1.trans h2
/-- b goes ahead over a rising row below it, x behind -/
theorem eqv_ahead {b : Int} : ∀ (r : List Int) (x : Int) (r2 : List Int), (∀ a ∈ r, a ≤ x) → x < b → Srt r → Eqv (r ++ b :: x :: r2) (b :: r ++ x :: r2)
  | [], _, _, _, _, _ => Eqv.refl _
  | a :: r, x, r2, h, hx, hs => by
    obtain ⟨s1, s2⟩ := List.pairwise_cons.mp hs
    have ih := eqv_ahead r x r2 (fun c hc => h c (List.mem_cons_of_mem _ hc)) hx s2
    have h1 : Eqv (a :: r ++ b :: x :: r2) (a :: b :: r ++ x :: r2) := by
      have := ih.ctx [a] []
      simpa using this
    refine h1.trans ?_
    cases r with
    | nil =>
      have := (eqv_k2 (h a List.mem_cons_self) hx).ctx [] r2
      simpa using this
    | cons c r =>
      have hac : a ≤ c := s1 c List.mem_cons_self
      have hcb : c < b := by have := h c (List.mem_cons_of_mem _ List.mem_cons_self); omega
      have := (eqv_k2 hac hcb).ctx [] (r ++ x :: r2)
      simpa using this
theorem eqv_row {r : List Int} {x b : Int} (hs : Srt r) (h : (rowIns r x).2 = some b) : Eqv (r ++ [x]) (b :: (rowIns r x).1) := by
  obtain ⟨r1, r2, e1, e2, e3, e4⟩ := rowIns_some h
  rw [e2, e1]
  rw [e1] at hs
  have hs1 := (List.pairwise_append.mp hs).1
  have hs2 := (List.pairwise_append.mp hs).2.1
  have a1 : Eqv (r1 ++ (b :: r2 ++ [x]) ++ []) (r1 ++ (b :: x :: r2) ++ []) := (eqv_over r2 b e3 hs2).ctx r1 []
  have a2 := eqv_ahead r1 x r2 e4 e3 hs1
  have a3 : Eqv (r1 ++ b :: r2 ++ [x]) (r1 ++ b :: x :: r2) := by simpa using a1
  exact a3.trans (by simpa using a2)
/-- the lines from the last one on -/
def rdg : List (List Int) → List Int
  | [] => []
  | r :: rs => rdg rs ++ r
theorem eqv_ins : ∀ (T : List (List Int)) (x : Int), (∀ r ∈ T, Srt r) → Eqv (rdg T ++ [x]) (rdg (ins T x))
  | [], x, _ => Eqv.refl _
  | r :: rs, x, h => by
    have hr := h r List.mem_cons_self
    cases e : (rowIns r x).2 with
    | none =>
      have e1 := (rowIns_none e).1
      have e2 : ins (r :: rs) x = (rowIns r x).1 :: rs := by simp only [ins, e]
      rw [e2, e1]
      simp only [rdg, List.append_assoc]
      exact Eqv.refl _
    | some b =>
      have e2 : ins (r :: rs) x = (rowIns r x).1 :: ins rs b := by simp only [ins, e]
      rw [e2]
      have ih := eqv_ins rs b fun s hs => h s (List.mem_cons_of_mem _ hs)
      have a1 := (eqv_row hr e).ctx (rdg rs) []
      have a2 := ih.ctx [] (rowIns r x).1
      simp only [rdg, List.append_assoc, List.append_nil, List.nil_append, List.cons_append] at a1 a2 ⊢
      exact a1.trans a2
theorem ins_srt : ∀ (T : List (List Int)) (x : Int), (∀ r ∈ T, Srt r) → ∀ r ∈ ins T x, Srt r
  | [], x, _, r, hr => by
    have : r = [x] := by simpa [ins] using hr
    subst this
    simp [Srt]
  | r :: rs, x, h, s, hs => by
    have hr := h r List.mem_cons_self
    cases e : (rowIns r x).2 with
    | none =>
      have e2 : ins (r :: rs) x = (rowIns r x).1 :: rs := by simp only [ins, e]
      rw [e2] at hs
      rcases List.mem_cons.mp hs with rfl | hs
      · exact rowIns_srt x hr
      · exact h s (List.mem_cons_of_mem _ hs)
    | some b =>
      have e2 : ins (r :: rs) x = (rowIns r x).1 :: ins rs b := by simp only [ins, e]
      rw [e2] at hs
      rcases List.mem_cons.mp hs with rfl | hs
      · exact rowIns_srt x hr
      · exact ins_srt rs b (fun t ht => h t (List.mem_cons_of_mem _ ht)) s hs
/-- lists from the end -/
theorem snoc_ind {α : Type} {p : List α → Prop} (h0 : p []) (h1 : ∀ l a, p l → p (l ++ [a])) (l : List α) : p l := by
  have : ∀ m : List α, p m.reverse := by
    intro m
    induction m with
    | nil => exact h0
    | cons a m ih => rw [List.reverse_cons]; exact h1 _ _ ih
  have := this l.reverse
  rwa [List.reverse_reverse] at this
theorem P_srt (w : List Int) : ∀ r ∈ Ln w, Srt r := by
  induction w using snoc_ind with
  | h0 => intro r hr; cases hr
  | h1 w a ih => rw [P_snoc]; exact ins_srt _ _ ih
theorem eqv_P (w : List Int) : Eqv w (rdg (Ln w)) := by
  induction w using snoc_ind with
  | h0 => exact Eqv.refl _
  | h1 w a ih =>
    rw [P_snoc]
    have a1 := ih.ctx [] [a]
    simp only [List.nil_append] at a1
    exact a1.trans (eqv_ins _ _ (P_srt w))

/-! ### rising columns -/
def Dom : List Int → List Int → Prop
  | _, [] => True
  | [], _ :: _ => False
  | a :: r, b :: s => a < b ∧ Dom r s
theorem Dom.nil (r : List Int) : Dom r [] := by cases r <;> trivial
def Tab : List (List Int) → Prop
  | [] => True
  | r :: rs => Srt r ∧ Dom r (rs.headD []) ∧ Tab rs
theorem dom_bump : ∀ {r s : List Int} {x b : Int}, Dom r s → (rowIns r x).2 = some b → Dom (rowIns r x).1 s
  | [], _, _, _, _, h => by cases h
  | a :: r, [], _, _, _, _ => Dom.nil _
  | a :: r, c :: s, x, b, hd, h => by
    unfold rowIns at h ⊢
    obtain ⟨h1, h2⟩ := hd
    split at h
    · rename_i hx
      rw [if_pos hx]
      exact ⟨by omega, h2⟩
    · rename_i hx
      rw [if_neg hx]
      exact ⟨h1, dom_bump h2 h⟩
theorem dom_none : ∀ {r s : List Int} {x : Int}, Dom r s → Dom (r ++ [x]) s
  | _, [], _, _ => Dom.nil _
  | [], _ :: _, _, h => h.elim
  | a :: r, c :: s, x, ⟨h1, h2⟩ => ⟨h1, dom_none h2⟩
theorem rowIns_lt {a x : Int} {r : List Int} (h : x < a) : rowIns (a :: r) x = (x :: r, some a) := by simp only [rowIns, if_pos h]
theorem rowIns_ge {a x : Int} {r : List Int} (h : ¬ x < a) : rowIns (a :: r) x = (a :: (rowIns r x).1, (rowIns r x).2) := by simp only [rowIns, if_neg h]
theorem dom_ins : ∀ {r s : List Int} {x b : Int}, Dom r s → (rowIns r x).2 = some b → Dom (rowIns r x).1 (rowIns s b).1
  | [], _, _, _, _, h => by cases h
  | a :: r, s, x, b, hd, h => by
    by_cases hx : x < a
    · rw [rowIns_lt hx] at h ⊢
      cases h
      cases s with
      | nil => exact ⟨hx, Dom.nil _⟩
      | cons c s =>
        obtain ⟨h1, h2⟩ := hd
        rw [rowIns_lt h1]
        exact ⟨hx, h2⟩
    · rw [rowIns_ge hx] at h ⊢
      have h : (rowIns r x).2 = some b := h
      have hab : a < b := by
        obtain ⟨r1, r2, e1, e2, e3, e4⟩ := rowIns_some h
        omega
      cases s with
      | nil => exact ⟨hab, Dom.nil _⟩
      | cons c s =>
        obtain ⟨h1, h2⟩ := hd
        by_cases hbc : b < c
        · rw [rowIns_lt hbc]
          exact ⟨hab, dom_bump h2 h⟩
        · rw [rowIns_ge hbc]
          exact ⟨h1, dom_ins h2 h⟩
theorem head_ins (T : List (List Int)) (b : Int) : (ins T b).headD [] = (rowIns (T.headD []) b).1 := by
  cases T with
  | nil => rfl
  | cons r rs =>
    simp only [ins]
    cases (rowIns r b).2 <;> rfl
theorem tab_ins : ∀ {T : List (List Int)} (x : Int), Tab T → Tab (ins T x)
  | [], x, _ => ⟨by simp [Srt], Dom.nil _, trivial⟩
  | r :: rs, x, ⟨h1, h2, h3⟩ => by
    cases e : (rowIns r x).2 with
    | none =>
      have e2 : ins (r :: rs) x = (rowIns r x).1 :: rs := by simp only [ins, e]
      rw [e2]
      refine ⟨rowIns_srt x h1, ?_, h3⟩
      rw [(rowIns_none e).1]
      exact dom_none h2
    | some b =>
      have e2 : ins (r :: rs) x = (rowIns r x).1 :: ins rs b := by simp only [ins, e]
      rw [e2]
      refine ⟨rowIns_srt x h1, ?_, tab_ins b h3⟩
      rw [head_ins]
      exact dom_ins h2 e
theorem P_tab (w : List Int) : Tab (Ln w) := by
  induction w using snoc_ind with
  | h0 => trivial
  | h1 w a ih => rw [P_snoc]; exact tab_ins _ ih

/-! ### how many letters -/
/-- the boxes in the first k rows -/
def shp (k : Nat) (T : List (List Int)) : Nat := ((T.take k).map List.length).sum
theorem shp_cons (k : Nat) (r : List Int) (T : List (List Int)) : shp (k + 1) (r :: T) = r.length + shp k T := by simp [shp]
/-- the lines coloured, from the last one on -/
def rdc : List CW → CW
  | [] => []
  | r :: rs => rdc rs ++ r
theorem rdc_of : ∀ {T : List (List Int)} {c : CW}, c.map Prod.fst = rdg T → ∃ CT : List CW, CT.map (List.map Prod.fst) = T ∧ rdc CT = c
  | [], c, h => by
    have : c = [] := by simpa [rdg] using h
    exact ⟨[], rfl, this.symm⟩
  | r :: rs, c, h => by
    obtain ⟨c1, c2, rfl, h1, h2⟩ := List.map_eq_append_iff.mp (show c.map Prod.fst = rdg rs ++ r from h)
    obtain ⟨CT, h3, h4⟩ := rdc_of h1
    exact ⟨c2 :: CT, by simp [h2, h3], by simp [rdc, h4]⟩
/-- the first column, from the last row on -/
def col : List CW → CW
  | [] => []
  | r :: rs => col rs ++ r.take 1
theorem col_sub : ∀ CT : List CW, List.Sublist (col CT) (rdc CT)
  | [] => List.Sublist.refl _
  | r :: rs => List.Sublist.append (col_sub rs) (List.take_sublist 1 r)
theorem tails_sub : ∀ CT : List CW, List.Sublist (rdc (CT.map List.tail)) (rdc CT)
  | [] => List.Sublist.refl _
  | r :: rs => List.Sublist.append (tails_sub rs) (List.tail_sublist r)
theorem cnt_cut : ∀ CT : List CW, cnt (rdc CT) = cnt (col CT) + cnt (rdc (CT.map List.tail))
  | [] => rfl
  | r :: rs => by
    simp only [rdc, col, List.map_cons, cnt_append, cnt_cut rs]
    cases r with
    | nil => simp [cnt]
    | cons a r => simp only [List.take_succ_cons, List.take_zero, List.tail_cons, cnt_cons]; have : cnt [] = 0 := rfl; omega
/-- many different colours from 1 to k -/
theorem pigeon : ∀ (k : Nat) (l : List Nat), l.Nodup → (∀ x ∈ l, 1 ≤ x ∧ x ≤ k) → l.length ≤ k
  | 0, l, _, h => by
    cases l with
    | nil => exact Nat.le_refl _
    | cons a l => have := h a List.mem_cons_self; omega
  | k + 1, l, hn, h => by
    have h1 := pigeon k (l.filter (fun x => x ≠ k + 1)) (hn.filter _) (by
      intro x hx
      obtain ⟨hx1, hx2⟩ := List.mem_filter.mp hx
      have := h x hx1
      have hne : x ≠ k + 1 := by simpa using hx2
      omega)
    have h2 : l.length = (l.filter (fun x => x ≠ k + 1)).length + l.countP (fun x => x = k + 1) := by
      rw [← List.countP_eq_length_filter]
      rw [List.length_eq_countP_add_countP (fun x => decide (x ≠ k + 1))]
      congr 2
      funext x
      simp
    have h3 : l.countP (fun x => x = k + 1) ≤ 1 := by
      have := List.nodup_iff_count.mp hn (k + 1)
      simp only [List.count] at this
      exact this
    omega
theorem cnt_le_length (c : CW) : cnt c ≤ c.length := List.countP_le_length
/-- letters that fall all along have different colours -/
theorem cnt_falling {k : Nat} {c : CW} (ho : OkC c) (hl : ∀ p ∈ c, p.2 ≤ k) (hf : c.Pairwise fun p q => q.1 < p.1) : cnt c ≤ k := by
  have e : cnt c = ((c.map Prod.snd).filter (fun x => x ≠ 0)).length := by
    simp only [cnt, List.countP_eq_length_filter, List.filter_map, List.length_map]
    rfl
  rw [e]
  apply pigeon
  · rw [List.filter_map]
    apply List.pairwise_map.mpr
    refine List.pairwise_filter.mpr ?_
    have h2 := ho.and hf
    refine h2.imp ?_
    rintro p q ⟨g1, g2⟩ g3 g4 g5
    have := g1 g5 (by simpa using g3)
    omega
  · intro x hx
    obtain ⟨h1, h2⟩ := List.mem_filter.mp hx
    obtain ⟨p, hp, rfl⟩ := List.mem_map.mp h1
    have := hl p hp
    have : p.2 ≠ 0 := by simpa using h2
    omega
/-- the rows that are not empty are the first ones; in their first column the letters rise downward -/
theorem col_fall : ∀ (CT : List CW), Tab (CT.map (List.map Prod.fst)) → (col CT).Pairwise (fun p q => q.1 < p.1) ∧ (∀ a r rs, CT = (a :: r) :: rs → ∀ p ∈ col rs, a.1 < p.1) ∧ (∀ rs, CT = [] :: rs → col rs = [])
  | [], _ => ⟨List.Pairwise.nil, fun _ _ _ h => (by cases h), fun _ h => (by cases h)⟩
  | r :: rs, ⟨h1, h2, h3⟩ => by
    obtain ⟨i1, i2, i3⟩ := col_fall rs h3
    have key : ∀ a t, r = a :: t → ∀ p ∈ col rs, a.1 < p.1 := by
      rintro a t rfl p hp
      cases rs with
      | nil => cases hp
      | cons s ss =>
        cases s with
        | nil =>
          rw [show col ([] :: ss) = col ss by simp [col], i3 ss rfl] at hp
          cases hp
        | cons b s =>
          have hab : a.1 < b.1 := h2.1
          rw [show col ((b :: s) :: ss) = col ss ++ [b] by simp [col]] at hp
          rcases List.mem_append.mp hp with hp | hp
          · have := i2 b s ss rfl p hp; omega
          · rw [List.mem_singleton.mp hp]; exact hab
    refine ⟨?_, ?_, ?_⟩
    · simp only [col, List.pairwise_append]
      refine ⟨i1, ?_, ?_⟩
      · cases r <;> simp
      · cases r with
        | nil => simp
        | cons a t =>
          intro p hp q hq
          have : q = a := by simpa using hq
          rw [this]
          exact key a t rfl p hp
    · intro a t ss e p hp
      injection e with e1 e2
      subst e2
      exact key a t e1 p hp
    · intro ss e
      injection e with e1 e2
      subst e1 e2
      cases rs with
      | nil => rfl
      | cons s ss =>
        cases s with
        | nil => rw [show col ([] :: ss) = col ss by simp [col], i3 ss rfl]
        | cons b s => exact h2.elim
theorem dom_tail : ∀ {r s : List Int}, Dom r s → Dom r.tail s.tail
  | _, [], _ => Dom.nil _
  | [], _ :: _, h => h.elim
  | _ :: _, _ :: _, h => h.2
theorem tab_tail : ∀ {T : List (List Int)}, Tab T → Tab (T.map List.tail)
  | [], _ => trivial
  | r :: rs, ⟨h1, h2, h3⟩ => ⟨h1.sublist (List.tail_sublist r), by
      have := dom_tail h2
      cases rs <;> exact this, tab_tail h3⟩
/-- how many of the first k rows are not empty -/
theorem shp_cut : ∀ (k : Nat) (CT : List CW), Tab (CT.map (List.map Prod.fst)) → shp k (CT.map (List.map Prod.fst)) = min k (col CT).length + shp k ((CT.map List.tail).map (List.map Prod.fst))
  | 0, CT, _ => by simp [shp]
  | k + 1, [], _ => by simp [shp, col]
  | k + 1, r :: rs, h => by
    have ih := shp_cut k rs h.2.2
    simp only [List.map_cons, shp_cons, List.length_map, col, List.length_append]
    rw [ih]
    cases r with
    | nil =>
      have := (col_fall _ h).2.2 rs rfl
      rw [this]
      simp
    | cons a t =>
      simp only [List.take_succ_cons, List.take_zero, List.length_cons, List.length_nil, List.tail_cons]
      omega
theorem dom_len : ∀ {r s : List Int}, Dom r s → s.length ≤ r.length
  | _, [], _ => Nat.zero_le _
  | [], _ :: _, h => h.elim
  | _ :: _, _ :: _, h => Nat.succ_le_succ (dom_len h.2)
theorem tab_wide {m : Nat} : ∀ {T : List (List Int)}, Tab T → (T.headD []).length ≤ m → ∀ r ∈ T, r.length ≤ m
  | [], _, _, r, hr => by cases hr
  | s :: rs, ⟨h1, h2, h3⟩, hm, r, hr => by
    rcases List.mem_cons.mp hr with rfl | hr
    · exact hm
    · exact tab_wide h3 (Nat.le_trans (dom_len h2) hm) r hr
theorem col_bound (k : Nat) : ∀ (m : Nat) (CT : List CW), (∀ r ∈ CT, r.length ≤ m) → Tab (CT.map (List.map Prod.fst)) → OkC (rdc CT) → (∀ p ∈ rdc CT, p.2 ≤ k) → cnt (rdc CT) ≤ shp k (CT.map (List.map Prod.fst))
  | 0, CT, hm, _, _, _ => by
    have : ∀ CT : List CW, (∀ r ∈ CT, r.length ≤ 0) → rdc CT = [] := by
      intro CT
      induction CT with
      | nil => intro _; rfl
      | cons r rs ih =>
        intro h
        have h1 : r = [] := List.eq_nil_of_length_eq_zero (Nat.le_zero.mp (h r List.mem_cons_self))
        simp [rdc, h1, ih fun s hs => h s (List.mem_cons_of_mem _ hs)]
    rw [this CT hm]
    exact Nat.zero_le _
  | m + 1, CT, hm, ht, ho, hl => by
    rw [cnt_cut, shp_cut k CT ht]
    have h1 : cnt (col CT) ≤ k := cnt_falling (ho.sublist (col_sub CT)) (fun p hp => hl p ((col_sub CT).subset hp)) (col_fall CT ht).1
    have h2 := cnt_le_length (col CT)
    have h3 := col_bound k m (CT.map List.tail) (by
      intro r hr
      obtain ⟨s, hs, rfl⟩ := List.mem_map.mp hr
      have := hm s hs
      simp; omega) (by
      have := tab_tail ht
      simp only [List.map_map] at this ⊢
      have e : (List.tail ∘ List.map Prod.fst : CW → List Int) = (List.map Prod.fst ∘ List.tail) := by funext l; simp [List.map_tail]
      rw [e] at this
      exact this) (ho.sublist (tails_sub CT)) (fun p hp => hl p ((tails_sub CT).subset hp))
    omega
theorem fam_le {k n : Nat} {T : List (List Int)} (ht : Tab T) (h : Fam k n (rdg T)) : n ≤ shp k T := by
  obtain ⟨c, hf, hl, ho, hn⟩ := h
  obtain ⟨CT, rfl, rfl⟩ := rdc_of hf
  refine Nat.le_trans hn (col_bound k ((CT.map (List.map Prod.fst)).headD []).length CT ?_ ht ho hl)
  intro r hr
  have := tab_wide ht (Nat.le_refl _) (r.map Prod.fst) (List.mem_map.mpr ⟨r, hr, rfl⟩)
  rwa [List.length_map] at this

/-- the first rows coloured, each by its own colour -/
def clr : Nat → List (List Int) → List CW
  | _, [] => []
  | 0, r :: rs => r.map (fun x => (x, 0)) :: clr 0 rs
  | m + 1, r :: rs => r.map (fun x => (x, m + 1)) :: clr m rs
theorem clr_le : ∀ (m : Nat) (T : List (List Int)), ∀ p ∈ rdc (clr m T), p.2 ≤ m
  | _, [], p, hp => by simp [clr, rdc] at hp
  | 0, r :: rs, p, hp => by
    rcases List.mem_append.mp hp with hp | hp
    · exact clr_le 0 rs p hp
    · obtain ⟨x, _, rfl⟩ := List.mem_map.mp hp
      exact Nat.le_refl _
  | m + 1, r :: rs, p, hp => by
    rcases List.mem_append.mp hp with hp | hp
    · exact Nat.le_succ_of_le (clr_le m rs p hp)
    · obtain ⟨x, _, rfl⟩ := List.mem_map.mp hp
      exact Nat.le_refl _
theorem clr_fst : ∀ (m : Nat) (T : List (List Int)), (rdc (clr m T)).map Prod.fst = rdg T
  | _, [] => rfl
  | 0, r :: rs => by
    simp only [clr, rdc, rdg, List.map_append, clr_fst 0 rs, List.map_map]
    congr 1
    exact (List.map_congr_left (fun _ _ => rfl)).trans (List.map_id r)
  | m + 1, r :: rs => by
    simp only [clr, rdc, rdg, List.map_append, clr_fst m rs, List.map_map]
    congr 1
    exact (List.map_congr_left (fun _ _ => rfl)).trans (List.map_id r)
theorem clr_ok : ∀ (m : Nat) (T : List (List Int)), (∀ r ∈ T, Srt r) → OkC (rdc (clr m T))
  | _, [], _ => okC_nil
  | 0, r :: rs, h => by
    refine okC_append.mpr ⟨clr_ok 0 rs fun s hs => h s (List.mem_cons_of_mem _ hs), ?_, ?_⟩
    · refine List.pairwise_map.mpr (List.Pairwise.imp ?_ (h r List.mem_cons_self))
      intro a b hab _ _
      exact hab
    · intro p hp q hq _ e1
      have := clr_le 0 rs p hp
      omega
  | m + 1, r :: rs, h => by
    refine okC_append.mpr ⟨clr_ok m rs fun s hs => h s (List.mem_cons_of_mem _ hs), ?_, ?_⟩
    · refine List.pairwise_map.mpr (List.Pairwise.imp ?_ (h r List.mem_cons_self))
      intro a b hab _ _
      exact hab
    · intro p hp q hq e0 _
      have := clr_le m rs p hp
      obtain ⟨x, _, rfl⟩ := List.mem_map.mp hq
      dsimp only at e0
      omega
theorem clr_cnt : ∀ (m : Nat) (T : List (List Int)), shp m T ≤ cnt (rdc (clr m T))
  | m, [] => by cases m <;> exact Nat.zero_le _
  | 0, r :: rs => by simp [shp]
  | m + 1, r :: rs => by
    have e : cnt (r.map fun x => (x, m + 1)) = r.length := by
      simp only [cnt, List.countP_map]
      rw [List.countP_eq_length.mpr]
      intro a _
      simp
    have := clr_cnt m rs
    rw [shp_cons]
    simp only [clr, rdc, cnt_append, e]
    omega
theorem fam_mono {k n m : Nat} {w : List Int} (h : Fam k n w) (hm : m ≤ n) : Fam k m w :=
  let ⟨c, a, b, d, e⟩ := h
  ⟨c, a, b, d, Nat.le_trans hm e⟩
/-- GREENE: the most letters in k rising rows are the boxes in the first k rows -/
theorem greene (k n : Nat) (w : List Int) : Fam k n w ↔ n ≤ shp k (Ln w) := by
  rw [(eqv_P w).fam k n]
  exact ⟨fam_le (P_tab w), fun h => fam_mono ⟨_, clr_fst k _, clr_le k _, clr_ok k _ (P_srt w), clr_cnt k _⟩ h⟩
theorem shp_eq_of {k : Nat} {w w' : List Int} (h : ∀ n, Fam k n w ↔ Fam k n w') : shp k (Ln w) = shp k (Ln w') := by
  have h1 := (greene k _ w').mp ((h _).mp ((greene k _ w).mpr (Nat.le_refl _)))
  have h2 := (greene k _ w).mp ((h _).mpr ((greene k _ w').mpr (Nat.le_refl _)))
  omega

/-! ### a letter more -/
theorem fam_more {k n : Nat} {u v : List Int} (x : Int) (h : Fam k n (u ++ v)) : Fam k n (u ++ [x] ++ v) := by
  obtain ⟨c, hf, hl, ho, hn⟩ := h
  obtain ⟨cu, cv, rfl, h1, h2⟩ := List.map_eq_append_iff.mp hf
  refine ⟨cu ++ [(x, 0)] ++ cv, by simp [h1, h2], ?_, ?_, ?_⟩
  · intro p hp
    simp only [List.mem_append, List.mem_singleton] at hp
    rcases hp with (hp | rfl) | hp
    · exact hl p (List.mem_append_left _ hp)
    · exact Nat.zero_le _
    · exact hl p (List.mem_append_right _ hp)
  · simp only [okC_append, okC_cons, okC_nil, List.mem_append, List.mem_singleton] at ho ⊢
    obtain ⟨o1, o2, o3⟩ := ho
    refine ⟨⟨o1, ⟨(fun q hq => by cases hq), trivial⟩, ?_⟩, o2, ?_⟩
    · rintro p hp q rfl e0 e1
      exact absurd e0 e1
    · rintro p (hp | rfl) q hq e0 e1
      · exact o3 p hp q hq e0 e1
      · exact absurd rfl e1
  · rw [cnt_append] at hn
    rw [cnt_append, cnt_append, cnt_cons]
    simp
    omega
theorem fam_less {k n : Nat} {u v : List Int} {x : Int} (h : Fam k (n + 1) (u ++ [x] ++ v)) : Fam k n (u ++ v) := by
  obtain ⟨c, hf, hl, ho, hn⟩ := h
  obtain ⟨cu, cs, cv, rfl, h1, h2, h3⟩ := fst_split hf
  refine ⟨cu ++ cv, by simp [h1, h3], ?_, ?_, ?_⟩
  · intro p hp
    apply hl p
    simp only [List.mem_append] at hp ⊢
    rcases hp with hp | hp
    · exact .inl (.inl hp)
    · exact .inr hp
  · simp only [okC_append, List.mem_append] at ho ⊢
    exact ⟨ho.1.1, ho.2.1, fun p hp => ho.2.2 p (.inl hp)⟩
  · rw [cnt_append, cnt_append] at hn
    rw [cnt_append]
    have e : cs.length = 1 := by
      have := congrArg List.length h2
      simpa using this
    have := cnt_le_length cs
    omega
theorem shp_more (k : Nat) (u v : List Int) (x : Int) : shp k (Ln (u ++ v)) ≤ shp k (Ln (u ++ [x] ++ v)) ∧ shp k (Ln (u ++ [x] ++ v)) ≤ shp k (Ln (u ++ v)) + 1 := by
  constructor
  · exact (greene k _ _).mp (fam_more x ((greene k _ _).mpr (Nat.le_refl _)))
  · cases e : shp k (Ln (u ++ [x] ++ v)) with
    | zero => exact Nat.zero_le _
    | succ n =>
      have h : Fam k (n + 1) (u ++ [x] ++ v) := (greene k _ _).mpr (Nat.le_of_eq e.symm)
      have := (greene k _ _).mp (fam_less h)
      omega

/-! ### turned about -/
def about (w : List Int) : List Int := w.reverse.map fun x => 17 - x
theorem about_about (w : List Int) : about (about w) = w := by
  unfold about
  rw [← List.map_reverse, List.reverse_reverse, List.map_map]
  have : ((fun x : Int => 17 - x) ∘ fun x => 17 - x) = id := by
    funext x
    simp only [Function.comp, id]
    omega
  rw [this, List.map_id]
theorem fam_about {k n : Nat} {w : List Int} (h : Fam k n w) : Fam k n (about w) := by
  obtain ⟨c, rfl, hl, ho, hn⟩ := h
  refine ⟨c.reverse.map fun p => (17 - p.1, p.2), ?_, ?_, ?_, ?_⟩
  · simp [about, List.map_reverse]
  · intro p hp
    obtain ⟨q, hq, rfl⟩ := List.mem_map.mp hp
    exact hl q (List.mem_reverse.mp hq)
  · refine List.pairwise_map.mpr (List.pairwise_reverse.mpr (List.Pairwise.imp ?_ ho))
    intro a b hab e0 e1
    have := hab e0.symm (by rw [← e0]; exact e1)
    dsimp only
    omega
  · rw [show cnt (c.reverse.map fun p => (17 - p.1, p.2)) = cnt c by
      simp only [cnt, List.countP_map, List.countP_reverse]
      rfl]
    exact hn
theorem shp_about (k : Nat) (w : List Int) : shp k (Ln (about w)) = shp k (Ln w) :=
  shp_eq_of fun n => ⟨fun h => by have := fam_about h; rwa [about_about] at this, fam_about⟩

/-! ### the lines are told by the shapes of the letters up to b -/
def rst (b : Int) (w : List Int) : List Int := w.filter fun x => decide (x ≤ b)
def rstT (b : Int) (T : List (List Int)) : List (List Int) := T.map (rst b)
/-- alike but for empty rows at the end -/
def Ali (S T : List (List Int)) : Prop := ∀ i, S.getD i [] = T.getD i []
theorem Ali.refl (S : List (List Int)) : Ali S S := fun _ => rfl
theorem Ali.symm {S T : List (List Int)} (h : Ali S T) : Ali T S := fun i => (h i).symm
theorem Ali.trans {S T U : List (List Int)} (h : Ali S T) (g : Ali T U) : Ali S U := fun i => (h i).trans (g i)
theorem Ali.cons {r : List Int} {S T : List (List Int)} (h : Ali S T) : Ali (r :: S) (r :: T) := fun i => by
  cases i with
  | zero => rfl
  | succ i => simpa using h i
theorem Ali.tail {r s : List Int} {S T : List (List Int)} (h : Ali (r :: S) (s :: T)) : r = s ∧ Ali S T := ⟨by simpa using h 0, fun i => by simpa using h (i + 1)⟩
theorem ali_nil {T : List (List Int)} (h : Ali T []) : ∀ r ∈ T, r = [] := by
  intro r hr
  obtain ⟨i, hi, rfl⟩ := List.mem_iff_getElem.mp hr
  have := h i
  simpa [List.getD, hi] using this
theorem ins_ali : ∀ {S T : List (List Int)} (x : Int), Ali S T → Ali (ins S x) (ins T x)
  | [], [], x, _ => Ali.refl _
  | [], s :: T, x, h => by
    have hs : s = [] := ali_nil h.symm s List.mem_cons_self
    subst hs
    intro i
    cases i with
    | zero => rfl
    | succ i =>
      have := h (i + 1)
      simpa [ins, rowIns] using this
  | s :: S, [], x, h => by
    have hs : s = [] := ali_nil h s List.mem_cons_self
    subst hs
    intro i
    cases i with
    | zero => rfl
    | succ i =>
      have := h (i + 1)
      simpa [ins, rowIns] using this
  | s :: S, t :: T, x, h => by
    obtain ⟨rfl, h2⟩ := h.tail
    simp only [ins]
    cases (rowIns s x).2 with
    | none => exact h2.cons
    | some b => exact (ins_ali b h2).cons
theorem rst_row {b x : Int} {r : List Int} (hx : x ≤ b) : rst b (rowIns r x).1 = (rowIns (rst b r) x).1 ∧ (rowIns (rst b r) x).2 = (match (rowIns r x).2 with | none => none | some c => if c ≤ b then some c else none) ∨ ¬ Srt r := by
  by_cases hs : Srt r
  · left
    induction r with
    | nil => simp [rowIns, rst, hx]
    | cons a r ih =>
      obtain ⟨s1, s2⟩ := List.pairwise_cons.mp hs
      obtain ⟨i1, i2⟩ := ih s2
      by_cases hxa : x < a
      · rw [rowIns_lt hxa]
        by_cases hab : a ≤ b
        · have e : rst b (a :: r) = a :: rst b r := by simp [rst, hab]
          rw [e, rowIns_lt hxa]
          refine ⟨by simp [rst, hx], by simp [hab]⟩
        · have e : rst b (a :: r) = [] := by
            simp only [rst]
            rw [List.filter_eq_nil_iff]
            intro c hc
            rcases List.mem_cons.mp hc with rfl | hc
            · simpa using hab
            · have := s1 c hc
              simp; omega
          have e2 : rst b r = [] := by
            simp only [rst] at e ⊢
            rw [List.filter_eq_nil_iff] at e ⊢
            exact fun c hc => e c (List.mem_cons_of_mem _ hc)
          rw [e]
          refine ⟨?_, ?_⟩
          · show rst b (x :: r) = [x]
            have : rst b (x :: r) = x :: rst b r := by simp [rst, hx]
            rw [this, e2]
          · simp [rowIns, hab]
      · have hab : a ≤ b := by omega
        have e : rst b (a :: r) = a :: rst b r := by simp [rst, hab]
        rw [rowIns_ge hxa, e, rowIns_ge hxa]
        refine ⟨?_, i2⟩
        show rst b (a :: (rowIns r x).1) = a :: (rowIns (rst b r) x).1
        have : rst b (a :: (rowIns r x).1) = a :: rst b (rowIns r x).1 := by simp [rst, hab]
        rw [this, i1]
  · exact .inr hs
theorem rst_row2 {b x : Int} {r : List Int} (hx : b < x) : rst b (rowIns r x).1 = rst b r ∧ (∀ c, (rowIns r x).2 = some c → b < c) := by
  induction r with
  | nil => simp [rowIns, rst, hx]
  | cons a r ih =>
    by_cases hxa : x < a
    · rw [rowIns_lt hxa]
      refine ⟨?_, fun c hc => by cases hc; omega⟩
      have h1 : ¬ x ≤ b := by omega
      have h2 : ¬ a ≤ b := by omega
      simp [rst, h1, h2]
    · rw [rowIns_ge hxa]
      refine ⟨?_, ih.2⟩
      show rst b (a :: (rowIns r x).1) = rst b (a :: r)
      simp only [rst, List.filter_cons] at ih ⊢
      rw [ih.1]
theorem rst_ins2 {b : Int} : ∀ (T : List (List Int)) (x : Int), b < x → Ali (rstT b (ins T x)) (rstT b T)
  | [], x, hx => by
    intro i
    cases i with
    | zero => simp [ins, rstT, rst, hx]
    | succ i => simp [ins, rstT]
  | r :: T, x, hx => by
    obtain ⟨h1, h2⟩ := rst_row2 (r := r) hx
    simp only [ins]
    cases e : (rowIns r x).2 with
    | none =>
      simp only [rstT, List.map_cons, h1]
      exact Ali.refl _
    | some c =>
      simp only [rstT, List.map_cons, h1]
      exact (rst_ins2 T c (h2 c e)).cons
theorem rst_ins {b : Int} : ∀ (T : List (List Int)) (x : Int), x ≤ b → (∀ r ∈ T, Srt r) → Ali (rstT b (ins T x)) (ins (rstT b T) x)
  | [], x, hx, _ => by simp [ins, rstT, rst, hx]; exact Ali.refl _
  | r :: T, x, hx, hs => by
    rcases rst_row (r := r) hx with ⟨h1, h2⟩ | h
    · have e0 : rstT b (r :: T) = rst b r :: rstT b T := rfl
      rw [e0]
      simp only [ins, h2]
      cases e : (rowIns r x).2 with
      | none =>
        simp only [rstT, List.map_cons, h1]
        exact Ali.refl _
      | some c =>
        by_cases hc : c ≤ b
        · simp only [if_pos hc, rstT, List.map_cons, h1]
          exact (rst_ins T c hc fun s h => hs s (List.mem_cons_of_mem _ h)).cons
        · simp only [if_neg hc, rstT, List.map_cons, h1]
          exact (rst_ins2 T c (by omega)).cons
    · exact absurd (hs r List.mem_cons_self) h
theorem rst_P (b : Int) (w : List Int) : Ali (rstT b (Ln w)) (Ln (rst b w)) := by
  induction w using snoc_ind with
  | h0 => exact Ali.refl _
  | h1 w a ih =>
    rw [P_snoc]
    by_cases ha : a ≤ b
    · have e : rst b (w ++ [a]) = rst b w ++ [a] := by simp [rst, ha]
      rw [e, P_snoc]
      exact (rst_ins _ _ ha (P_srt w)).trans (ins_ali a ih)
    · have e : rst b (w ++ [a]) = rst b w := by simp [rst, ha]
      rw [e]
      exact (rst_ins2 _ _ (by omega)).trans ih
theorem shp_ali : ∀ {S T : List (List Int)} (k : Nat), Ali S T → shp k S = shp k T
  | _, _, 0, _ => by simp [shp]
  | [], [], _, _ => rfl
  | [], t :: T, k + 1, h => by
    have ht : t = [] := ali_nil h.symm t List.mem_cons_self
    have := shp_ali (S := []) (T := T) k (fun i => by simpa using h (i + 1))
    rw [shp_cons, ht, ← this]
    simp [shp]
  | s :: S, [], k + 1, h => by
    have hs : s = [] := ali_nil h s List.mem_cons_self
    have := shp_ali (S := S) (T := []) k (fun i => by simpa using h (i + 1))
    rw [shp_cons, hs, this]
    simp [shp]
  | s :: S, t :: T, k + 1, h => by
    obtain ⟨rfl, h2⟩ := h.tail
    rw [shp_cons, shp_cons, shp_ali k h2]
/-- rows that rise are told by how many letters up to b -/
theorem srt_told : ∀ {r s : List Int}, Srt r → Srt s → (∀ b, (rst b r).length = (rst b s).length) → r = s
  | [], [], _, _, _ => rfl
  | [], c :: s, _, _, h => by
    have := h c
    simp [rst] at this
  | a :: r, [], _, _, h => by
    have := h a
    simp [rst] at this
  | a :: r, c :: s, hr, hs, h => by
    obtain ⟨r1, r2⟩ := List.pairwise_cons.mp hr
    obtain ⟨s1, s2⟩ := List.pairwise_cons.mp hs
    have low : ∀ {a c : Int} {r s : List Int}, (∀ x ∈ s, c ≤ x) → (rst a (a :: r)).length = (rst a (c :: s)).length → c ≤ a := by
      intro a c r s hs h
      apply Classical.byContradiction
      intro hc
      have e : rst a (c :: s) = [] := by
        simp only [rst]
        rw [List.filter_eq_nil_iff]
        intro x hx
        rcases List.mem_cons.mp hx with rfl | hx
        · simpa using hc
        · have := hs x hx
          simp; omega
      rw [e] at h
      simp [rst] at h
    have e1 := low s1 (h a)
    have e2 := low r1 (h c).symm
    have e : a = c := by omega
    subst e
    congr 1
    refine srt_told r2 s2 fun b => ?_
    have := h b
    simp only [rst, List.filter_cons] at this ⊢
    by_cases hb : a ≤ b
    · simpa [hb] using this
    · simpa [hb] using this
theorem rows_ne : ∀ (T : List (List Int)) (x : Int), (∀ r ∈ T, r ≠ []) → ∀ r ∈ ins T x, r ≠ []
  | [], x, _, r, hr => by
    have : r = [x] := by simpa [ins] using hr
    rw [this]; simp
  | s :: T, x, h, r, hr => by
    have h1 : (rowIns s x).1 ≠ [] := by
      cases s with
      | nil => simp [rowIns]
      | cons a s => unfold rowIns; split <;> simp
    simp only [ins] at hr
    cases e : (rowIns s x).2 with
    | none =>
      rw [e] at hr
      rcases List.mem_cons.mp hr with rfl | hr
      · exact h1
      · exact h r (List.mem_cons_of_mem _ hr)
    | some b =>
      rw [e] at hr
      rcases List.mem_cons.mp hr with rfl | hr
      · exact h1
      · exact rows_ne T b (fun t ht => h t (List.mem_cons_of_mem _ ht)) r hr
theorem P_ne (w : List Int) : ∀ r ∈ Ln w, r ≠ [] := by
  induction w using snoc_ind with
  | h0 => intro r hr; cases hr
  | h1 w a ih => rw [P_snoc]; exact rows_ne _ _ ih
theorem ali_eq : ∀ {S T : List (List Int)}, (∀ r ∈ S, r ≠ []) → (∀ r ∈ T, r ≠ []) → Ali S T → S = T
  | [], [], _, _, _ => rfl
  | [], t :: T, _, h, g => absurd (ali_nil g.symm t List.mem_cons_self) (h t List.mem_cons_self)
  | s :: S, [], h, _, g => absurd (ali_nil g s List.mem_cons_self) (h s List.mem_cons_self)
  | s :: S, t :: T, h, h', g => by
    obtain ⟨rfl, g2⟩ := g.tail
    rw [ali_eq (fun r hr => h r (List.mem_cons_of_mem _ hr)) (fun r hr => h' r (List.mem_cons_of_mem _ hr)) g2]
theorem shp_row (T : List (List Int)) (i : Nat) : shp (i + 1) T = shp i T + (T.getD i []).length := by
  induction T generalizing i with
  | nil => simp [shp]
  | cons r T ih =>
    cases i with
    | zero => simp [shp]
    | succ i =>
      rw [shp_cons, shp_cons, ih]
      simp
      omega
theorem P_same {w w' : List Int} (h : ∀ b k n, Fam k n (rst b w) ↔ Fam k n (rst b w')) : Ln w = Ln w' := by
  apply ali_eq (P_ne w) (P_ne w')
  intro i
  have srt : ∀ (v : List Int), Srt ((Ln v).getD i []) := by
    intro v
    simp only [List.getD]
    cases e : (Ln v)[i]? with
    | none => simp [Srt]
    | some r => exact P_srt v r (List.mem_of_getElem? e)
  refine srt_told (srt w) (srt w') fun b => ?_
  have hk : ∀ k, shp k (rstT b (Ln w)) = shp k (rstT b (Ln w')) := fun k => by
    rw [shp_ali k (rst_P b w), shp_ali k (rst_P b w')]
    exact shp_eq_of (h b k)
  have h1 := hk i
  have h2 := hk (i + 1)
  rw [shp_row, shp_row] at h2
  have e : ∀ v, ((rstT b (Ln v)).getD i []).length = (rst b ((Ln v).getD i [])).length := by
    intro v
    simp only [rstT, List.getD, List.getElem?_map]
    cases (Ln v)[i]? <;> simp [rst]
  rw [e, e] at h2
  omega
theorem rst_app (b : Int) (u v : List Int) : rst b (u ++ v) = rst b u ++ rst b v := by simp [rst]
theorem P_k1 {x y z : Int} (u v : List Int) (hxy : x < y) (hyz : y ≤ z) : Ln (u ++ [y, x, z] ++ v) = Ln (u ++ [y, z, x] ++ v) := by
  apply P_same
  intro b k n
  simp only [rst_app]
  by_cases hz : z ≤ b
  · have e1 : rst b [y, x, z] = [y, x, z] := by simp [rst, hz, show y ≤ b by omega, show x ≤ b by omega]
    have e2 : rst b [y, z, x] = [y, z, x] := by simp [rst, hz, show y ≤ b by omega, show x ≤ b by omega]
    rw [e1, e2]
    exact eqv_k1 hxy hyz _ _ k n
  · have e : rst b [y, x, z] = rst b [y, z, x] := by simp [rst, hz, List.filter_cons]
    rw [e]
theorem P_k2 {x y z : Int} (u v : List Int) (hxy : x ≤ y) (hyz : y < z) : Ln (u ++ [x, z, y] ++ v) = Ln (u ++ [z, x, y] ++ v) := by
  apply P_same
  intro b k n
  simp only [rst_app]
  by_cases hz : z ≤ b
  · have e1 : rst b [x, z, y] = [x, z, y] := by simp [rst, hz, show y ≤ b by omega, show x ≤ b by omega]
    have e2 : rst b [z, x, y] = [z, x, y] := by simp [rst, hz, show y ≤ b by omega, show x ≤ b by omega]
    rw [e1, e2]
    exact eqv_k2 hxy hyz _ _ k n
  · have e : rst b [x, z, y] = rst b [z, x, y] := by simp [rst, hz, List.filter_cons]
    rw [e]
/-- the elementary exchange of three letters -/
def el3 (a b c : Int) : Option (List Int) :=
  if min b c < a ∧ a ≤ max b c then some [a, c, b] else if min a b ≤ c ∧ c < max a b then some [b, a, c] else none
theorem P_el {a b c : Int} {s : List Int} (u v : List Int) (h : el3 a b c = some s) : Ln (u ++ s ++ v) = Ln (u ++ [a, b, c] ++ v) := by
  unfold el3 at h
  split at h
  · rename_i hc
    cases h
    by_cases hbc : b ≤ c
    · have h1 : b < a := by omega
      have h2 : a ≤ c := by omega
      exact (P_k1 u v h1 h2).symm
    · have h1 : c < a := by omega
      have h2 : a ≤ b := by omega
      exact P_k1 u v h1 h2
  · split at h
    · rename_i hc
      cases h
      by_cases hab : a ≤ b
      · have h1 : a ≤ c := by omega
        have h2 : c < b := by omega
        exact (P_k2 u v h1 h2).symm
      · have h1 : b ≤ c := by omega
        have h2 : c < a := by omega
        exact P_k2 u v h1 h2
    · cases h
end K57
/-! The flow of lots.py: arcs, costs, ways; in plain Lean. -/
set_option Elab.async false
set_option linter.all false
namespace K57
abbrev Arc := Nat × Nat × Int
abbrev far : Int := 1000000
def laters (w : List Int) (i : Nat) (m : Nat) : List Arc :=
  ((List.range' (i + 1) m).filter fun l => decide (w.getD i 0 ≤ w.getD l 0)).map fun l => (3 + 2 * i, 2 + 2 * l, 0)
def arcs3 (i : Nat) : List Arc := [(0, 2 + 2 * i, 0), (2 + 2 * i, 3 + 2 * i, -1), (3 + 2 * i, 1, 0)]
def arcsAt (w : List Int) (i : Nat) : List Arc := arcs3 i ++ laters w i (w.length - (i + 1))
def arcsTo (w : List Int) (n : Nat) : List Arc := (List.range n).flatMap (arcsAt w)
def arcsOf (w : List Int) : List Arc := arcsTo w w.length
theorem arcsTo_succ (w : List Int) (n : Nat) : arcsTo w (n + 1) = arcsTo w n ++ arcsAt w n := by
  simp [arcsTo, List.range_succ]
theorem mem_laters {w : List Int} {i m : Nat} {a : Arc} : a ∈ laters w i m ↔ ∃ l, i < l ∧ l < i + 1 + m ∧ w.getD i 0 ≤ w.getD l 0 ∧ a = (3 + 2 * i, 2 + 2 * l, 0) := by
  simp only [laters, List.mem_map, List.mem_filter, List.mem_range'_1, decide_eq_true_eq]
  constructor
  · rintro ⟨l, ⟨⟨h1, h2⟩, h3⟩, rfl⟩
    exact ⟨l, by omega, by omega, h3, rfl⟩
  · rintro ⟨l, h1, h2, h3, rfl⟩
    exact ⟨l, ⟨⟨by omega, by omega⟩, h3⟩, rfl⟩
/-- what arcs there are -/
inductive IsArc (w : List Int) (n : Nat) : Arc → Prop
  | src {i} : i < n → IsArc w n (0, 2 + 2 * i, 0)
  | mid {i} : i < n → IsArc w n (2 + 2 * i, 3 + 2 * i, -1)
  | snk {i} : i < n → IsArc w n (3 + 2 * i, 1, 0)
  | nxt {i l} : i < n → i < l → l < w.length → w.getD i 0 ≤ w.getD l 0 → IsArc w n (3 + 2 * i, 2 + 2 * l, 0)
theorem mem_arcsAt {w : List Int} {i : Nat} {a : Arc} : a ∈ arcsAt w i ↔ a = (0, 2 + 2 * i, 0) ∨ a = (2 + 2 * i, 3 + 2 * i, -1) ∨ a = (3 + 2 * i, 1, 0) ∨ ∃ l, i < l ∧ l < w.length ∧ w.getD i 0 ≤ w.getD l 0 ∧ a = (3 + 2 * i, 2 + 2 * l, 0) := by
  simp only [arcsAt, arcs3, List.mem_append, List.mem_cons, List.not_mem_nil, or_false, mem_laters]
  constructor
  · rintro ((h | h | h) | ⟨l, h1, h2, h3, h4⟩)
    · exact .inl h
    · exact .inr (.inl h)
    · exact .inr (.inr (.inl h))
    · exact .inr (.inr (.inr ⟨l, h1, by omega, h3, h4⟩))
  · rintro (h | h | h | ⟨l, h1, h2, h3, h4⟩)
    · exact .inl (.inl h)
    · exact .inl (.inr (.inl h))
    · exact .inl (.inr (.inr h))
    · exact .inr ⟨l, h1, by omega, h3, h4⟩
theorem mem_arcsTo {w : List Int} {n : Nat} {a : Arc} : a ∈ arcsTo w n ↔ IsArc w n a := by
  simp only [arcsTo, List.mem_flatMap, List.mem_range, mem_arcsAt]
  constructor
  · rintro ⟨i, hi, rfl | rfl | rfl | ⟨l, h1, h2, h3, rfl⟩⟩
    · exact .src hi
    · exact .mid hi
    · exact .snk hi
    · exact .nxt hi h1 h2 h3
  · rintro (hi | hi | hi | ⟨hi, h1, h2, h3⟩)
    · exact ⟨_, hi, .inl rfl⟩
    · exact ⟨_, hi, .inr (.inl rfl)⟩
    · exact ⟨_, hi, .inr (.inr (.inl rfl))⟩
    · exact ⟨_, hi, .inr (.inr (.inr ⟨_, h1, h2, h3, rfl⟩))⟩
theorem arcs_nodup (w : List Int) (n : Nat) : (arcsTo w n).Nodup := by
  induction n with
  | zero => simp [arcsTo]
  | succ n ih =>
    rw [arcsTo_succ]
    refine List.pairwise_append.mpr ⟨ih, ?_, ?_⟩
    · refine List.pairwise_append.mpr ⟨?_, ?_, ?_⟩
      · simp [arcs3]
        omega
      · unfold laters
        refine List.pairwise_map.mpr ?_
        refine List.pairwise_filter.mpr ?_
        refine List.Pairwise.imp ?_ (List.nodup_range' (s := n + 1) (n := w.length - (n + 1)) (step := 1))
        intro a b hab _ _ e
        injection e with _ e
        injection e with e _
        omega
      · intro a ha b hb e
        obtain ⟨l, h1, h2, h3, rfl⟩ := mem_laters.mp hb
        subst e
        simp [arcs3] at ha
        omega
    · intro a ha b hb e
      subst e
      have h1 := mem_arcsTo.mp ha
      have h2 := mem_arcsAt.mp hb
      cases h1 with
      | src hi => simp at h2; omega
      | mid hi => simp at h2; omega
      | snk hi => simp at h2; omega
      | nxt hi a1 a2 a3 => simp at h2; omega
/-- an arc as it stands open: forward if it isn't used, else back -/
def resid (a : Arc) (b : Bool) : Arc := if b then (a.2.1, a.1, 0 - a.2.2) else a

/-! ### sums over the used arcs -/
def S : List Arc → List Bool → (Arc → Int) → Int
  | a :: as, b :: bs, φ => (if b then φ a else 0) + S as bs φ
  | _, _, _ => 0
theorem S_set : ∀ {as : List Arc} {f : List Bool} {k : Nat} {a : Arc} {b : Bool} (φ : Arc → Int), as[k]? = some a → f[k]? = some b → S as (f.set k (!b)) φ = S as f φ + (if b then - φ a else φ a)
  | [], _, _, _, _, _, h, _ => by simp at h
  | _ :: _, [], _, _, _, _, _, h => by simp at h
  | a :: as, b :: f, 0, a', b', φ, h, h' => by
    simp at h h'
    subst h h'
    simp only [List.set_cons_zero, S]
    cases b <;> simp <;> omega
  | a :: as, b :: f, k + 1, a', b', φ, h, h' => by
    have ih := S_set (as := as) (f := f) (k := k) φ (by simpa using h) (by simpa using h')
    simp only [List.set_cons_succ, S, ih]
    omega
theorem S_add : ∀ (as : List Arc) (f : List Bool) (φ ψ : Arc → Int), S as f (fun a => φ a + ψ a) = S as f φ + S as f ψ
  | [], _, _, _ => rfl
  | _ :: _, [], _, _ => rfl
  | a :: as, b :: f, φ, ψ => by
    simp only [S, S_add as f φ ψ]
    cases b <;> simp <;> omega
theorem S_false : ∀ (as : List Arc) (n : Nat) (φ : Arc → Int), S as (List.replicate n false) φ = 0
  | [], n, φ => by cases n <;> rfl
  | a :: as, 0, φ => rfl
  | a :: as, n + 1, φ => by simp [S, List.replicate_succ, S_false as n φ]
/-- the used arcs -/
def used : List Arc → List Bool → List Arc
  | a :: as, b :: bs => if b then a :: used as bs else used as bs
  | _, _ => []
theorem used_sub : ∀ (as : List Arc) (f : List Bool), List.Sublist (used as f) as
  | [], _ => List.Sublist.refl _
  | _ :: _, [] => List.nil_sublist _
  | a :: as, true :: f => (used_sub as f).cons_cons a
  | a :: as, false :: f => (used_sub as f).cons a
theorem S_used : ∀ (as : List Arc) (f : List Bool) (φ : Arc → Int), S as f φ = ((used as f).map φ).sum
  | [], _, _ => rfl
  | _ :: _, [], _ => rfl
  | a :: as, true :: f, φ => by simp [S, used, S_used as f φ]
  | a :: as, false :: f, φ => by simp [S, used, S_used as f φ]
/-- a flow of p ways -/
def Valid (as : List Arc) (f : List Bool) (p : Nat) : Prop := ∀ π : Nat → Int, S as f (fun a => π a.1 - π a.2.1) = p * (π 0 - π 1)
def Feas (as : List Arc) (f : List Bool) (π : Nat → Int) : Prop :=
  ∀ (k : Nat) (a : Arc) (b : Bool), as[k]? = some a → f[k]? = some b → π (resid a b).2.1 ≤ π (resid a b).1 + (resid a b).2.2

/-! ### least costs -/
abbrev Ways := List (Option Nat)
def cost (cs : List Int) (v : Nat) : Int := cs.getD v far
inductive Way (as : List Arc) (f : List Bool) (ws : Ways) : Nat → List Nat → Prop
  | nil : Way as f ws 0 []
  | cons {v k a b L} : v ≠ 0 → ws[v]? = some (some k) → as[k]? = some a → f[k]? = some b → (resid a b).2.1 = v → Way as f ws (resid a b).1 L → Way as f ws v (k :: L)
/-- how many are reached -/
def rc (cs : List Int) : Nat := cs.countP fun c => decide (c < far)
structure BF (as : List Arc) (f : List Bool) (N : Nat) (π : Nat → Int) (cs : List Int) (ws : Ways) : Prop where
  lc : cs.length = N
  lw : ws.length = N
  c0 : cost cs 0 = 0
  w0 : ws[0]? = some none
  le : ∀ v, cost cs v ≤ far
  low : ∀ v, cost cs v < far → π v - π 0 ≤ cost cs v
  way : ∀ (v k : Nat), ws[v]? = some (some k) → ∃ (a : Arc) (b : Bool), as[k]? = some a ∧ f[k]? = some b ∧ (resid a b).2.1 = v ∧ cost cs (resid a b).1 < far ∧ cost cs (resid a b).1 + (resid a b).2.2 ≤ cost cs v
  rch : ∀ v, cost cs v < far → ∃ L, Way as f ws v L
  hi : ∀ v, cost cs v < far → cost cs v < rc cs
theorem rc_set {c : Int} (hc : c < far) : ∀ {cs : List Int} {g : Nat}, g < cs.length → rc (cs.set g c) = rc cs + (if cost cs g < far then 0 else 1)
  | [], _, h => by simp at h
  | a :: cs, 0, _ => by
    simp only [rc, cost, List.set_cons_zero, List.countP_cons, List.getD_cons_zero, decide_eq_true_eq, if_pos hc]
    split <;> omega
  | a :: cs, g + 1, h => by
    have := rc_set hc (cs := cs) (g := g) (by simpa using h)
    have e : cost (a :: cs) (g + 1) = cost cs g := rfl
    rw [e]
    simp only [rc, List.set_cons_succ, List.countP_cons] at this ⊢
    omega
theorem cost_set {cs : List Int} {g : Nat} {c : Int} (hg : g < cs.length) (v : Nat) : cost (cs.set g c) v = if v = g then c else cost cs v := by
  unfold cost
  by_cases h : v = g
  · subst h
    rw [if_pos rfl]
    simp [List.getD, hg]
  · rw [if_neg h]
    simp [List.getD, List.getElem?_set_ne (Ne.symm h)]
/-- one arc relaxed -/
theorem BF.relax {as : List Arc} {f : List Bool} {N : Nat} {π : Nat → Int} {cs : List Int} {ws : Ways} (B : BF as f N π cs ws) (F : Feas as f π) {k : Nat} {a : Arc} {b : Bool} (ha : as[k]? = some a) (hb : f[k]? = some b) (hN : (resid a b).2.1 < N) (hp : (resid a b).2.2 ≤ 1)
    (h1 : cost cs (resid a b).1 < far) (h2 : cost cs (resid a b).1 + (resid a b).2.2 < cost cs (resid a b).2.1) :
    BF as f N π (cs.set (resid a b).2.1 (cost cs (resid a b).1 + (resid a b).2.2)) (ws.set (resid a b).2.1 (some k)) := by
  have hF := F k a b ha hb
  have hlow := B.low _ h1
  generalize hr : resid a b = r at *
  obtain ⟨s, g, p⟩ := r
  dsimp only at *
  have hgl : g < cs.length := by rw [B.lc]; exact hN
  have g0 : g ≠ 0 := fun z => by
    subst z
    rw [B.c0] at h2
    omega
  have sg : s ≠ g := fun z => by subst z; omega
  have hc := fun v => cost_set (c := cost cs s + p) hgl v
  have hws : ∀ v, (ws.set g (some k))[v]? = if v = g then some (some k) else ws[v]? := fun v => by
    by_cases h : v = g
    · subst h
      rw [if_pos rfl, List.getElem?_set_self (by rw [B.lw]; exact hN)]
    · rw [if_neg h, List.getElem?_set_ne (Ne.symm h)]
  -- a chain that avoids g, or whose cost is not below that of g
  have key : ∀ v L, Way as f ws v L → (∃ L', Way as f (ws.set g (some k)) v L') ∨ (cost cs v < far → cost cs g - π g ≤ cost cs v - π v) := by
    intro v L W
    induction W with
    | nil => exact .inl ⟨[], .nil⟩
    | @cons v k' a' b' L v0 hv ha' hb' hg' _ ih =>
      by_cases e : v = g
      · exact .inr fun _ => by rw [e]; omega
      · rcases ih with ⟨L', W'⟩ | ih
        · exact .inl ⟨k' :: L', .cons v0 (by rw [hws, if_neg e]; exact hv) ha' hb' hg' W'⟩
        · refine .inr fun hvf => ?_
          obtain ⟨a2, b2, ea, eb, e1, e2, e3⟩ := B.way v k' hv
          rw [ha'] at ea; cases ea
          rw [hb'] at eb; cases eb
          have q := F k' a' b' ha' hb'
          have q2 := ih e2
          rw [hg'] at q
          omega
  have wg : ∃ L', Way as f (ws.set g (some k)) g L' := by
    obtain ⟨L, W⟩ := B.rch s h1
    rcases key s L W with ⟨L', W'⟩ | q
    · refine ⟨k :: L', .cons g0 (by rw [hws, if_pos rfl]) ha hb (by rw [hr]) (by rw [hr]; exact W')⟩
    · have := q h1
      omega
  have all : ∀ v L, Way as f ws v L → ∃ L', Way as f (ws.set g (some k)) v L' := by
    intro v L W
    induction W with
    | nil => exact ⟨[], .nil⟩
    | @cons v k' a' b' L v0 hv ha' hb' hg' _ ih =>
      by_cases e : v = g
      · rw [e]; exact wg
      · obtain ⟨L', W'⟩ := ih
        exact ⟨k' :: L', .cons v0 (by rw [hws, if_neg e]; exact hv) ha' hb' hg' W'⟩
  refine ⟨by rw [List.length_set, B.lc], by rw [List.length_set, B.lw], ?_, ?_, ?_, ?_, ?_, ?_, ?_⟩
  · rw [hc, if_neg (Ne.symm g0)]; exact B.c0
  · rw [hws, if_neg (Ne.symm g0)]; exact B.w0
  · intro v
    rw [hc]
    split
    · have := B.le g; omega
    · exact B.le v
  · intro v
    rw [hc]
    split
    · rename_i e
      rw [e]
      intro _
      omega
    · exact B.low v
  · intro v k' hv
    rw [hws] at hv
    by_cases e : v = g
    · rw [if_pos e] at hv
      cases hv
      refine ⟨a, b, ha, hb, ?_, ?_, ?_⟩
      · rw [hr]; exact e.symm
      · rw [hr, hc, if_neg sg]; exact h1
      · rw [hr, hc, hc, if_neg sg, if_pos e]
        exact Int.le_refl _
    · rw [if_neg e] at hv
      obtain ⟨a', b', e1, e2, e3, e4, e5⟩ := B.way v k' hv
      refine ⟨a', b', e1, e2, e3, ?_, ?_⟩
      · rw [hc]
        split
        · have := B.le g; omega
        · exact e4
      · rw [hc, hc, if_neg e]
        split
        · rename_i e6
          rw [e6] at e5
          omega
        · exact e5
  · intro v hv
    rw [hc] at hv
    by_cases e : v = g
    · rw [e]; exact wg
    · rw [if_neg e] at hv
      obtain ⟨L, W⟩ := B.rch v hv
      exact all v L W
  · intro v hv
    rw [hc] at hv ⊢
    have hlt : cost cs s + p < far := by have := B.le g; omega
    rw [rc_set hlt hgl]
    by_cases e : v = g
    · rw [if_pos e]
      by_cases hg : cost cs g < far
      · have := B.hi g hg
        rw [if_pos hg]
        omega
      · have := B.hi s h1
        rw [if_neg hg]
        omega
    · rw [if_neg e] at hv ⊢
      have := B.hi v hv
      split <;> omega
/-- the start -/
theorem BF.start (as : List Arc) (f : List Bool) {N : Nat} (hN : 0 < N) (π : Nat → Int) : BF as f N π (0 :: List.replicate (N - 1) far) (List.replicate N none) := by
  have hc : ∀ v, cost (0 :: List.replicate (N - 1) far) v = if v = 0 then 0 else far := by
    intro v
    unfold cost
    cases v with
    | zero => rfl
    | succ v =>
      simp only [List.getD, List.getElem?_cons_succ, List.getElem?_replicate]
      split <;> simp
  refine ⟨by simp; omega, by simp, ?_, by simp [hN], ?_, ?_, ?_, ?_, ?_⟩
  · rw [hc]; rfl
  · intro v; rw [hc]; split <;> decide
  · intro v
    rw [hc]
    split
    · rename_i e; intro _; rw [e]; omega
    · intro h; exact absurd h (by decide)
  · intro v k h
    rw [List.getElem?_replicate] at h
    split at h <;> simp at h
  · intro v
    rw [hc]
    split
    · rename_i e; intro _; rw [e]; exact ⟨[], .nil⟩
    · intro h; exact absurd h (by decide)
  · intro v
    rw [hc]
    split
    · intro _
      have : 0 < rc (0 :: List.replicate (N - 1) far) := by
        simp only [rc, List.countP_cons]
        rw [if_pos (by decide)]
        omega
      omega
    · intro h; exact absurd h (by decide)
/-- what a sweep lowers -/
def meas (B : Int) (cs : List Int) : Nat := (cs.map fun c => (c + B).toNat).sum
theorem meas_set {B c : Int} : ∀ {cs : List Int} {g : Nat} {d : Int}, cs[g]? = some d → c < d → 0 ≤ c + B → meas B (cs.set g c) < meas B cs
  | [], _, _, h, _, _ => by simp at h
  | a :: cs, 0, d, h, h1, h2 => by
    simp at h
    subst h
    simp only [meas, List.set_cons_zero, List.map_cons, List.sum_cons]
    omega
  | a :: cs, g + 1, d, h, h1, h2 => by
    have := meas_set (B := B) (c := c) (cs := cs) (g := g) (d := d) (by simpa using h) h1 h2
    simp only [meas, List.set_cons_succ, List.map_cons, List.sum_cons] at this ⊢
    omega
theorem below : ∀ (N : Nat) (π : Nat → Int), ∃ B : Int, ∀ v, v < N → 0 ≤ π v - π 0 + B
  | 0, _ => ⟨0, fun v h => absurd h (Nat.not_lt_zero v)⟩
  | N + 1, π => by
    obtain ⟨B, h⟩ := below N π
    refine ⟨max B (π 0 - π N), fun v hv => ?_⟩
    by_cases e : v = N
    · subst e; omega
    · have := h v (by omega); omega
theorem BF.meas {as : List Arc} {f : List Bool} {N : Nat} {π : Nat → Int} {cs : List Int} {ws : Ways} (B : BF as f N π cs ws) (F : Feas as f π) {k : Nat} {a : Arc} {b : Bool} (ha : as[k]? = some a) (hb : f[k]? = some b) (hN : (resid a b).2.1 < N)
    (h1 : cost cs (resid a b).1 < far) (h2 : cost cs (resid a b).1 + (resid a b).2.2 < cost cs (resid a b).2.1) {C : Int} (hC : ∀ v, v < N → 0 ≤ π v - π 0 + C) :
    K57.meas C (cs.set (resid a b).2.1 (cost cs (resid a b).1 + (resid a b).2.2)) < K57.meas C cs := by
  have hg : cs[(resid a b).2.1]? = some (cost cs (resid a b).2.1) := by
    have hl : (resid a b).2.1 < cs.length := by rw [B.lc]; exact hN
    simp [cost, List.getD, hl]
  refine meas_set hg h2 ?_
  have q1 := F k a b ha hb
  have q2 := B.low _ h1
  have q3 := hC _ hN
  omega
/-- no arc can be relaxed any more -/
def Closed (as : List Arc) (f : List Bool) (cs : List Int) : Prop :=
  ∀ (k : Nat) (a : Arc) (b : Bool), as[k]? = some a → f[k]? = some b → cost cs (resid a b).1 < far → cost cs (resid a b).2.1 ≤ cost cs (resid a b).1 + (resid a b).2.2

/-! ### the next potential -/
theorem big : ∀ (as : List Arc) (f : List Bool) (π : Nat → Int), ∃ C : Int, 0 ≤ π 1 + C ∧ ∀ (k : Nat) (a : Arc) (b : Bool), as[k]? = some a → f[k]? = some b → far ≤ π (resid a b).1 + C + (resid a b).2.2
  | [], _, π => ⟨- π 1, by omega, fun k a b h => by simp at h⟩
  | _ :: _, [], π => ⟨- π 1, by omega, fun k a b _ h => by simp at h⟩
  | a :: as, b :: f, π => by
    obtain ⟨C, h0, h⟩ := big as f π
    refine ⟨max C (far - π (resid a b).1 - (resid a b).2.2), by omega, fun k a' b' ha hb => ?_⟩
    cases k with
    | zero =>
      simp at ha hb
      subst ha hb
      omega
    | succ k =>
      have := h k a' b' (by simpa using ha) (by simpa using hb)
      omega
def pot (cs : List Int) (π : Nat → Int) (C : Int) (v : Nat) : Int := if cost cs v < far then cost cs v else π v + C
theorem feas_pot {as : List Arc} {f : List Bool} {N : Nat} {π : Nat → Int} {cs : List Int} {ws : Ways} {C : Int} (B : BF as f N π cs ws) (F : Feas as f π) (cl : Closed as f cs) (hN : N ≤ 1000) (hp : ∀ (k : Nat) (a : Arc) (b : Bool), as[k]? = some a → f[k]? = some b → (resid a b).2.2 ≤ 1)
    (hC : ∀ (k : Nat) (a : Arc) (b : Bool), as[k]? = some a → f[k]? = some b → far ≤ π (resid a b).1 + C + (resid a b).2.2) : Feas as f (pot cs π C) := by
  intro k a b ha hb
  have q1 := F k a b ha hb
  have q2 := cl k a b ha hb
  have q3 := hC k a b ha hb
  have q4 := B.le (resid a b).2.1
  have q5 := hp k a b ha hb
  have q6 : rc cs ≤ N := by rw [← B.lc]; exact List.countP_le_length
  unfold pot
  by_cases h1 : cost cs (resid a b).1 < far
  · have := q2 h1
    have := B.hi _ h1
    rw [if_pos h1]
    by_cases h2 : cost cs (resid a b).2.1 < far
    · rw [if_pos h2]; omega
    · have e : far = 1000000 := rfl
      omega
  · rw [if_neg h1]
    by_cases h2 : cost cs (resid a b).2.1 < far
    · rw [if_pos h2]; omega
    · rw [if_neg h2]; omega

/-! ### the way back from a node -/
section
variable {as : List Arc} {f : List Bool} {ws : Ways}
theorem Way.uniq {v : Nat} {L L' : List Nat} (W : Way as f ws v L) (W' : Way as f ws v L') : L = L' := by
  induction W generalizing L' with
  | nil =>
    cases W' with
    | nil => rfl
    | cons h => exact absurd rfl h
  | @cons v k a b L v0 hv ha hb hg _ ih =>
    cases W' with
    | nil => exact absurd rfl v0
    | @cons _ k' a' b' L' _ hv' ha' hb' hg' W2 =>
      rw [hv] at hv'
      cases hv'
      rw [ha] at ha'
      cases ha'
      rw [hb] at hb'
      cases hb'
      rw [ih W2]
theorem Way.mem {v : Nat} {L : List Nat} (W : Way as f ws v L) {k : Nat} (hk : k ∈ L) : ∃ (a : Arc) (b : Bool) (L2 : List Nat), as[k]? = some a ∧ f[k]? = some b ∧ Way as f ws (resid a b).2.1 (k :: L2) ∧ L2.length < L.length := by
  induction W with
  | nil => cases hk
  | @cons v k' a b L v0 hv ha hb hg W2 ih =>
    rcases List.mem_cons.mp hk with rfl | hk
    · refine ⟨a, b, L, ha, hb, ?_, Nat.lt_succ_self _⟩
      rw [hg]
      exact .cons v0 hv ha hb hg W2
    · obtain ⟨a', b', L2, h1, h2, h3, h4⟩ := ih hk
      exact ⟨a', b', L2, h1, h2, h3, Nat.lt_succ_of_lt h4⟩
theorem Way.fresh {v k : Nat} {L : List Nat} (W : Way as f ws v (k :: L)) : k ∉ L := by
  intro hk
  cases W with
  | @cons _ _ a b _ v0 hv ha hb hg W2 =>
    obtain ⟨a', b', L2, h1, h2, h3, h4⟩ := W2.mem hk
    rw [ha] at h1
    cases h1
    rw [hb] at h2
    cases h2
    rw [hg] at h3
    have := (Way.cons v0 hv ha hb hg W2).uniq h3
    injection this with _ e
    rw [e] at h4
    exact Nat.lt_irrefl _ h4
end
/-- on the way back from node 1, at v: f is the flow as it began, g as it stands -/
structure Back (as : List Arc) (f : List Bool) (ws : Ways) (π : Nat → Int) (v : Nat) (g : List Bool) : Prop where
  len : g.length = f.length
  way : ∃ L, Way as f ws v L ∧ ∀ k ∈ L, g[k]? = f[k]?
  feas : Feas as g π
  sum : ∀ ψ : Nat → Int, S as g (fun a => ψ a.1 - ψ a.2.1) = S as f (fun a => ψ a.1 - ψ a.2.1) + (ψ v - ψ 1)
theorem Back.turn {as : List Arc} {f : List Bool} {ws : Ways} {π : Nat → Int} {v k : Nat} {g : List Bool} {a : Arc} {b : Bool} (W : Back as f ws π v g) (v0 : v ≠ 0) (hk : ws[v]? = some (some k)) (ha : as[k]? = some a) (hb : f[k]? = some b)
    (tight : π (resid a b).2.1 = π (resid a b).1 + (resid a b).2.2) : g[k]? = some b ∧ Back as f ws π (resid a b).1 (g.set k (!b)) := by
  obtain ⟨L, w, same⟩ := W.way
  have wf := @Way.fresh as f ws v
  cases w with
  | nil => exact absurd rfl v0
  | @cons _ k' a' b' L _ hv ha' hb' hg w2 =>
    rw [hk] at hv
    cases hv
    rw [ha] at ha'
    cases ha'
    rw [hb] at hb'
    cases hb'
    have hfr : k ∉ L := wf (.cons v0 hk ha hb hg w2)
    have hgk : g[k]? = some b := (same k List.mem_cons_self).trans hb
    have hkl : k < g.length := (List.getElem?_eq_some_iff.mp hgk).1
    refine ⟨hgk, by rw [List.length_set, W.len], ⟨L, w2, fun j hj => ?_⟩, ?_, ?_⟩
    · rw [List.getElem?_set_ne (fun e => hfr (by rw [e]; exact hj))]
      exact same j (List.mem_cons_of_mem _ hj)
    · intro j a2 b2 h1 h2
      by_cases e : k = j
      · subst e
        rw [List.getElem?_set_self hkl] at h2
        cases h2
        rw [ha] at h1
        cases h1
        cases b <;> simp [resid] at tight ⊢ <;> omega
      · rw [List.getElem?_set_ne e] at h2
        exact W.feas j a2 b2 h1 h2
    · intro ψ
      rw [S_set _ ha hgk, W.sum ψ]
      rw [← hg]
      cases b <;> simp [resid] <;> omega
/-- the flow of a word, as good as p ways can be -/
structure Flow (w : List Int) (f : List Bool) (p : Nat) : Prop where
  len : f.length = (arcsOf w).length
  val : Valid (arcsOf w) f p
  feas : ∃ π, Feas (arcsOf w) f π ∧ (p = 0 ∨ π 1 ≤ π 0)
structure Best (w : List Int) (f : List Bool) (k : Nat) : Prop where
  ex : ∃ p, p ≤ k ∧ Flow w f p ∧ (p = k ∨ ∃ π, Feas (arcsOf w) f π ∧ π 0 ≤ π 1)
theorem price_le {w : List Int} {k : Nat} {a : Arc} {b : Bool} (ha : (arcsOf w)[k]? = some a) : (resid a b).2.2 ≤ 1 := by
  have h := mem_arcsTo.mp (List.mem_of_getElem? ha)
  cases h <;> cases b <;> simp [resid]
theorem node_lt {w : List Int} {k : Nat} {a : Arc} {b : Bool} (ha : (arcsOf w)[k]? = some a) : (resid a b).1 < 2 * w.length + 2 ∧ (resid a b).2.1 < 2 * w.length + 2 := by
  have h := mem_arcsTo.mp (List.mem_of_getElem? ha)
  cases h <;> cases b <;> simp [resid] <;> omega
theorem flow_start (w : List Int) : Flow w (List.replicate (arcsOf w).length false) 0 := by
  refine ⟨by simp, fun π => by rw [S_false]; simp, fun v => if v = 0 then 0 else if v = 1 then - (w.length : Int) else if v % 2 = 0 then 1 - ((v / 2 : Nat) : Int) else - ((v / 2 : Nat) : Int), ?_, .inl rfl⟩
  intro k a b ha hb
  have h := mem_arcsTo.mp (List.mem_of_getElem? ha)
  have hb' : b = false := by
    rw [List.getElem?_replicate] at hb
    split at hb
    · cases hb; rfl
    · cases hb
  subst hb'
  cases h with
  | @src i hi =>
    simp only [resid]
    have e1 : (2 + 2 * i) / 2 = i + 1 := by omega
    have e2 : (2 + 2 * i) % 2 = 0 := by omega
    simp [e1, e2]
    omega
  | @mid i hi =>
    have e1 : (2 + 2 * i) / 2 = i + 1 := by omega
    have e2 : (2 + 2 * i) % 2 = 0 := by omega
    have e3 : (3 + 2 * i) / 2 = i + 1 := by omega
    have e4 : (3 + 2 * i) % 2 = 1 := by omega
    simp [resid, e1, e2, e3, e4, show ¬ (2 + 2 * i = 0) by omega, show ¬ (2 + 2 * i = 1) by omega, show ¬ (3 + 2 * i = 0) by omega, show ¬ (3 + 2 * i = 1) by omega]
    omega
  | @snk i hi =>
    have e3 : (3 + 2 * i) / 2 = i + 1 := by omega
    have e4 : (3 + 2 * i) % 2 = 1 := by omega
    simp [resid, e3, e4, show ¬ (3 + 2 * i = 0) by omega, show ¬ (3 + 2 * i = 1) by omega]
    omega
  | @nxt i l hi h1 h2 h3 =>
    have e1 : (2 + 2 * l) / 2 = l + 1 := by omega
    have e2 : (2 + 2 * l) % 2 = 0 := by omega
    have e3 : (3 + 2 * i) / 2 = i + 1 := by omega
    have e4 : (3 + 2 * i) % 2 = 1 := by omega
    simp [resid, e1, e2, e3, e4, show ¬ (2 + 2 * l = 0) by omega, show ¬ (2 + 2 * l = 1) by omega, show ¬ (3 + 2 * i = 0) by omega, show ¬ (3 + 2 * i = 1) by omega]
    omega
/-- what least_costs hands back -/
structure Least (w : List Int) (f : List Bool) (cs : List Int) (ws : Ways) : Prop where
  ex : ∃ π, Feas (arcsOf w) f π ∧ BF (arcsOf w) f (2 * w.length + 2) π cs ws
  cl : Closed (arcsOf w) f cs
/-- no more way is worth it -/
theorem best_stop {w : List Int} {f : List Bool} {p k : Nat} {cs : List Int} {ws : Ways} (hw : w.length ≤ 400) (hp : p ≤ k) (F : Flow w f p) (L : Least w f cs ws) (h : 0 ≤ cost cs 1) : Best w f k := by
  obtain ⟨π, fe, B⟩ := L.ex
  obtain ⟨C, h0, hC⟩ := big (arcsOf w) f π
  refine ⟨p, hp, F, .inr ⟨pot cs π C, feas_pot B fe L.cl (by omega) (fun k a b ha _ => price_le ha) hC, ?_⟩⟩
  unfold pot
  rw [B.c0, if_pos (by decide)]
  split <;> omega
/-- one way more: the walk back begins -/
theorem walk_start {w : List Int} {f : List Bool} {cs : List Int} {ws : Ways} (hw : w.length ≤ 400) (L : Least w f cs ws) (h : cost cs 1 < 0) :
    ∃ π, π 0 = 0 ∧ π 1 < 0 ∧ Back (arcsOf w) f ws π 1 f ∧ ∀ (v k : Nat), ws[v]? = some (some k) → ∃ (a : Arc) (b : Bool), (arcsOf w)[k]? = some a ∧ f[k]? = some b ∧ (resid a b).2.1 = v ∧ π (resid a b).2.1 = π (resid a b).1 + (resid a b).2.2 := by
  obtain ⟨π, fe, B⟩ := L.ex
  obtain ⟨C, h0, hC⟩ := big (arcsOf w) f π
  have fp := feas_pot B fe L.cl (by omega) (fun k a b ha _ => price_le ha) hC
  have h1 : cost cs 1 < far := by have e : far = 1000000 := rfl; omega
  refine ⟨pot cs π C, ?_, ?_, ⟨rfl, ?_, fp, fun ψ => by omega⟩, ?_⟩
  · unfold pot; rw [B.c0]; rfl
  · unfold pot; rw [if_pos h1]; exact h
  · obtain ⟨L, W⟩ := B.rch 1 h1
    exact ⟨L, W, fun _ _ => rfl⟩
  · intro v k hv
    obtain ⟨a, b, e1, e2, e3, e4, e5⟩ := B.way v k hv
    refine ⟨a, b, e1, e2, e3, ?_⟩
    have q := L.cl k a b e1 e2 e4
    have q2 : rc cs ≤ 2 * w.length + 2 := by rw [← B.lc]; exact List.countP_le_length
    have q3 := B.hi _ e4
    have q4 := price_le (b := b) e1
    have e : far = 1000000 := rfl
    rw [e3] at q ⊢
    unfold pot
    rw [if_pos e4, if_pos (by omega)]
    omega
/-- .. and is over -/
theorem walk_end {w : List Int} {f g : List Bool} {p : Nat} {ws : Ways} {π : Nat → Int} (F : Flow w f p) (h0 : π 0 = 0) (h1 : π 1 < 0) (W : Back (arcsOf w) f ws π 0 g) : Flow w g (p + 1) := by
  refine ⟨W.len.trans F.len, fun ψ => ?_, π, W.feas, .inr (by omega)⟩
  rw [W.sum ψ, F.val ψ]
  have : ((p + 1 : Nat) : Int) * (ψ 0 - ψ 1) = (p : Int) * (ψ 0 - ψ 1) + (ψ 0 - ψ 1) := by
    rw [Int.natCast_add, Int.add_mul]
    simp
  omega
theorem best_end {w : List Int} {f : List Bool} {k : Nat} (F : Flow w f k) : Best w f k := ⟨k, Nat.le_refl _, F, .inl rfl⟩
end K57
/-! The used arcs of a best flow: as many places as the boxes in the first rows. -/
set_option Elab.async false
set_option linter.all false
namespace K57
def src (i : Nat) : Arc := (0, 2 + 2 * i, 0)
def mid (i : Nat) : Arc := (2 + 2 * i, 3 + 2 * i, -1)
structure UF (w : List Int) (U : List Arc) (p : Nat) : Prop where
  nd : U.Nodup
  arc : ∀ a ∈ U, IsArc w w.length a
  val : ∀ ψ : Nat → Int, (U.map fun a => ψ a.1 - ψ a.2.1).sum = p * (ψ 0 - ψ 1)
theorem Flow.uf {w : List Int} {f : List Bool} {p : Nat} (F : Flow w f p) : UF w (used (arcsOf w) f) p where
  nd := (arcs_nodup w w.length).sublist (used_sub _ _)
  arc := fun a ha => mem_arcsTo.mp ((used_sub _ _).subset ha)
  val := fun ψ => by rw [← S_used]; exact F.val ψ
theorem ind_sum (v : Nat) : ∀ U : List Arc, (U.map fun a => (if a.1 = v then (1 : Int) else 0) - (if a.2.1 = v then 1 else 0)).sum = (U.countP fun a => decide (a.1 = v)) - (U.countP fun a => decide (a.2.1 = v))
  | [] => rfl
  | a :: U => by
    simp only [List.map_cons, List.sum_cons, ind_sum v U, List.countP_cons, decide_eq_true_eq]
    split <;> split <;> omega
theorem one_of {U : List Arc} (nd : U.Nodup) {q : Arc → Bool} (h : ∀ a ∈ U, ∀ b ∈ U, q a = true → q b = true → a = b) : U.countP q ≤ 1 := by
  rw [List.countP_eq_length_filter]
  have n2 := nd.filter q
  rcases hf : U.filter q with _ | ⟨a, _ | ⟨b, r⟩⟩
  · exact Nat.zero_le _
  · exact Nat.le_refl _
  · have ha : a ∈ U.filter q := by rw [hf]; simp
    have hb : b ∈ U.filter q := by rw [hf]; simp
    obtain ⟨a1, a2⟩ := List.mem_filter.mp ha
    obtain ⟨b1, b2⟩ := List.mem_filter.mp hb
    rw [hf] at n2
    exact absurd (h a a1 b b1 a2 b2) ((List.pairwise_cons.mp n2).1 b List.mem_cons_self)
theorem eq_of_one {q : Arc → Bool} {U : List Arc} (h : U.countP q ≤ 1) : ∀ a ∈ U, ∀ b ∈ U, q a = true → q b = true → a = b := by
  intro a ha b hb qa qb
  rw [List.countP_eq_length_filter] at h
  have h1 : a ∈ U.filter q := List.mem_filter.mpr ⟨ha, qa⟩
  have h2 : b ∈ U.filter q := List.mem_filter.mpr ⟨hb, qb⟩
  rcases hf : U.filter q with _ | ⟨c, _ | ⟨d, r⟩⟩
  · rw [hf] at h1; cases h1
  · rw [hf] at h1 h2
    rw [List.mem_singleton.mp h1, List.mem_singleton.mp h2]
  · rw [hf] at h; simp at h
section
variable {w : List Int} {U : List Arc} {p : Nat}
theorem UF.flux (u : UF w U p) {v : Nat} (h0 : v ≠ 0) (h1 : v ≠ 1) : (U.countP fun a => decide (a.1 = v)) = (U.countP fun a => decide (a.2.1 = v)) := by
  have := u.val fun x => if x = v then 1 else 0
  rw [ind_sum, if_neg (Ne.symm h0), if_neg (Ne.symm h1)] at this
  simp at this
  omega
theorem UF.into_out (u : UF w U p) {a : Arc} {i : Nat} (ha : a ∈ U) (h : a.2.1 = 3 + 2 * i) : a = mid i := by
  have := u.arc a ha
  cases this <;> simp [mid] at h ⊢ <;> omega
theorem UF.from_in (u : UF w U p) {a : Arc} {i : Nat} (ha : a ∈ U) (h : a.1 = 2 + 2 * i) : a = mid i := by
  have := u.arc a ha
  cases this <;> simp [mid] at h ⊢ <;> omega
theorem UF.out_le (u : UF w U p) (i : Nat) : (U.countP fun a => decide (a.1 = 3 + 2 * i)) ≤ 1 := by
  rw [u.flux (by omega) (by omega)]
  refine one_of u.nd fun a ha b hb qa qb => ?_
  rw [u.into_out ha (of_decide_eq_true qa), u.into_out hb (of_decide_eq_true qb)]
theorem UF.in_le (u : UF w U p) (i : Nat) : (U.countP fun a => decide (a.2.1 = 2 + 2 * i)) ≤ 1 := by
  rw [← u.flux (by omega) (by omega)]
  refine one_of u.nd fun a ha b hb qa qb => ?_
  rw [u.from_in ha (of_decide_eq_true qa), u.from_in hb (of_decide_eq_true qb)]
theorem UF.out_one (u : UF w U p) {i : Nat} {a b : Arc} (ha : a ∈ U) (hb : b ∈ U) (ea : a.1 = 3 + 2 * i) (eb : b.1 = 3 + 2 * i) : a = b :=
  eq_of_one (u.out_le i) a ha b hb (decide_eq_true ea) (decide_eq_true eb)
theorem UF.in_one (u : UF w U p) {i : Nat} {a b : Arc} (ha : a ∈ U) (hb : b ∈ U) (ea : a.2.1 = 2 + 2 * i) (eb : b.2.1 = 2 + 2 * i) : a = b :=
  eq_of_one (u.in_le i) a ha b hb (decide_eq_true ea) (decide_eq_true eb)
theorem UF.mid_of_out (u : UF w U p) {i : Nat} {a : Arc} (ha : a ∈ U) (ea : a.1 = 3 + 2 * i) : mid i ∈ U := by
  have h : 0 < U.countP fun a => decide (a.2.1 = 3 + 2 * i) := by
    rw [← u.flux (by omega) (by omega)]
    exact List.countP_pos_iff.mpr ⟨a, ha, decide_eq_true ea⟩
  obtain ⟨b, hb, eb⟩ := List.countP_pos_iff.mp h
  rw [← u.into_out hb (of_decide_eq_true eb)]
  exact hb
theorem UF.in_of_mid (u : UF w U p) {i : Nat} (h : mid i ∈ U) : ∃ a ∈ U, a.2.1 = 2 + 2 * i := by
  have h : 0 < U.countP fun a => decide (a.2.1 = 2 + 2 * i) := by
    rw [← u.flux (by omega) (by omega)]
    exact List.countP_pos_iff.mpr ⟨_, h, decide_eq_true rfl⟩
  obtain ⟨b, hb, eb⟩ := List.countP_pos_iff.mp h
  exact ⟨b, hb, of_decide_eq_true eb⟩
theorem UF.mid_of_in (u : UF w U p) {i : Nat} {a : Arc} (ha : a ∈ U) (ea : a.2.1 = 2 + 2 * i) : mid i ∈ U := by
  have h : 0 < U.countP fun a => decide (a.1 = 2 + 2 * i) := by
    rw [u.flux (by omega) (by omega)]
    exact List.countP_pos_iff.mpr ⟨a, ha, decide_eq_true ea⟩
  obtain ⟨b, hb, eb⟩ := List.countP_pos_iff.mp h
  rw [← u.from_in hb (of_decide_eq_true eb)]
  exact hb
theorem UF.srcs (u : UF w U p) : (U.countP fun a => decide (a.1 = 0)) = p := by
  have := u.val fun x => if x = 0 then 1 else 0
  rw [ind_sum] at this
  have e : (U.countP fun a => decide (a.2.1 = 0)) = 0 := by
    rw [List.countP_eq_zero]
    intro a ha
    have := u.arc a ha
    cases this <;> simp
  rw [e] at this
  simp at this
  omega
/-- how many places the flow takes -/
def tot (U : List Arc) : Nat := U.countP fun a => decide (a.2.2 = -1)

/-! ### the flow's ways are rising rows -/
structure Cols (w : List Int) (U : List Arc) (i : Nat) (c : CW) : Prop where
  fst : c.map Prod.fst = w.take i
  le : ∀ x ∈ c, x.2 ≤ (List.range i).countP fun j => decide (src j ∈ U)
  ne : ∀ j x, c[j]? = some x → (x.2 ≠ 0 ↔ mid j ∈ U)
  ok : OkC c
  ch : ∀ j j' x y, j < j' → c[j]? = some x → c[j']? = some y → x.2 = y.2 → x.2 ≠ 0 → ∃ l, l ≤ j' ∧ ((3 + 2 * j, 2 + 2 * l, 0) : Arc) ∈ U
  n : cnt c = (List.range i).countP fun j => decide (mid j ∈ U)
theorem cols_len {i : Nat} {c : CW} (h : Cols w U i c) (hi : i ≤ w.length) : c.length = i := by
  have := congrArg List.length h.fst
  simp at this
  omega
theorem get_snoc {c : CW} {z x : Int × Nat} {j : Nat} (h : (c ++ [z])[j]? = some x) : (j < c.length ∧ c[j]? = some x) ∨ (j = c.length ∧ x = z) := by
  by_cases hj : j < c.length
  · rw [List.getElem?_append_left hj] at h
    exact .inl ⟨hj, h⟩
  · rw [List.getElem?_append_right (by omega)] at h
    have : j - c.length = 0 := by
      have := (List.getElem?_eq_some_iff.mp h).1
      simp at this
      omega
    rw [this] at h
    simp at h
    exact .inr ⟨by omega, h.symm⟩
theorem cols (u : UF w U p) : ∀ i, i ≤ w.length → ∃ c, Cols w U i c
  | 0, _ => ⟨[], by simp, by simp, by simp, okC_nil, by simp, by simp [cnt]⟩
  | i + 1, hi => by
    obtain ⟨c, C⟩ := cols u i (by omega)
    have hl := cols_len C (by omega)
    have hwi : w[i]? = some (w.getD i 0) := by
      have : i < w.length := by omega
      simp [List.getD, this]
    have fst : ∀ z : Nat, (c ++ [(w.getD i 0, z)]).map Prod.fst = w.take (i + 1) := by
      intro z
      rw [List.map_append, C.fst, List.take_add_one, hwi]
      rfl
    have q_succ : ∀ q : Nat → Bool, (List.range (i + 1)).countP q = (List.range i).countP q + (if q i = true then 1 else 0) := by
      intro q
      rw [List.range_succ, List.countP_append, List.countP_singleton]
    have letter : ∀ (j : Nat) (x : Int × Nat), c[j]? = some x → w.getD j 0 = x.1 := by
      intro j x h
      have h1 : (c.map Prod.fst)[j]? = some x.1 := by rw [List.getElem?_map, h]; rfl
      rw [C.fst, List.getElem?_take] at h1
      split at h1
      · simp [List.getD, h1]
      · cases h1
    by_cases hm : mid i ∈ U
    · obtain ⟨a, ha, ea⟩ := u.in_of_mid hm
      have hA := u.arc a ha
      cases hA with
      | mid h => simp at ea; omega
      | snk h => simp at ea; omega
      | @src i' h =>
        have hs : i' = i := by simp at ea; omega
        subst hs
        have hsr : src i' ∈ U := ha
        refine ⟨c ++ [(w.getD i' 0, (List.range i').countP (fun j => decide (src j ∈ U)) + 1)], fst _, ?_, ?_, ?_, ?_, ?_⟩
        · intro x hx
          rw [q_succ]
          simp only [hsr, decide_true, if_true]
          rcases List.mem_append.mp hx with hx | hx
          · have := C.le x hx; omega
          · rw [List.mem_singleton.mp hx]; exact Nat.le_refl _
        · intro j x hx
          rcases get_snoc hx with ⟨h1, h2⟩ | ⟨h1, h2⟩
          · exact C.ne j x h2
          · subst h2
            rw [h1, hl]
            simp [hm]
        · refine okC_append.mpr ⟨C.ok, by simp [OkC], ?_⟩
          intro x hx y hy e0 _
          have := C.le x hx
          rw [List.mem_singleton.mp hy] at e0
          dsimp only at e0
          omega
        · intro j j' x y hj hx hy e0 e1
          rcases get_snoc hy with ⟨h1, h2⟩ | ⟨h1, h2⟩
          · rcases get_snoc hx with ⟨h3, h4⟩ | ⟨h3, h4⟩
            · exact C.ch j j' x y hj h4 h2 e0 e1
            · omega
          · rcases get_snoc hx with ⟨h3, h4⟩ | ⟨h3, h4⟩
            · have := C.le x (List.mem_of_getElem? h4)
              rw [h2] at e0
              dsimp only at e0
              omega
            · omega
        · rw [cnt_append, C.n, q_succ]
          simp [cnt_cons, hm, cnt]
      | @nxt j0 i' h0 h1 h2 h3 =>
        have hs : i' = i := by simp at ea; omega
        subst hs
        have hj0 : j0 < c.length := by omega
        obtain ⟨x0, hx0⟩ : ∃ x0, c[j0]? = some x0 := ⟨c[j0], List.getElem?_eq_getElem hj0⟩
        have x0ne : x0.2 ≠ 0 := (C.ne j0 x0 hx0).mpr (u.mid_of_out ha rfl)
        have hw0 : x0.1 ≤ w.getD i' 0 := by rw [← letter j0 x0 hx0]; exact h3
        have nosrc : src i' ∉ U := fun z => by
          have := u.in_one ha z rfl rfl
          simp [src] at this
        -- all others of this colour stand ahead of j0
        have ahead : ∀ (j : Nat) (x : Int × Nat), c[j]? = some x → x.2 = x0.2 → j ≤ j0 := by
          intro j x hx e
          apply Classical.byContradiction
          intro hj
          obtain ⟨l, l1, l2⟩ := C.ch j0 j x0 x (by omega) hx0 hx e.symm x0ne
          have := u.out_one ha l2 rfl rfl
          have hjl := (List.getElem?_eq_some_iff.mp hx).1
          simp at this
          omega
        refine ⟨c ++ [(w.getD i' 0, x0.2)], fst _, ?_, ?_, ?_, ?_, ?_⟩
        · intro x hx
          rw [q_succ]
          simp only [nosrc, decide_false]
          rcases List.mem_append.mp hx with hx | hx
          · have := C.le x hx; omega
          · rw [List.mem_singleton.mp hx]
            have := C.le x0 (List.mem_of_getElem? hx0)
            dsimp only; omega
        · intro j x hx
          rcases get_snoc hx with ⟨h1, h2⟩ | ⟨h1, h2⟩
          · exact C.ne j x h2
          · subst h2
            rw [h1, hl]
            simp [hm, x0ne]
        · refine okC_append.mpr ⟨C.ok, by simp [OkC], ?_⟩
          intro x hx y hy e0 e1
          rw [List.mem_singleton.mp hy] at e0 ⊢
          dsimp only at e0 ⊢
          obtain ⟨j, hj, ej⟩ := List.mem_iff_getElem.mp hx
          have hx' : c[j]? = some x := by rw [List.getElem?_eq_getElem hj, ej]
          have hjj := ahead j x hx' e0
          rcases Nat.lt_or_eq_of_le hjj with hlt | heq
          · have hp := List.pairwise_iff_getElem.mp C.ok j j0 hj hj0 hlt
            have e3 : c[j0] = x0 := by
              have := hx0
              rw [List.getElem?_eq_getElem hj0] at this
              exact Option.some.inj this
            rw [ej, e3] at hp
            have := hp e0 e1
            omega
          · subst heq
            rw [hx0] at hx'
            cases hx'
            exact hw0
        · intro j j' x y hj hx hy e0 e1
          rcases get_snoc hy with ⟨h1, h2⟩ | ⟨h1, h2⟩
          · rcases get_snoc hx with ⟨h3, h4⟩ | ⟨h3, h4⟩
            · exact C.ch j j' x y hj h4 h2 e0 e1
            · omega
          · rcases get_snoc hx with ⟨h3, h4⟩ | ⟨h3, h4⟩
            · rw [h2] at e0
              dsimp only at e0
              have hjj := ahead j x h4 e0
              rcases Nat.lt_or_eq_of_le hjj with hlt | heq
              · obtain ⟨l, l1, l2⟩ := C.ch j j0 x x0 hlt h4 hx0 e0 e1
                exact ⟨l, by omega, l2⟩
              · subst heq
                exact ⟨i', by omega, ha⟩
            · omega
        · rw [cnt_append, C.n, q_succ]
          simp [cnt_cons, hm, x0ne, cnt]
    · have nosrc : src i ∉ U := fun z => hm (u.mid_of_in z rfl)
      refine ⟨c ++ [(w.getD i 0, 0)], fst _, ?_, ?_, ?_, ?_, ?_⟩
      · intro x hx
        rw [q_succ]
        simp only [nosrc, decide_false]
        rcases List.mem_append.mp hx with hx | hx
        · have := C.le x hx; omega
        · rw [List.mem_singleton.mp hx]; exact Nat.zero_le _
      · intro j x hx
        rcases get_snoc hx with ⟨h1, h2⟩ | ⟨h1, h2⟩
        · exact C.ne j x h2
        · subst h2
          rw [h1, hl]
          simp [hm]
      · refine okC_append.mpr ⟨C.ok, by simp [OkC], ?_⟩
        intro x hx y hy e0 e1
        rw [List.mem_singleton.mp hy] at e0
        exact absurd e0 e1
      · intro j j' x y hj hx hy e0 e1
        rcases get_snoc hy with ⟨h1, h2⟩ | ⟨h1, h2⟩
        · rcases get_snoc hx with ⟨h3, h4⟩ | ⟨h3, h4⟩
          · exact C.ch j j' x y hj h4 h2 e0 e1
          · omega
        · rw [h2] at e0
          exact absurd e0 e1
      · rw [cnt_append, C.n, q_succ]
        simp [cnt_cons, hm, cnt]
theorem UF.fam (u : UF w U p) : Fam p (tot U) w := by
  obtain ⟨c, C⟩ := cols u w.length (Nat.le_refl _)
  refine ⟨c, by rw [C.fst, List.take_length], fun x hx => Nat.le_trans (C.le x hx) ?_, C.ok, ?_⟩
  · rw [← u.srcs, List.countP_eq_length_filter, List.countP_eq_length_filter]
    rw [← List.length_map (f := src)]
    refine List.Nodup.length_le_of_subset ?_ ?_
    · refine List.pairwise_map.mpr (List.Pairwise.imp ?_ ((List.nodup_range).filter _))
      intro a b hab e
      simp [src] at e
      omega
    · intro a ha
      obtain ⟨j, hj, rfl⟩ := List.mem_map.mp ha
      exact List.mem_filter.mpr ⟨of_decide_eq_true (List.mem_filter.mp hj).2, rfl⟩
  · rw [C.n]
    unfold tot
    rw [List.countP_eq_length_filter, List.countP_eq_length_filter]
    rw [← List.length_map (f := mid)]
    refine List.Nodup.length_le_of_subset (u.nd.filter _) ?_
    intro a ha
    obtain ⟨h1, h2⟩ := List.mem_filter.mp ha
    have := u.arc a h1
    cases this with
    | src h => simp at h2
    | snk h => simp at h2
    | nxt h => simp at h2
    | @mid i h => exact List.mem_map.mpr ⟨i, List.mem_filter.mpr ⟨List.mem_range.mpr h, decide_eq_true h1⟩, rfl⟩
end

/-! ### no rows are better -/
/-- an arc's reduced cost -/
def rho (π : Nat → Int) (a : Arc) : Int := a.2.2 + π a.1 - π a.2.1
def low (π : Nat → Int) (a : Arc) : Int := min (rho π a) 0
theorem low_le {π : Nat → Int} {a : Arc} : low π a ≤ rho π a ∧ low π a ≤ 0 := by unfold low; omega
def sumL (π : Nat → Int) (l : List Arc) : Int := (l.map (low π)).sum
theorem sumL_append (π : Nat → Int) (l m : List Arc) : sumL π (l ++ m) = sumL π l + sumL π m := by simp [sumL]
theorem sumL_cons (π : Nat → Int) (a : Arc) (m : List Arc) : sumL π (a :: m) = low π a + sumL π m := by simp [sumL]
theorem sumL_neg (π : Nat → Int) : ∀ l : List Arc, sumL π l ≤ 0
  | [] => by simp [sumL]
  | a :: l => by
    have := sumL_neg π l
    have := (low_le (π := π) (a := a)).2
    rw [sumL_cons]; omega
theorem sumL_mem {π : Nat → Int} {a : Arc} : ∀ {l : List Arc}, a ∈ l → sumL π l ≤ low π a
  | b :: l, h => by
    rw [sumL_cons]
    rcases List.mem_cons.mp h with rfl | h
    · have := sumL_neg π l; omega
    · have := sumL_mem (π := π) h
      have := (low_le (π := π) (a := b)).2
      omega
theorem S_low {π : Nat → Int} : ∀ {as : List Arc} {f : List Bool}, f.length = as.length → Feas as f π → S as f (rho π) = sumL π as
  | [], _, _, _ => by simp [S, sumL]
  | a :: as, [], h, _ => by simp at h
  | a :: as, b :: f, h, F => by
    have h0 := F 0 a b rfl rfl
    have ih := S_low (π := π) (as := as) (f := f) (by simpa using h) fun k a' b' ha hb => F (k + 1) a' b' (by simpa using ha) (by simpa using hb)
    rw [sumL_cons, ← ih]
    simp only [S]
    congr 1
    unfold low rho
    cases b <;> simp [resid] at h0 ⊢ <;> omega
/-- the first node of a colour behind place j, 1 if there is none -/
def hd : Nat → CW → Nat → Nat
  | _, [], _ => 1
  | j, x :: xs, c => if x.2 = c then 2 + 2 * j else hd (j + 1) xs c
theorem hd_some : ∀ {j : Nat} {xs : CW} {c : Nat}, (∃ i x, xs[i]? = some x ∧ x.2 = c ∧ hd j xs c = 2 + 2 * (j + i)) ∨ ((∀ x ∈ xs, x.2 ≠ c) ∧ hd j xs c = 1)
  | j, [], c => .inr ⟨by simp, rfl⟩
  | j, x :: xs, c => by
    unfold hd
    by_cases h : x.2 = c
    · rw [if_pos h]
      exact .inl ⟨0, x, rfl, h, rfl⟩
    · rw [if_neg h]
      rcases hd_some (j := j + 1) (xs := xs) (c := c) with ⟨i, y, h1, h2, h3⟩ | ⟨h1, h2⟩
      · exact .inl ⟨i + 1, y, by simpa using h1, h2, by rw [h3]; omega⟩
      · refine .inr ⟨?_, h2⟩
        intro y hy
        rcases List.mem_cons.mp hy with rfl | hy
        · exact h
        · exact h1 y hy
def sumC (C : List Nat) (F : Nat → Int) : Int := (C.map F).sum
theorem sumC_erase {F : Nat → Int} {c : Nat} : ∀ {C : List Nat}, c ∈ C → sumC C F = F c + sumC (C.erase c) F
  | d :: C, h => by
    by_cases e : d = c
    · subst e
      simp [sumC]
    · have h2 : c ∈ C := by
        rcases List.mem_cons.mp h with rfl | h
        · exact absurd rfl e
        · exact h
      have := sumC_erase (F := F) h2
      rw [List.erase_cons_tail (by simpa using e)]
      simp only [sumC, List.map_cons, List.sum_cons] at this ⊢
      omega
theorem sumC_congr {F G : Nat → Int} : ∀ {C : List Nat}, (∀ c ∈ C, F c = G c) → sumC C F = sumC C G
  | [], _ => rfl
  | d :: C, h => by
    have := sumC_congr (F := F) (G := G) (C := C) fun c hc => h c (List.mem_cons_of_mem _ hc)
    have h2 := h d List.mem_cons_self
    simp only [sumC, List.map_cons, List.sum_cons] at this ⊢
    omega
theorem sumC_add (F G : Nat → Int) : ∀ C : List Nat, sumC C (fun c => F c + G c) = sumC C F + sumC C G
  | [] => rfl
  | d :: C => by
    have := sumC_add F G C
    simp only [sumC, List.map_cons, List.sum_cons] at this ⊢
    omega
theorem sumC_const (z : Int) : ∀ C : List Nat, sumC C (fun _ => z) = C.length * z
  | [] => by simp [sumC]
  | d :: C => by
    have := sumC_const z C
    simp only [sumC, List.map_cons, List.sum_cons, List.length_cons] at this ⊢
    rw [this, Int.natCast_add, Int.add_mul]
    simp
    omega
/-- the arcs behind the places' first ones -/
def sumA (π : Nat → Int) (w : List Int) : Nat → Nat → Int
  | _, 0 => 0
  | j, m + 1 => low π (2 + 2 * j, 3 + 2 * j, -1) + sumL π ((3 + 2 * j, 1, 0) :: laters w j (w.length - (j + 1))) + sumA π w (j + 1) m
def sumB (π : Nat → Int) : Nat → Nat → Int
  | _, 0 => 0
  | j, m + 1 => low π (0, 2 + 2 * j, 0) + sumB π (j + 1) m
theorem sumAB (π : Nat → Int) (w : List Int) : ∀ (m j : Nat), sumL π (arcsTo w j) + sumA π w j m + sumB π j m = sumL π (arcsTo w (j + m))
  | 0, j => by simp [sumA, sumB]
  | m + 1, j => by
    have ih := sumAB π w m (j + 1)
    rw [arcsTo_succ, sumL_append] at ih
    have e : sumL π (arcsAt w j) = low π (0, 2 + 2 * j, 0) + low π (2 + 2 * j, 3 + 2 * j, -1) + sumL π ((3 + 2 * j, 1, 0) :: laters w j (w.length - (j + 1))) := by
      simp only [arcsAt, arcs3, List.cons_append, List.nil_append, sumL_cons]
      omega
    rw [e] at ih
    simp only [sumA, sumB]
    rw [show j + (m + 1) = j + 1 + m by omega]
    omega
theorem boundA (π : Nat → Int) (w : List Int) : ∀ (xs : CW) (j : Nat) (C : List Nat), w.drop j = xs.map Prod.fst → OkC xs → C.Nodup → (∀ x ∈ xs, x.2 ≠ 0 → x.2 ∈ C) → 0 ∉ C →
    sumA π w j xs.length ≤ sumC C (fun c => π (hd j xs c) - π 1) - cnt xs
  | [], j, C, _, _, _, _, _ => by
    have : sumC C (fun c => π (hd j [] c) - π 1) = sumC C (fun _ => 0) := sumC_congr fun c _ => by simp [hd]
    rw [this, sumC_const]
    simp [sumA, cnt]
  | x :: xs, j, C, hw, ho, hC, hm, h0 => by
    obtain ⟨o1, o2⟩ := okC_cons.mp ho
    have hw2 : w.drop (j + 1) = xs.map Prod.fst := by
      have := congrArg List.tail hw
      simpa using this
    have hjl : j < w.length := by
      have := congrArg List.length hw
      simp at this
      omega
    have hwj : w.getD j 0 = x.1 := by
      have : w[j]? = some x.1 := by
        have := congrArg (fun l => l[0]?) hw
        simpa using this
      simp [List.getD, this]
    have ih := boundA π w xs (j + 1) C hw2 o2 hC (fun y hy => hm y (List.mem_cons_of_mem _ hy)) h0
    have n1 := (low_le (π := π) (a := (2 + 2 * j, 3 + 2 * j, -1)))
    have n2 := sumL_neg π ((3 + 2 * j, 1, 0) :: laters w j (w.length - (j + 1)))
    simp only [List.length_cons, sumA]
    rw [cnt_cons]
    by_cases hx : x.2 = 0
    · have e : sumC C (fun c => π (hd j (x :: xs) c) - π 1) = sumC C (fun c => π (hd (j + 1) xs c) - π 1) := sumC_congr fun c hc => by
        have : ¬ x.2 = c := fun z => h0 (by rw [← hx, z]; exact hc)
        simp only [hd, if_neg this]
      rw [e, if_neg (by simpa using hx)]
      omega
    · have hxC := hm x List.mem_cons_self hx
      rw [if_pos hx, sumC_erase hxC]
      rw [sumC_erase hxC] at ih
      have e : sumC (C.erase x.2) (fun c => π (hd j (x :: xs) c) - π 1) = sumC (C.erase x.2) (fun c => π (hd (j + 1) xs c) - π 1) := sumC_congr fun c hc => by
        have : ¬ x.2 = c := fun z => (hC.mem_erase_iff.mp hc).1 z.symm
        simp only [hd, if_neg this]
      rw [e]
      have e2 : hd j (x :: xs) x.2 = 2 + 2 * j := by simp [hd]
      rw [e2]
      -- the arc onward
      have on : sumL π ((3 + 2 * j, 1, 0) :: laters w j (w.length - (j + 1))) ≤ π (3 + 2 * j) - π (hd (j + 1) xs x.2) := by
        rcases hd_some (j := j + 1) (xs := xs) (c := x.2) with ⟨i, y, h1, h2, h3⟩ | ⟨h1, h2⟩
        · rw [h3]
          have hyl : w[j + 1 + i]? = some y.1 := by
            have := congrArg (fun l => l[i]?) hw2
            simp only [List.getElem?_drop, List.getElem?_map, h1] at this
            exact this
          have hil := (List.getElem?_eq_some_iff.mp hyl).1
          have hle := o1 y (List.mem_of_getElem? h1) h2.symm hx
          have hmem : ((3 + 2 * j, 2 + 2 * (j + 1 + i), 0) : Arc) ∈ (3 + 2 * j, 1, 0) :: laters w j (w.length - (j + 1)) := by
            refine List.mem_cons_of_mem _ (mem_laters.mpr ⟨j + 1 + i, by omega, by omega, ?_, rfl⟩)
            rw [hwj]
            simp only [List.getD, hyl, Option.getD_some]
            exact hle
          have := sumL_mem (π := π) hmem
          have n3 := (low_le (π := π) (a := (3 + 2 * j, 2 + 2 * (j + 1 + i), 0))).1
          unfold rho at n3
          dsimp only at n3
          omega
        · rw [h2]
          have := sumL_mem (π := π) (a := (3 + 2 * j, 1, 0)) (l := (3 + 2 * j, 1, 0) :: laters w j (w.length - (j + 1))) List.mem_cons_self
          have n3 := (low_le (π := π) (a := (3 + 2 * j, 1, 0))).1
          unfold rho at n3
          dsimp only at n3
          omega
      have n4 := n1.1
      unfold rho at n4
      dsimp only at n4
      omega
theorem boundB (π : Nat → Int) : ∀ (xs : CW) (j : Nat) (C : List Nat), C.Nodup → 0 ∉ C → (∀ c ∈ C, ∃ x ∈ xs, x.2 = c) → sumB π j xs.length ≤ sumC C (fun c => π 0 - π (hd j xs c))
  | [], j, C, _, _, h => by
    cases C with
    | nil => simp [sumB, sumC]
    | cons c C =>
      obtain ⟨x, hx, _⟩ := h c List.mem_cons_self
      cases hx
  | x :: xs, j, C, hC, h0, h => by
    have n1 := (low_le (π := π) (a := (0, 2 + 2 * j, 0)))
    have n4 := n1.1
    unfold rho at n4
    dsimp only at n4
    simp only [List.length_cons, sumB]
    by_cases hx : x.2 ∈ C
    · have ih := boundB π xs (j + 1) (C.erase x.2) (hC.erase _) (fun z => h0 (hC.mem_erase_iff.mp z).2) fun c hc => by
        obtain ⟨c1, c2⟩ := hC.mem_erase_iff.mp hc
        obtain ⟨y, hy, ey⟩ := h c c2
        rcases List.mem_cons.mp hy with rfl | hy
        · exact absurd ey.symm c1
        · exact ⟨y, hy, ey⟩
      rw [sumC_erase hx]
      have e : sumC (C.erase x.2) (fun c => π 0 - π (hd j (x :: xs) c)) = sumC (C.erase x.2) (fun c => π 0 - π (hd (j + 1) xs c)) := sumC_congr fun c hc => by
        have : ¬ x.2 = c := fun z => (hC.mem_erase_iff.mp hc).1 z.symm
        simp only [hd, if_neg this]
      rw [e]
      have e2 : hd j (x :: xs) x.2 = 2 + 2 * j := by simp [hd]
      rw [e2]
      omega
    · have ih := boundB π xs (j + 1) C hC h0 fun c hc => by
        obtain ⟨y, hy, ey⟩ := h c hc
        rcases List.mem_cons.mp hy with rfl | hy
        · exact absurd (ey ▸ hc) hx
        · exact ⟨y, hy, ey⟩
      have e : sumC C (fun c => π 0 - π (hd j (x :: xs) c)) = sumC C (fun c => π 0 - π (hd (j + 1) xs c)) := sumC_congr fun c hc => by
        have : ¬ x.2 = c := fun z => hx (z ▸ hc)
        simp only [hd, if_neg this]
      rw [e]
      omega
/-- a family of q colours in use -/
theorem bound {w : List Int} {c : CW} (hf : c.map Prod.fst = w) (ho : OkC c) {C : List Nat} (hC : C.Nodup) (h0 : 0 ∉ C) (h1 : ∀ x ∈ c, x.2 ≠ 0 → x.2 ∈ C) (h2 : ∀ d ∈ C, ∃ x ∈ c, x.2 = d) (π : Nat → Int) :
    (cnt c : Int) ≤ C.length * (π 0 - π 1) - sumL π (arcsOf w) := by
  have hl : c.length = w.length := by rw [← hf, List.length_map]
  have a1 := boundA π w c 0 C (by rw [List.drop_zero]; exact hf.symm) ho hC h1 h0
  have a2 := boundB π c 0 C hC h0 h2
  have a3 := sumAB π w c.length 0
  have a4 := sumC_add (fun d => π (hd 0 c d) - π 1) (fun d => π 0 - π (hd 0 c d)) C
  have a5 : sumC C (fun d => (π (hd 0 c d) - π 1) + (π 0 - π (hd 0 c d))) = sumC C (fun _ => π 0 - π 1) := sumC_congr fun d _ => by omega
  rw [sumC_const] at a5
  have a6 : sumL π (arcsTo w 0) = 0 := by simp [arcsTo, sumL]
  have a7 : arcsTo w (0 + c.length) = arcsOf w := by rw [hl, Nat.zero_add]; rfl
  rw [a6, a7] at a3
  omega
theorem tot_sum {w : List Int} {f : List Bool} {p : Nat} (F : Flow w f p) (π : Nat → Int) (fe : Feas (arcsOf w) f π) : (tot (used (arcsOf w) f) : Int) = p * (π 0 - π 1) - sumL π (arcsOf w) := by
  have e1 := S_low F.len fe
  have e2 : S (arcsOf w) f (rho π) = S (arcsOf w) f (fun a => a.2.2) + S (arcsOf w) f (fun a => π a.1 - π a.2.1) := by
    rw [← S_add]
    congr 1
    funext a
    unfold rho
    omega
  have e3 : S (arcsOf w) f (fun a => a.2.2) = - (tot (used (arcsOf w) f) : Int) := by
    rw [S_used]
    unfold tot
    have hU := F.uf.arc
    generalize used (arcsOf w) f = U at hU
    induction U with
    | nil => rfl
    | cons a U ih =>
      have ih := ih fun b hb => hU b (List.mem_cons_of_mem _ hb)
      have ha := hU a List.mem_cons_self
      simp only [List.map_cons, List.sum_cons, List.countP_cons, decide_eq_true_eq]
      rw [ih]
      cases ha <;> simp <;> omega
  rw [F.val π] at e2
  omega
/-- as many places as boxes in the first k rows -/
theorem best_tot {w : List Int} {f : List Bool} {k : Nat} (B : Best w f k) : tot (used (arcsOf w) f) = shp k (Ln w) := by
  obtain ⟨p, hp, F, more⟩ := B.ex
  have up : tot (used (arcsOf w) f) ≤ shp k (Ln w) := by
    obtain ⟨c, a1, a2, a3, a4⟩ := F.uf.fam
    exact (greene k _ w).mp ⟨c, a1, fun x hx => Nat.le_trans (a2 x hx) hp, a3, a4⟩
  obtain ⟨c, a1, a2, a3, a4⟩ := (greene k _ w).mpr (Nat.le_refl _)
  -- the colours in use
  let C := (List.range' 1 k).filter fun d => c.any fun x => x.2 == d
  have hC : C.Nodup := (List.nodup_range').filter _
  have h0 : 0 ∉ C := fun z => by
    have := (List.mem_filter.mp z).1
    rw [List.mem_range'_1] at this
    omega
  have h1 : ∀ x ∈ c, x.2 ≠ 0 → x.2 ∈ C := fun x hx hn => by
    refine List.mem_filter.mpr ⟨?_, List.any_eq_true.mpr ⟨x, hx, by simp⟩⟩
    rw [List.mem_range'_1]
    have := a2 x hx
    omega
  have h2 : ∀ d ∈ C, ∃ x ∈ c, x.2 = d := fun d hd => by
    obtain ⟨x, hx, e⟩ := List.any_eq_true.mp (List.mem_filter.mp hd).2
    exact ⟨x, hx, by simpa using e⟩
  have hq : C.length ≤ k := by
    have := List.length_filter_le (fun d => c.any fun x => x.2 == d) (List.range' 1 k)
    rw [List.length_range'] at this
    exact this
  have mono : ∀ (m n : Nat) (z : Int), m ≤ n → 0 ≤ z → (m : Int) * z ≤ n * z := fun m n z h hz => Int.mul_le_mul_of_nonneg_right (Int.ofNat_le.mpr h) hz
  obtain ⟨π, fe, hπ⟩ := F.feas
  by_cases hqp : C.length ≤ p
  · have b1 := bound a1 a3 hC h0 h1 h2 π
    have b2 := tot_sum F π fe
    have b3 : (C.length : Int) * (π 0 - π 1) ≤ p * (π 0 - π 1) := by
      rcases hπ with rfl | hπ
      · have : C.length = 0 := by omega
        rw [this]
        exact Int.le_refl _
      · exact mono _ _ _ hqp (by omega)
    omega
  · rcases more with e | ⟨π', fe', hπ'⟩
    · omega
    · have b1 := bound a1 a3 hC h0 h1 h2 π'
      have b2 := tot_sum F π' fe'
      have b3 := mono p C.length (π' 1 - π' 0) (by omega) (by omega)
      have e1 : (C.length : Int) * (π' 0 - π' 1) = - ((C.length : Int) * (π' 1 - π' 0)) := by rw [← Int.mul_neg]; congr 1; omega
      have e2 : (p : Int) * (π' 0 - π' 1) = - ((p : Int) * (π' 1 - π' 0)) := by rw [← Int.mul_neg]; congr 1; omega
      omega

/-! ### the rows, by their first places -/
def fst_ (U : List Arc) : List Nat := U.filterMap fun a => if a.1 = 0 then some ((a.2.1 - 2) / 2) else none
def isNx (a : Arc) : Bool := decide (a.1 ≠ 0 ∧ a.2.2 = 0 ∧ a.2.1 ≠ 1)
/-- the next place -/
def nx (U : List Arc) (i : Nat) : Option Nat := (U.find? fun a => isNx a && decide ((a.1 - 3) / 2 = i)).map fun a => (a.2.1 - 2) / 2
def len (U : List Arc) : Nat → Nat → Nat
  | 0, _ => 0
  | m + 1, i => 1 + match nx U i with
    | none => 0
    | some j => len U m j
section
variable {w : List Int} {U : List Arc} {p : Nat}
theorem UF.nx_iff (u : UF w U p) {i j : Nat} : nx U i = some j ↔ ((3 + 2 * i, 2 + 2 * j, 0) : Arc) ∈ U := by
  constructor
  · intro h
    obtain ⟨a, h1, h2⟩ := Option.map_eq_some_iff.mp h
    have ha := List.mem_of_find?_eq_some h1
    have hq := List.find?_some h1
    have := u.arc a ha
    simp only [isNx, Bool.and_eq_true, decide_eq_true_eq] at hq
    obtain ⟨⟨q1, q2, q3⟩, q4⟩ := hq
    cases this with
    | src h => exact absurd rfl q1
    | mid h => simp at q2
    | snk h => exact absurd rfl q3
    | @nxt i' l h a1 a2 a3 =>
      dsimp only at h2 q4
      have e1 : i' = i := by omega
      have e2 : l = j := by omega
      rw [← e1, ← e2]
      exact ha
  · intro h
    unfold nx
    have hf : (U.find? fun a => isNx a && decide ((a.1 - 3) / 2 = i)).isSome := by
      rw [List.find?_isSome]
      refine ⟨_, h, ?_⟩
      simp [isNx]
      omega
    obtain ⟨a, ha⟩ := Option.isSome_iff_exists.mp hf
    have hm := List.mem_of_find?_eq_some ha
    have hq := List.find?_some ha
    have := u.arc a hm
    simp only [isNx, Bool.and_eq_true, decide_eq_true_eq] at hq
    obtain ⟨⟨q1, q2, q3⟩, q4⟩ := hq
    have e : a = (3 + 2 * i, 2 + 2 * j, 0) := by
      refine u.out_one (i := i) hm h ?_ rfl
      cases this with
      | src h => exact absurd rfl q1
      | mid h => simp at q2
      | snk h => exact absurd rfl q3
      | @nxt i' l h a1 a2 a3 =>
        dsimp only at q4 ⊢
        omega
    rw [ha, e]
    simp
theorem UF.nx_lt (u : UF w U p) {i j : Nat} (h : nx U i = some j) : i < j ∧ j < w.length := by
  have := u.arc _ (u.nx_iff.mp h)
  generalize ha : ((3 + 2 * i, 2 + 2 * j, 0) : Arc) = a at this
  cases this <;> simp at ha <;> omega
theorem UF.len_eq (u : UF w U p) : ∀ (m i k : Nat), w.length - i ≤ m → w.length - i ≤ k → i < w.length → len U m i = len U k i
  | 0, i, k, h, _, hi => by omega
  | m + 1, i, 0, _, h, hi => by omega
  | m + 1, i, k + 1, h1, h2, hi => by
    unfold len
    cases e : nx U i with
    | none => rfl
    | some j =>
      obtain ⟨g1, g2⟩ := u.nx_lt e
      dsimp only
      rw [u.len_eq m j k (by omega) (by omega) g2]
/-- the length of the row from a place on -/
def lenAt (w : List Int) (U : List Arc) (i : Nat) : Nat := len U (w.length - i) i
theorem UF.lenAt_eq (u : UF w U p) {i : Nat} (hi : i < w.length) : lenAt w U i = 1 + match nx U i with | none => 0 | some j => lenAt w U j := by
  unfold lenAt
  obtain ⟨m, hm⟩ : ∃ m, w.length - i = m + 1 := ⟨w.length - i - 1, by omega⟩
  rw [hm]
  show 1 + _ = _
  cases e : nx U i with
  | none => rfl
  | some j =>
    obtain ⟨g1, g2⟩ := u.nx_lt e
    dsimp only
    rw [u.len_eq m j (w.length - j) (by omega) (Nat.le_refl _) g2]
theorem UF.fst_lt (u : UF w U p) {i : Nat} (h : i ∈ fst_ U) : i < w.length := by
  obtain ⟨a, ha, e⟩ := List.mem_filterMap.mp h
  have := u.arc a ha
  cases this <;> simp at e <;> omega
theorem UF.rows (u : UF w U p) : ((fst_ U).map (lenAt w U)).sum = tot U := by
  have hv := u.val fun v => if v = 0 then 0 else if v = 1 then 0 else if v % 2 = 0 then (lenAt w U ((v - 2) / 2) : Int) else (lenAt w U ((v - 3) / 2) : Int) - 1
  simp only [if_true, Nat.one_ne_zero, if_false, Int.sub_self, Int.mul_zero] at hv
  have key : ∀ V : List Arc, (∀ a ∈ V, a ∈ U) → (V.map fun a => (if a.1 = 0 then 0 else if a.1 = 1 then 0 else if a.1 % 2 = 0 then (lenAt w U ((a.1 - 2) / 2) : Int) else (lenAt w U ((a.1 - 3) / 2) : Int) - 1) - (if a.2.1 = 0 then 0 else if a.2.1 = 1 then 0 else if a.2.1 % 2 = 0 then (lenAt w U ((a.2.1 - 2) / 2) : Int) else (lenAt w U ((a.2.1 - 3) / 2) : Int) - 1)).sum =
      (tot V : Int) - (((fst_ V).map (lenAt w U)).sum : Nat) := by
    intro V
    induction V with
    | nil => intro _; rfl
    | cons a V ih =>
      intro hV
      have ih := ih fun b hb => hV b (List.mem_cons_of_mem _ hb)
      have ha := hV a List.mem_cons_self
      have hA := u.arc a ha
      rw [List.map_cons, List.sum_cons, ih]
      cases hA with
      | @src i hi =>
        have e1 : (2 + 2 * i - 2) / 2 = i := by omega
        have e2 : (2 + 2 * i) % 2 = 0 := by omega
        have e4 : fst_ ((0, 2 + 2 * i, 0) :: V) = i :: fst_ V := by simp [fst_, e1]
        have e5 : tot ((0, 2 + 2 * i, 0) :: V) = tot V := by simp [tot]
        rw [e4, e5]
        simp [e1, e2, show ¬ (2 + 2 * i = 0) by omega, show ¬ (2 + 2 * i = 1) by omega]
        omega
      | @mid i hi =>
        have e1 : (2 + 2 * i - 2) / 2 = i := by omega
        have e2 : (2 + 2 * i) % 2 = 0 := by omega
        have e1' : (3 + 2 * i - 3) / 2 = i := by omega
        have e2' : (3 + 2 * i) % 2 = 1 := by omega
        have e4 : fst_ ((2 + 2 * i, 3 + 2 * i, -1) :: V) = fst_ V := by simp [fst_]
        have e5 : tot ((2 + 2 * i, 3 + 2 * i, -1) :: V) = tot V + 1 := by simp [tot]
        rw [e4, e5]
        simp [e1, e2, e1', e2', show ¬ (2 + 2 * i = 0) by omega, show ¬ (2 + 2 * i = 1) by omega, show ¬ (3 + 2 * i = 0) by omega, show ¬ (3 + 2 * i = 1) by omega]
        omega
      | @snk i hi =>
        have e1' : (3 + 2 * i - 3) / 2 = i := by omega
        have e2' : (3 + 2 * i) % 2 = 1 := by omega
        have e4 : fst_ ((3 + 2 * i, 1, 0) :: V) = fst_ V := by simp [fst_]
        have e5 : tot ((3 + 2 * i, 1, 0) :: V) = tot V := by simp [tot]
        have e6 : nx U i = none := by
          cases e : nx U i with
          | none => rfl
          | some j =>
            have := u.out_one ha (u.nx_iff.mp e) rfl rfl
            simp at this
            omega
        have e7 := u.lenAt_eq hi
        rw [e6] at e7
        rw [e4, e5]
        simp [e1', e2', show ¬ (3 + 2 * i = 0) by omega, show ¬ (3 + 2 * i = 1) by omega, e7]
      | @nxt i l hi h1 h2 h3 =>
        have e1 : (2 + 2 * l - 2) / 2 = l := by omega
        have e2 : (2 + 2 * l) % 2 = 0 := by omega
        have e1' : (3 + 2 * i - 3) / 2 = i := by omega
        have e2' : (3 + 2 * i) % 2 = 1 := by omega
        have e4 : fst_ ((3 + 2 * i, 2 + 2 * l, 0) :: V) = fst_ V := by simp [fst_]
        have e5 : tot ((3 + 2 * i, 2 + 2 * l, 0) :: V) = tot V := by simp [tot]
        have e7 := u.lenAt_eq hi
        rw [u.nx_iff.mpr ha] at e7
        dsimp only at e7
        rw [e4, e5]
        simp [e1, e2, e1', e2', show ¬ (2 + 2 * l = 0) by omega, show ¬ (2 + 2 * l = 1) by omega, show ¬ (3 + 2 * i = 0) by omega, show ¬ (3 + 2 * i = 1) by omega, e7]
        omega
  have := key U fun _ h => h
  rw [hv] at this
  omega
end
/-- the rows that lot_of finds have together so many places -/
theorem lot_total {w : List Int} {f : List Bool} {k : Nat} (B : Best w f k) : ((fst_ (used (arcsOf w) f)).map (lenAt w (used (arcsOf w) f))).sum = shp k (Ln w) := by
  rw [← best_tot B]
  obtain ⟨p, hp, F, more⟩ := B.ex
  exact F.uf.rows
end K57
set_option Elab.async false
set_option linter.all false
set_option maxRecDepth 100000
set_option maxHeartbeats 4000000
/-! enumerate of a tuple. -/
namespace PySem
open Sem (wp)
open AutoSeq1 (wpAny_loadPart')
theorem k57_meets_enumT (l : Addr) (items : Array Value) :
    Meets (Builtin.«enumerate.__new__» ⟨[.type "enumerate", .ref l], []⟩) (fun _ R s => s.heap.IsTuple l items ∧
      R (.ok (.ret (.ref (s.heap.push { cls := .type "tuple_iterator", data := .fields #[.ref l, .int 0 0] }).objs.size)))
        { s with heap := (s.heap.push { cls := .type "tuple_iterator", data := .fields #[.ref l, .int 0 0] }).push { cls := .type "enumerate", data := .fields #[.none, .bool false, .ref s.heap.objs.size, rawInt 0, .none, .none] } }) :=
  .of_wp fun prog w A R s h => by
    obtain ⟨hp, g, d, tk, os⟩ := s; obtain ⟨hl, h⟩ := h
    have hsub := sub_enumerate
    have hL : Heap.IsTuple (Shared.heap ⟨hp, g, d, tk, os⟩) l items := hl
    obtain ⟨o, ho, hc, n, hd⟩ := id hl
    wp_walk using wpAny_loadPart' ho
    refine wpAny_stack_any fun st => wpAny_pure ?_
    split
    · rename_i c _ _ _ _ _
      cases (c == Value.type "enumerate")
      · wp_walk using wpAny_loadPart' ho, wpAny_pyIter_tuple hL
        exact ⟨_, rfl, h⟩
      · wp_walk using wpAny_loadPart' ho, wpAny_pyIter_tuple hL
        exact ⟨_, rfl, h⟩
    · wp_walk using wpAny_loadPart' ho, wpAny_pyIter_tuple hL
      exact ⟨_, rfl, h⟩
section
variable {prog : Program} {w : World} {A : Around} {E : Value → Shared → Prop} {s : Shared}
theorem k57_call_enumT {l : Addr} {items : Array Value} {Q : Value → Shared → Prop} (hL : s.heap.IsTuple l items)
    (h : ∀ h', IsEnum h' (s.heap.objs.size + 1) s.heap.objs.size 0 .none → h'.IsTupleIter s.heap.objs.size l 0 → h'.objs.size = s.heap.objs.size + 2 →
      (∀ b o, s.heap.get? b = some o → h'.get? b = some o) → Q (.ref (s.heap.objs.size + 1)) { s with heap := h' }) :
    wpAny (model prog w) A (call (.type "enumerate") [.ref l]) Q E s := by
  refine callType_new F.called_enumerate (by decide) (F.typeCall_enumerate_1 _) (F.newCall_enumerate_1 _) (fun obj => F.args_object_init_2 obj _) F.entry_enumerate_new
    (k57_meets_enumT l items) ⟨hL, ?_⟩
  have hz : (s.heap.push { cls := .type "tuple_iterator", data := .fields #[.ref l, .int 0 0] }).objs.size = s.heap.objs.size + 1 := Heap.size_push ..
  show _ ∧ _
  rw [hz]
  have he : IsEnum ((s.heap.push { cls := .type "tuple_iterator", data := .fields #[.ref l, .int 0 0] }).push
      { cls := .type "enumerate", data := .fields #[.none, .bool false, .ref s.heap.objs.size, rawInt 0, .none, .none] }) (s.heap.objs.size + 1) s.heap.objs.size 0 .none := by
    have := Heap.get?_push_size (s.heap.push { cls := .type "tuple_iterator", data := .fields #[.ref l, .int 0 0] })
      (o := { cls := .type "enumerate", data := .fields #[.none, .bool false, .ref s.heap.objs.size, rawInt 0, .none, .none] }) rfl
    rw [hz] at this; exact this
  refine ⟨⟨_, he, rfl⟩, h _ he ⟨_, Heap.get?_push_of_some _ (Heap.get?_push_size _ rfl), rfl, rfl⟩ (by rw [Heap.size_push, hz]) fun b o x => Heap.get?_push_of_some _ (Heap.get?_push_of_some _ x)⟩
end
end PySem
namespace L2
open PySem PySem.Spec PyProof.Rows
/-- the tuple at a, each item in a new pair -/
def k57_IteT (K : PySem.W.Frag) (a : Addr) : It :=
  ⟨fun i H => ∃ (xs : List V) (x : V), SqT K H a xs ∧ xs[i]? = some x, fun i H v H' => ∃ T x, v = .ref T ∧ H T = none ∧ H' = upd H T (.tup [.int (i : Nat), x]) ∧ ∀ xs, SqT K H a xs → xs[i]? = some x, fun i H => ∃ xs : List V, SqT K H a xs ∧ xs.length ≤ i⟩
theorem k57_turn_enumT {P : Program} {w : World} {K : PySem.W.Frag} {elts : List Expr} {kk : Nat} {tpos : Pos} (a e it : Addr) :
    Turn P w K (.Tuple elts kk tpos) (k57_IteT K a) [e, it] e (fun i h => (∃ old, IsEnum h e it ((i : Nat) : Int) old) ∧ h.IsTupleIter it a i ∧ e ≠ it ∧ a ≠ it ∧ a ≠ e) where
  mem := by simp
  obj := fun i h st b hb => by
    obtain ⟨⟨old, he⟩, ⟨o, ho, hc, hd⟩, _⟩ := st
    have e' : b = e ∨ b = it := by simpa using hb
    rcases e' with z | z
    · rw [z]; exact ⟨_, he, fun v q => nomatch q⟩
    · rw [z]; exact ⟨o, ho, fun v q => by rw [hd] at q; cases q⟩
  keep := fun i h h' st k => let ⟨⟨old, he⟩, hi, hne⟩ := st; ⟨⟨old, k e (by simp) _ he⟩, hi.at fun o q => k it (by simp) o q, hne⟩
  item := by
    intro X hP hw hK hc i pins s σ H E I hf st hg
    subst hP hw hK
    obtain ⟨⟨old, he⟩, hit, hne, hne2, hne3⟩ := st
    obtain ⟨xs, x, hq, hx⟩ := hg
    obtain ⟨its, rv, p, hz⟩ := I.tuple hq
    obtain ⟨u, hu, ru⟩ := rv.get hx
    have hel : e < s.heap.objs.size := Heap.lt_size he
    have hil : it < s.heap.objs.size := by obtain ⟨_, q, _⟩ := hit; exact Heap.lt_size q
    have hit2 := hit
    have hlt : i < its.toArray.size := by
      have := (List.getElem?_eq_some_iff.mp hu).1
      simpa using this
    refine wpAny_pyNext_enum_itemD (Draws.tuple (prog := X.prog) (w := X.w) (A := X.A.in1) (show X.A.in1.handled = none from I.ok.hd hc) it a hne2 its.toArray) he ⟨hit, p⟩ hlt hne (by simp [hne, Ne.symm hne3]) fun x' h' tk hP ho hS hT hsz hk => ?_
    have ex : x' = u := by
      rw [show its.toArray[i]? = some u by simpa using hu] at hP
      exact (Option.some.inj hP).symm
    subst ex
    refine ⟨_, rfl, wpAny_letOwnedTupleGo_enum (s := { s with heap := h', toks := tk + 1 }) ho fun h'' he' sb => ?_⟩
    have hT2 : h''.get? s.heap.objs.size = some { cls := .type "tuple", data := .seq #[.int i tk, x'] } := (sb.2 _ (Nat.ne_of_gt hel)).trans hT
    have new : ObjOk X.prog X.w (upd H s.heap.objs.size (.tup [.int (i : Nat), x])) h'' s.heap.objs.size (.tup [.int (i : Nat), x]) :=
      ⟨by show 2 ≤ sizeLine; decide, [.int i tk, x'], .cons ⟨_, rfl⟩ (.cons ru .nil), ⟨_, hT2, rfl, _, rfl⟩⟩
    have I1 : Inv X pins σ (upd H s.heap.objs.size (.tup [.int (i : Nat), x])) { s with heap := h'', toks := tk + 1 } :=
      I.turnedNew (ch := [e, it]) (fun b ob hb q => (sb.2 b (fun z => hb (by simp [z]))).trans (hk b ob (fun z => hb (by simp [z])) (fun z => hb (by simp [z])) q)) hf (Nat.le_refl _) new
    refine ⟨.ref s.heap.objs.size, _, I1, rfl, ⟨_, x, rfl, I.hok.fresh (Nat.le_refl _), rfl, fun ys hy => by rw [I.tuple_inj hy hq]; exact hx⟩, ⟨⟨x', ?_⟩, hS.1.at fun o q => (sb.2 it (Ne.symm hne)).trans q, hne, hne2, hne3⟩, fun b hb => ?_⟩
    · have e1 : ((i + 1 : Nat) : Int) = (i : Int) + 1 := by omega
      rw [e1]; exact he'
    · have hb' : b < s.heap.objs.size := by
        have e' : b = e ∨ b = it := by simpa using hb
        rcases e' with z | z
        · rw [z]; exact hel
        · rw [z]; exact hil
      rw [upd_ne (Nat.ne_of_lt hb')]
      exact (hf b hb).1
  done := by
    intro X hP hw hK hc i pins s σ H E I hf st hg
    subst hP hw hK
    obtain ⟨⟨old, he⟩, hit, hne, hne2, hne3⟩ := st
    obtain ⟨xs, hq, hx⟩ := hg
    obtain ⟨its, rv, p, hz⟩ := I.tuple hq
    obtain ⟨f0, f1, f2, f3, f4, f5⟩ := hf it (by simp)
    have hl := rv.length
    obtain ⟨hp, g, d, t, os⟩ := s
    have hT : Shared.TypeIs ⟨hp, g, d, t, os⟩ (.ref e) "enumerate" := ⟨_, he, rfl⟩
    unfold pyNext
    refine wpAny_bind (wpAny_attempt (wpAny_callSpecial?_slot (name := PySem.Str.ofString "__next__") hT F.slot_enumerate_next
      (wpAny_call_entry F.slot_enumerate_next hT F.entry_enumerate_next ?_ (F.args_enumerate_next_1 _))))
    show wpAny _ _ (field (.ref e) 2 >>= _) _ _ _
    refine wpAny_bind (wpAny_field he rfl (x := .ref it) rfl ?_)
    refine wpAny_bind (wpAny_nextOf_tuple_end (I.ok.hd hc) hit p (by simp; omega) fun h' x he' hx' => ?_)
    obtain ⟨o, ho, hcl⟩ := hx'
    refine wpAny_bind (wpAny_isInstance (T := "StopIteration") (b := true) ⟨o, ho, hcl⟩ isSubtype_stop ?_)
    exact wpAny_pure ⟨rfl, I.turned (t' := t) (fun b o hb q => he' b o hb q) f0 f1 f3 f4 f5⟩
  self := fun A i s Q E st h => let ⟨⟨_, he⟩, _⟩ := st; wpAny_pyIter_enum he h
def k57_iEnumT (K : PySem.W.Frag) (ta : TA) : TI := fun σ H R => ta σ H fun vs H1 => ∃ a xs, vs = [.ref a] ∧ SqT K H1 a xs ∧ R (k57_IteT K a) H1
theorem k57_pi_enumT {X : Cx} {e : Expr} {ta : TA} {p pos tpos : Pos} {elts : List Expr} {kk : Nat} (hg : Gl X "enumerate") (hm : X.mg "enumerate" = none) (ha : PA X [e] ta) (hs : starEach [e] X.env = [(false, eval e X.env)] := by rfl) :
    PI X (.Tuple elts kk tpos) (.Call (.Name "enumerate" p) [e] [] pos) (k57_iEnumT X.K ta) := by
  refine ⟨fun pins s σ H R I h => ?_⟩
  refine Call_ (ld_blt I hg hm boot_enumerate (PyProof.Rows.callWith_type1 (thn (ha.run pos pins s σ H _ I h) fun us s1 ⟨vs, H1, I1, r1, q1⟩ => ?_) hs rfl))
  obtain ⟨a, xs, ex, hq, q⟩ := q1
  subst ex
  cases r1 with
  | cons r rr =>
    cases rr
    cases r
    obtain ⟨its, rv, p', hz⟩ := I1.tuple hq
    have hal : a < s1.heap.objs.size := p'.lt
    refine k57_call_enumT p' fun h' he hit hsz hk => wpAny_pyIter_enum he ?_
    have I2 : Inv X pins σ H1 { s1 with heap := h' } := I1.kept (t' := s1.toks) hk
    refine ⟨s1.heap.objs.size + 1, [s1.heap.objs.size + 1, s1.heap.objs.size], _, _, H1, rfl, I2, k57_turn_enumT a (s1.heap.objs.size + 1) s1.heap.objs.size, ⟨⟨.none, he⟩, hit, Nat.succ_ne_self _, Nat.ne_of_lt hal, Nat.ne_of_lt (Nat.lt_succ_of_lt hal)⟩, fun b hb => ?_, q⟩
    have e' : b = s1.heap.objs.size + 1 ∨ b = s1.heap.objs.size := by simpa using hb
    have hle : s1.heap.objs.size ≤ b := by
      rcases e' with z | z
      · rw [z]; exact Nat.le_add_right _ _
      · rw [z]; exact Nat.le_refl _
    exact I1.fpOk hle (I1.hok.fresh hle)
theorem k57_walk_enumT {K : PySem.W.Frag} {a : Addr} {xs : List V} : Walk (k57_IteT K a) xs.length (fun H => SqT K H a xs) (YPair (fun i => some (.int (i : Nat))) (fun i => xs[i]?)) := by
  refine ⟨fun i _ hi q => ⟨xs, xs[i], q, by simp [hi]⟩, fun _ q => ⟨xs, q, Nat.le_refl _⟩, fun i H v H' _ q y => ?_⟩
  obtain ⟨T, x, h1, h2, h3, h4⟩ := y
  exact ⟨T, .int (i : Nat), x, h1, h2, h3, rfl, h4 xs q⟩
end L2
set_option Elab.async false
set_option linter.all false
set_option maxRecDepth 100000
set_option maxHeartbeats 4000000
/-! t[::-1] of a tuple; sum of a tuple of ints. -/
namespace L2
open PySem PySem.Spec PyProof.Rows HT
section
variable {prog : Program} {w : World} {A : Around} {E : Value → Shared → Prop} {s : Shared}
theorem k57_adjust_rev (n : Nat) : Builtin.Slice.sliceAdjust none none (-1) (n : Int) = ((n : Int) - 1, -1) := rfl
theorem k57_places_rev (n : Nat) : Builtin.Slice.slicePlaces ((n : Int) - 1) (-1) (-1) = n := by
  unfold Builtin.Slice.slicePlaces
  have h1 : ¬ ((-1 : Int) > 0) := by omega
  have h2 : (-(-1 : Int)) = 1 := by omega
  simp only [h1, if_false, h2, Int.ediv_one]
  split <;> omega
theorem k57_applied_rev {sl : Addr} {vs : Value} {n : Nat} {Q : Int × Int × Nat → Shared → Prop} (hs : s.heap.IsSliceOf sl .none .none vs) (ps : IsPart vs (some (-1)))
    (h : Q ((n : Int) - 1, -1, n) s) : wpAny (model prog w) A (Builtin.Slice.sliceApplied (.ref sl) (pure (n : Int))) Q E s := by
  obtain ⟨os, hos, hcs, hds⟩ := id hs
  unfold Builtin.Slice.sliceApplied Builtin.Slice.sliceFields
  refine wpAny_bind (wpAny_bind (wpAny_field hos hds (x := .none) rfl (wpAny_bind (wpAny_field hos hds (x := .none) rfl (wpAny_bind (wpAny_field hos hds (x := vs) rfl (wpAny_pure ?_)))))))
  refine wpAny_bind (slicePart_ ps ?_)
  show wpAny _ _ (if ((-1 : Int) == 0) = true then _ else _) _ _ s
  rw [if_neg (by decide)]
  refine wpAny_bind (slicePart_none (wpAny_bind (slicePart_none (wpAny_bind (wpAny_pure ?_)))))
  show wpAny _ _ (match Builtin.Slice.sliceAdjust none none (-1) (n : Int) with | (lo, hi) => pure (lo, (-1 : Int), Builtin.Slice.slicePlaces lo hi (-1))) _ _ s
  rw [k57_adjust_rev n]
  show wpAny _ _ (pure ((n : Int) - 1, (-1 : Int), Builtin.Slice.slicePlaces ((n : Int) - 1) (-1) (-1))) _ _ s
  rw [k57_places_rev]
  exact wpAny_pure h
theorem k57_pick_rev (xs : Array Value) : ((List.range xs.size).filterMap fun (m : Nat) => xs[((xs.size : Int) - 1 + (m : Int) * -1).toNat]?).toArray = xs.toList.reverse.toArray := by
  have e : (List.range xs.size).filterMap (fun (m : Nat) => xs[((xs.size : Int) - 1 + (m : Int) * -1).toNat]?) = ((List.range xs.size).map fun k => xs.size - 1 - k).filterMap (xs[·]?) := by
    rw [List.filterMap_map]
    congr 1
    funext m
    have h : ((xs.size : Int) - 1 + (m : Int) * -1).toNat = xs.size - 1 - m := by omega
    rw [h]
    rfl
  rw [e, PySem.W.krv_range, List.filterMap_reverse, PySem.W.krv_all]
theorem k57_getItem_rev {t sl : Addr} {items : Array Value} {vs : Value} {Q : Value → Shared → Prop} (ht : IsTup s.heap t items) (hs : s.heap.IsSliceOf sl .none .none vs) (ps : IsPart vs (some (-1)))
    (h : Q (.ref s.heap.objs.size) { s with heap := s.heap.push { cls := .type "tuple", data := .seq items.toList.reverse.toArray } })
    (hsz : items.size ≤ sizeLine) : wpAny (model prog w) A (getItem (.ref t) (.ref sl)) Q E s := by
  have htake : sizeOk (.seq items.toList.reverse.toArray) := by
    show items.toList.reverse.toArray.size ≤ sizeLine
    rw [List.size_toArray, List.length_reverse, Array.length_toList]
    exact hsz
  obtain ⟨os, hos, hcs, hds⟩ := id hs
  have hTs : s.TypeIs (.ref sl) "slice" := ⟨os, hos, hcs⟩
  unfold getItem
  try with_reducible refine wpAny_holding ?_
  first | refine wpAny_bind (wpAny_pure ?_) | skip
  refine wpAny_bind (wpAny_sequenceKey ht.typeIs (by decide) ?_)
  refine wpAny_bind (wpAny_callSpecial?_slot (name := Str.ofString "__getitem__") ht.typeIs PyProof.Rows.slot_tuple_getitem
    (wpAny_call_entry PyProof.Rows.slot_tuple_getitem ht.typeIs entry_tuple_getitem ?_ (args_tuple_getitem _ _)))
  show wpAny _ _ (Builtin.Tuple.tupleItemsOf (.ref t) >>= _) _ _ s
  refine wpAny_bind (tupleItemsOf_ ht ?_)
  refine wpAny_bind (wpAny_typeOf hTs ?_)
  rw [if_pos (by decide)]
  refine wpAny_bind (k57_applied_rev hs ps ?_)
  have hno : ¬ ((((items.size : Int) - 1) == 0 && (-1 : Int) == 1 && items.size == items.size) = true) := by
    intro q
    rw [Bool.and_eq_true, Bool.and_eq_true] at q
    have q2 : (-1 : Int) = 1 := eq_of_beq q.1.2
    exact absurd q2 (by decide)
  show wpAny _ _ (if (((items.size : Int) - 1) == 0 && (-1 : Int) == 1 && items.size == items.size) = true then _ else _) _ _ s
  rw [if_neg hno, k57_pick_rev]
  first
    | exact wpAny_bind (m := Builtin.Tuple.tupleExact _) (wpAny_newObj_type (wpAny_pure ⟨_, rfl, wpAny_pure h⟩) htake)
    | exact wpAny_bind (m := Builtin.Tuple.tupleExact _) (wpAny_newObj_type (wpAny_bind (wpAny_pure (wpAny_pure ⟨_, rfl, wpAny_pure h⟩))) htake)
    | exact wpAny_bind (wpAny_bind (m := Builtin.Tuple.tupleExact _) (wpAny_newObj_type (wpAny_pure (wpAny_pure ⟨_, rfl, wpAny_pure h⟩)) htake))
    | exact wpAny_bind (wpAny_bind (m := Builtin.Tuple.tupleExact _) (wpAny_newObj_type (wpAny_pure ⟨_, rfl, wpAny_pure h⟩) htake))
end
def k57_tRevT (K : PySem.W.Frag) (te : TE) : TE := fun σ H Q => te σ H fun x H1 => ∃ a xs, x = .ref a ∧ SqT K H1 a xs ∧ ∀ p, H1 p = none → Q (.ref p) (upd H1 p (.tup xs.reverse))
theorem k57_pe_revT {X : Cx} {K : PySem.W.Frag} {e : Expr} {te : TE} {k : Nat} {p1 p2 p3 pos : Pos} (he : PE X e te) (eK : X.K = K := by rfl) : PE X (.Subscript e (.Slice none none (some (.UnaryOp .USub (.Constant (.int 1) k p1) p2)) p3) pos) (k57_tRevT K te) := by
  subst eK
  refine ⟨fun pins s σ H Q I h => ?_⟩
  refine Subscript_ (thn (he.run pins s σ H _ I h) fun v s1 ⟨x, H1, I1, r1, q1⟩ => ?_)
  obtain ⟨a, xs, ex, hx, q⟩ := q1
  subst ex
  cases r1
  have hst : PO X (some (.UnaryOp .USub (.Constant (.int 1) k p1) p2)) (tPart (tUn (rU fun i => .int (-i)) (tC (.int 1)))) := po_some (pe_un un_neg pe_int)
  refine wpAny_Slice (thn (po_none.run pins s1 σ H1 (fun o H2 => o = none ∧ H2 = H1) I1 ⟨rfl, rfl⟩) fun vl s2 ⟨l, H2, I2, pl, el, e2⟩ => ?_)
  subst el e2
  refine thn (po_none.run pins s2 σ H2 (fun o H3 => o = none ∧ H3 = H2) I2 ⟨rfl, rfl⟩) fun vu s3 ⟨u, H3, I3, pu, eu, e3⟩ => ?_
  subst eu e3
  refine thn (hst.run pins s3 σ H3 (fun o H4 => o = some (-1) ∧ H4 = H3) I3 ⟨1, rfl, -1, rfl, rfl, rfl⟩) fun vs s4 ⟨o, H4, I4, ps, eo, e4⟩ => ?_
  subst eo e4
  have I5 : Inv X pins σ H4 { s4 with heap := s4.heap.push { cls := .type "slice", data := .fields #[vl, vu, vs] } } := I4.kept (t' := s4.toks) fun b ob q => Heap.get?_push_of_some _ q
  obtain ⟨its, r, ht, hz⟩ := I5.tuple hx
  have hlen := r.length
  cases pl
  cases pu
  show wpAny (model X.prog X.w) X.A (subscriptTail e (.Slice none none (some (.UnaryOp .USub (.Constant (.int 1) k p1) p2)) p3) (.ref a) (.ref s4.heap.objs.size)) (EP X pins σ Q) X.xe { s4 with heap := s4.heap.push { cls := .type "slice", data := .fields #[.none, .none, vs] } }
  refine tail_any (ops := [.ref a, .ref s4.heap.objs.size]) ht.typeIs (PyProof.Rows.slot_tuple_getitem.lookup) ?_ (by with_unfolding_all rfl)
  refine k57_getItem_rev ht (Heap.IsSliceOf.new _ .none .none vs) ps ?_ (by rw [List.size_toArray]; omega)
  refine ⟨.ref _, _, I5.laid (t' := s4.toks) (o := .tup xs.reverse) (fun b ob q => Heap.get?_push_of_some _ q) (Nat.le_refl _) ?_, rfl, q _ (I5.hok.fresh (Nat.le_refl _))⟩
  exact ⟨by rw [List.length_reverse]; exact hz, _, r.reverse, ⟨_, Heap.get?_push_size _ rfl, rfl, _, rfl⟩⟩
theorem k57_sum_rawT {prog : Program} {w : World} {A : Around} {E : Value → Shared → Prop} {s : Shared} {l : Addr} {its : List Value} {ns : List Int} {Q : Value → Shared → Prop} (hh : A.handled = none) (hl : s.heap.IsTuple l its.toArray) (hi : IntsAre its ns)
    (h : ∀ h' tk t', (∀ b o, s.heap.get? b = some o → h'.get? b = some o) → Q (.int ns.sum t') { s with heap := h', toks := tk }) : wpAny (model prog w) A (call (.builtin "sum") [.ref l]) Q E s := by
  obtain ⟨xs, e⟩ := hi.allInts.items
  have hn : numsOf (intItems xs).toList = ns := by rw [← e]; exact hi.numsOf
  rw [nums_intItems] at hn
  rw [e] at hl
  refine PySem.W.ktm_sumG hh hl fun h' tk t' hk => ?_
  have := h h' tk t' hk
  rw [preSum_eq, List.take_of_length_le (by simp), hn]; exact this
def k57_rSumT (K : PySem.W.Frag) : List V → Hp → VK → Prop := fun vs H Q => ∃ (a : Addr) (ns : List Int), vs = [V.ref a] ∧ SqT K H a (ns.map V.int) ∧ Q (.int ns.sum) H
theorem k57_sumT {X : Cx} {K : PySem.W.Frag} (hc : X.calm = true := by rfl) (eK : X.K = K := by rfl) : CallR X (.builtin "sum") (k57_rSumT K) := by
  subst eK
  intro pins s σ H vs us Q I r h
  obtain ⟨a, ns, rfl, hs, q⟩ := h
  obtain ⟨its, rv, hl, _⟩ := I.tuple hs
  rw [Vals.ref1 r]
  exact k57_sum_rawT (I.ok.hd hc) hl rv.ints fun h' tk t' hk => ⟨.int _, H, I.kept hk, ⟨_, rfl⟩, q⟩
end L2
set_option Elab.async false
set_option linter.all false
set_option maxRecDepth 100000
set_option maxHeartbeats 4000000
/-! The text by places, the defs' scopes, what the top has written. Printed by gen.py. -/
namespace K57
open PySem PySem.Spec PyProof.Rows L2
def top (i : Nat) : Stmt := PySem.Challenge.pw_boxparts_k57_whole_boxes_that_are_watche.main.body.getD i (.Pass ⟨0, 0, 0, 0⟩)
def fdOf (K : PySem.W.Frag) (f : Addr) : FuncData := match K.lookup f with
  | some ⟨_, _, .func fd, _⟩ => fd
  | _ => default
/-- a def of the top -/
structure Fx (K : PySem.W.Frag) (mg : Str → Option Value) (x : Str) (st : Stmt) (ps : List Str) : Prop where
  F : FunD K x x (defArgs st) (defBody st) (defScope st) [] [] (He.ga K x) (fdOf K (He.ga K x))
  b : Binds K (fdOf K (He.ga K x)) ps []
  g : mg x = some (.ref (He.ga K x))
abbrev mLW (K : PySem.W.Frag) (x : Str) : Addr := He.ma K (He.ga K "LiveWord") x
/-- a method of the live word -/
structure Mx (K : PySem.W.Frag) (x q : Str) (st : Stmt) (ps : List Str) : Prop where
  F : FunD K x q (defArgs st) (defBody st) (defScope st) [] [] (mLW K x) (fdOf K (mLW K x))
  b : Binds K (fdOf K (mLW K x)) ps []
  m : Meth K (He.ga K "LiveWord") x (mLW K x)
/-- such a def keeps a promise -/
abbrev OKf (P : Program) (w : World) (K : PySem.W.Frag) (mg : Str → Option Value) (base : Heap) (k : Nat) (x : Str) (ps : List Str) (sp : Sp) : Prop := FnOk P w K mg base CX0 k (He.ga K x) (fdOf K (He.ga K x)) ps sp
abbrev OKm (P : Program) (w : World) (K : PySem.W.Frag) (mg : Str → Option Value) (base : Heap) (k : Nat) (x : Str) (ps : List Str) (sp : Sp) : Prop := FnOk P w K mg base CX0 k (mLW K x) (fdOf K (mLW K x)) ps sp
abbrev s_is_number : Stmt := top 12
theorem sc_is_number : FnScope ["thing"] ["thing"] (defScope s_is_number) := ⟨rfl, rfl, rfl, by decide +kernel, rfl, by decide +kernel, by decide +kernel⟩
abbrev s_is_between : Stmt := top 13
theorem sc_is_between : FnScope ["thing", "low", "high"] ["thing", "low", "high"] (defScope s_is_between) := ⟨rfl, rfl, rfl, by decide +kernel, rfl, by decide +kernel, by decide +kernel⟩
abbrev s_need_e : Stmt := top 14
theorem sc_need_e : FnScope ["e"] ["e"] (defScope s_need_e) := ⟨rfl, rfl, rfl, by decide +kernel, rfl, by decide +kernel, by decide +kernel⟩
abbrev s_need_few : Stmt := top 15
theorem sc_need_few : FnScope ["number", "most"] ["number", "most"] (defScope s_need_few) := ⟨rfl, rfl, rfl, by decide +kernel, rfl, by decide +kernel, by decide +kernel⟩
abbrev s_is_long_word : Stmt := top 31
theorem sc_is_long_word : FnScope ["thing", "item"] ["thing"] (defScope s_is_long_word) := ⟨rfl, rfl, rfl, by decide +kernel, rfl, by decide +kernel, by decide +kernel⟩
abbrev s_need_long_word : Stmt := top 32
theorem sc_need_long_word : FnScope ["word"] ["word"] (defScope s_need_long_word) := ⟨rfl, rfl, rfl, by decide +kernel, rfl, by decide +kernel, by decide +kernel⟩
abbrev s_lengths_of : Stmt := top 33
theorem sc_lengths_of : FnScope ["lines", "line"] ["lines"] (defScope s_lengths_of) := ⟨rfl, rfl, rfl, by decide +kernel, rfl, by decide +kernel, by decide +kernel⟩
abbrev s_letter_pushed : Stmt := top 34
theorem sc_letter_pushed : FnScope ["lines", "letter", "found", "left", "row", "line", "spots", "k"] ["lines", "letter"] (defScope s_letter_pushed) := ⟨rfl, rfl, rfl, by decide +kernel, rfl, by decide +kernel, by decide +kernel⟩
abbrev s_pushed_of : Stmt := top 35
theorem sc_pushed_of : FnScope ["word", "lines", "filling", "at", "letter", "row"] ["word"] (defScope s_pushed_of) := ⟨rfl, rfl, rfl, by decide +kernel, rfl, by decide +kernel, by decide +kernel⟩
abbrev s_elementary_of : Stmt := top 37
theorem sc_elementary_of : FnScope ["word", "place", "a", "b", "c"] ["word", "place"] (defScope s_elementary_of) := ⟨rfl, rfl, rfl, by decide +kernel, rfl, by decide +kernel, by decide +kernel⟩
abbrev s_elementary : Stmt := top 38
theorem sc_elementary : FnScope ["word", "place", "found"] ["word", "place"] (defScope s_elementary) := ⟨rfl, rfl, rfl, by decide +kernel, rfl, by decide +kernel, by decide +kernel⟩
abbrev s_is_name : Stmt := top 43
theorem sc_is_name : FnScope ["thing", "sign"] ["thing"] (defScope s_is_name) := ⟨rfl, rfl, rfl, by decide +kernel, rfl, by decide +kernel, by decide +kernel⟩
abbrev s_need_name : Stmt := top 44
theorem sc_need_name : FnScope ["name"] ["name"] (defScope s_need_name) := ⟨rfl, rfl, rfl, by decide +kernel, rfl, by decide +kernel, by decide +kernel⟩
abbrev s_is_deed : Stmt := top 45
theorem sc_is_deed : FnScope ["thing"] ["thing"] (defScope s_is_deed) := ⟨rfl, rfl, rfl, by decide +kernel, rfl, by decide +kernel, by decide +kernel⟩
abbrev s_word_about : Stmt := top 46
theorem sc_word_about : FnScope ["word", "letter"] ["word"] (defScope s_word_about) := ⟨rfl, rfl, rfl, by decide +kernel, rfl, by decide +kernel, by decide +kernel⟩
abbrev s_after_deed : Stmt := top 47
theorem sc_after_deed : FnScope ["word", "deed"] ["word", "deed"] (defScope s_after_deed) := ⟨rfl, rfl, rfl, by decide +kernel, rfl, by decide +kernel, by decide +kernel⟩
abbrev s_LW_init : Stmt := inClass (top 48) 0
theorem sc_LW_init : FnScope ["self", "e", "word"] ["self", "e", "word"] (defScope s_LW_init) := ⟨rfl, rfl, rfl, by decide +kernel, rfl, by decide +kernel, by decide +kernel⟩
abbrev s_LW_settle : Stmt := inClass (top 48) 1
theorem sc_LW_settle : FnScope ["self"] ["self"] (defScope s_LW_settle) := ⟨rfl, rfl, rfl, by decide +kernel, rfl, by decide +kernel, by decide +kernel⟩
abbrev s_LW_do : Stmt := inClass (top 48) 2
theorem sc_LW_do : FnScope ["self", "deed"] ["self", "deed"] (defScope s_LW_do) := ⟨rfl, rfl, rfl, by decide +kernel, rfl, by decide +kernel, by decide +kernel⟩
abbrev s_LW_go_on : Stmt := inClass (top 48) 3
theorem sc_LW_go_on : FnScope ["self", "deed", "old", "seen"] ["self", "deed"] (defScope s_LW_go_on) := ⟨rfl, rfl, rfl, by decide +kernel, rfl, by decide +kernel, by decide +kernel⟩
abbrev s_LW_deeds : Stmt := inClass (top 48) 4
theorem sc_LW_deeds : FnScope ["self"] ["self"] (defScope s_LW_deeds) := ⟨rfl, rfl, rfl, by decide +kernel, rfl, by decide +kernel, by decide +kernel⟩
abbrev s_LW_undo : Stmt := inClass (top 48) 5
theorem sc_LW_undo : FnScope ["self"] ["self"] (defScope s_LW_undo) := ⟨rfl, rfl, rfl, by decide +kernel, rfl, by decide +kernel, by decide +kernel⟩
abbrev s_LW_redo : Stmt := inClass (top 48) 6
theorem sc_LW_redo : FnScope ["self"] ["self"] (defScope s_LW_redo) := ⟨rfl, rfl, rfl, by decide +kernel, rfl, by decide +kernel, by decide +kernel⟩
abbrev s_LW_watch : Stmt := inClass (top 48) 8
theorem sc_LW_watch : FnScope ["self", "name", "many"] ["self", "name", "many"] (defScope s_LW_watch) := ⟨rfl, rfl, rfl, by decide +kernel, rfl, by decide +kernel, by decide +kernel⟩
abbrev s_LW_unwatch : Stmt := inClass (top 48) 9
theorem sc_LW_unwatch : FnScope ["self", "name", "seen"] ["self", "name"] (defScope s_LW_unwatch) := ⟨rfl, rfl, rfl, by decide +kernel, rfl, by decide +kernel, by decide +kernel⟩
abbrev s_LW_watched : Stmt := inClass (top 48) 10
theorem sc_LW_watched : FnScope ["self", "seen", "shape", "name"] ["self"] (defScope s_LW_watched) := ⟨rfl, rfl, rfl, by decide +kernel, rfl, by decide +kernel, by decide +kernel⟩
abbrev s_need_many : Stmt := top 51
theorem sc_need_many : FnScope ["word", "many"] ["word", "many"] (defScope s_need_many) := ⟨rfl, rfl, rfl, by decide +kernel, rfl, by decide +kernel, by decide +kernel⟩
abbrev s_arcs_of : Stmt := top 52
theorem sc_arcs_of : FnScope ["word", "is_rising", "found", "at", "letter", "later"] ["word", "is_rising"] (defScope s_arcs_of) := ⟨rfl, rfl, rfl, by decide +kernel, rfl, by decide +kernel, by decide +kernel⟩
abbrev s_least_costs : Stmt := top 53
theorem sc_least_costs : FnScope ["arcs", "flow", "many", "costs", "ways", "is_open", "k", "first", "last", "cost", "start", "goal", "price"] ["arcs", "flow", "many"] (defScope s_least_costs) := ⟨rfl, rfl, rfl, by decide +kernel, rfl, by decide +kernel, by decide +kernel⟩
abbrev s_best_flow : Stmt := top 54
theorem sc_best_flow : FnScope ["arcs", "nodes", "many", "flow", "lap", "costs", "ways", "node", "k", "first", "last", "cost"] ["arcs", "nodes", "many"] (defScope s_best_flow) := ⟨rfl, rfl, rfl, by decide +kernel, rfl, by decide +kernel, by decide +kernel⟩
abbrev s_lot_of : Stmt := top 55
theorem sc_lot_of : FnScope ["word", "many", "is_rising", "arcs", "flow", "nexts", "firsts", "k", "first", "last", "cost", "found", "at", "row"] ["word", "many", "is_rising"] (defScope s_lot_of) := ⟨rfl, rfl, rfl, by decide +kernel, rfl, by decide +kernel, by decide +kernel⟩
abbrev s_rising_lot : Stmt := top 56
theorem sc_rising_lot : FnScope ["word", "many"] ["word", "many"] (defScope s_rising_lot) := ⟨rfl, rfl, rfl, by decide +kernel, rfl, by decide +kernel, by decide +kernel⟩
abbrev s_l_begun : Stmt := top 58
theorem sc_l_begun : FnScope ["_law_script", "_law_large", "_law_grain"] ["_law_script"] (defScope s_l_begun) := ⟨rfl, rfl, rfl, by decide +kernel, rfl, by decide +kernel, by decide +kernel⟩
abbrev s_l_mixed : Stmt := top 59
theorem sc_l_mixed : FnScope ["_law_draw", "_law_turn", "_law_found", "_law_great", "_law_blend", "_law_grain"] ["_law_draw"] (defScope s_l_mixed) := ⟨rfl, rfl, rfl, by decide +kernel, rfl, by decide +kernel, by decide +kernel⟩
abbrev s_l_take : Stmt := top 60
theorem sc_l_take : FnScope ["_law_draw", "_law_amount", "_law_found"] ["_law_draw", "_law_amount"] (defScope s_l_take) := ⟨rfl, rfl, rfl, by decide +kernel, rfl, by decide +kernel, by decide +kernel⟩
abbrev s_l_pick : Stmt := top 61
theorem sc_l_pick : FnScope ["_law_draw", "_law_some"] ["_law_draw", "_law_some"] (defScope s_l_pick) := ⟨rfl, rfl, rfl, by decide +kernel, rfl, by decide +kernel, by decide +kernel⟩
abbrev s_l_caught : Stmt := top 62
theorem sc_l_caught : FnScope ["_law_work", "_law_caught_here", "_law_error"] ["_law_work"] (defScope s_l_caught) := ⟨rfl, rfl, rfl, by decide +kernel, rfl, by decide +kernel, by decide +kernel⟩
abbrev s_l_long_word : Stmt := top 63
theorem sc_l_long_word : FnScope ["_law_draw", "_law_most_here", "_law_top", "_law_lap"] ["_law_draw", "_law_most_here"] (defScope s_l_long_word) := ⟨rfl, rfl, rfl, by decide +kernel, rfl, by decide +kernel, by decide +kernel⟩
abbrev s_l_letter_on : Stmt := top 64
theorem sc_l_letter_on : FnScope ["_law_lines", "_law_letter", "_law_rows", "_law_left", "_law_k", "_law_row", "_law_spots", "_law_more", "_law_line", "_law_spot"] ["_law_lines", "_law_letter"] (defScope s_l_letter_on) := ⟨rfl, rfl, rfl, by decide +kernel, rfl, by decide +kernel, by decide +kernel⟩
abbrev s_l_tuples : Stmt := top 65
theorem sc_l_tuples : FnScope ["_law_rows", "_law_row"] ["_law_rows"] (defScope s_l_tuples) := ⟨rfl, rfl, rfl, by decide +kernel, rfl, by decide +kernel, by decide +kernel⟩
abbrev s_l_push : Stmt := top 66
theorem sc_l_push : FnScope ["_law_word", "_law_lines", "_law_rows", "_law_k", "_law_letter", "_law_row"] ["_law_word"] (defScope s_l_push) := ⟨rfl, rfl, rfl, by decide +kernel, rfl, by decide +kernel, by decide +kernel⟩
abbrev s_l_lengths : Stmt := top 67
theorem sc_l_lengths : FnScope ["_law_lines", "_law_line"] ["_law_lines"] (defScope s_l_lengths) := ⟨rfl, rfl, rfl, by decide +kernel, rfl, by decide +kernel, by decide +kernel⟩
abbrev s_l_about : Stmt := top 68
theorem sc_l_about : FnScope ["_law_word", "_law_letter"] ["_law_word"] (defScope s_l_about) := ⟨rfl, rfl, rfl, by decide +kernel, rfl, by decide +kernel, by decide +kernel⟩
abbrev s_l_elementary : Stmt := top 69
theorem sc_l_elementary : FnScope ["_law_word", "_law_place", "_law_a", "_law_b", "_law_c"] ["_law_word", "_law_place"] (defScope s_l_elementary) := ⟨rfl, rfl, rfl, by decide +kernel, rfl, by decide +kernel, by decide +kernel⟩
abbrev s_l_name : Stmt := top 70
theorem sc_l_name : FnScope ["_law_draw", "_law_found", "_law_lap"] ["_law_draw"] (defScope s_l_name) := ⟨rfl, rfl, rfl, by decide +kernel, rfl, by decide +kernel, by decide +kernel⟩
abbrev s_l_same_dict : Stmt := top 71
theorem sc_l_same_dict : FnScope ["_law_found", "_law_due", "_law_key"] ["_law_found", "_law_due"] (defScope s_l_same_dict) := ⟨rfl, rfl, rfl, by decide +kernel, rfl, by decide +kernel, by decide +kernel⟩
abbrev s_l_deed : Stmt := top 72
theorem sc_l_deed : FnScope ["_law_draw", "_law_word", "_law_way"] ["_law_draw", "_law_word"] (defScope s_l_deed) := ⟨rfl, rfl, rfl, by decide +kernel, rfl, by decide +kernel, by decide +kernel⟩
abbrev s_l_word_on : Stmt := top 73
theorem sc_l_word_on : FnScope ["_law_word", "_law_deed_here"] ["_law_word", "_law_deed_here"] (defScope s_l_word_on) := ⟨rfl, rfl, rfl, by decide +kernel, rfl, by decide +kernel, by decide +kernel⟩
abbrev s_l_doable : Stmt := top 74
theorem sc_l_doable : FnScope ["_law_draw", "_law_word", "_law_lap", "_law_deed_here"] ["_law_draw", "_law_word"] (defScope s_l_doable) := ⟨rfl, rfl, rfl, by decide +kernel, rfl, by decide +kernel, by decide +kernel⟩
abbrev s_l_most : Stmt := top 75
theorem sc_l_most : FnScope ["_law_word", "_law_many"] ["_law_word", "_law_many"] (defScope s_l_most) := ⟨rfl, rfl, rfl, by decide +kernel, rfl, by decide +kernel, by decide +kernel⟩
abbrev s_l_looked : Stmt := top 76
theorem sc_l_looked : FnScope ["_law_live", "_law_word", "_law_seen", "_law_name_here", "_law_due", "_law_told", "_law_row"] ["_law_live", "_law_word", "_law_seen"] (defScope s_l_looked) := ⟨rfl, rfl, rfl, by decide +kernel, rfl, by decide +kernel, by decide +kernel⟩
abbrev s_l_changes_right : Stmt := top 77
theorem sc_l_changes_right : FnScope ["_law_deed_here", "_law_old", "_law_fresh", "_law_first", "_law_last", "_law_name_here", "_law_more"] ["_law_deed_here", "_law_old", "_law_fresh", "_law_first", "_law_last"] (defScope s_l_changes_right) := ⟨rfl, rfl, rfl, by decide +kernel, rfl, by decide +kernel, by decide +kernel⟩
abbrev s_l_is_let_go : Stmt := top 78
theorem sc_l_is_let_go : FnScope ["_law_live", "_law_name_here", "_law_error"] ["_law_live", "_law_name_here"] (defScope s_l_is_let_go) := ⟨rfl, rfl, rfl, by decide +kernel, rfl, by decide +kernel, by decide +kernel⟩
abbrev s_l_watch : Stmt := top 79
theorem sc_l_watch : FnScope ["_law_draw", "_law_live", "_law_seen", "_law_fresh", "_law_name_here"] ["_law_draw", "_law_live", "_law_seen"] (defScope s_l_watch) := ⟨rfl, rfl, rfl, by decide +kernel, rfl, by decide +kernel, by decide +kernel⟩
abbrev s_l_refused : Stmt := top 80
theorem sc_l_refused : FnScope ["_law_live", "_law_error", "_law_bad"] ["_law_live"] (defScope s_l_refused) := ⟨rfl, rfl, rfl, by decide +kernel, rfl, by decide +kernel, by decide +kernel⟩
abbrev s_law : Stmt := top 81
theorem sc_law : FnScope ["_law_script", "_law_draw", "_law_live", "_law_states_here", "_law_later", "_law_lap", "_law_word", "_law_seen", "_law_way", "_law_old", "_law_lines", "_law_fresh", "_law_deed_here", "_law_name_here"] ["_law_script"] (defScope s_law) := ⟨rfl, rfl, rfl, by decide +kernel, rfl, by decide +kernel, by decide +kernel⟩
theorem bb_isinstance : bootBuiltins "isinstance" = some (.builtin "isinstance") := by decide +kernel
theorem bb_int : bootBuiltins "int" = some (.type "int") := by decide +kernel
theorem bb_bool : bootBuiltins "bool" = some (.type "bool") := by decide +kernel
theorem bb_str : bootBuiltins "str" = some (.type "str") := by decide +kernel
theorem bb_tuple : bootBuiltins "tuple" = some (.type "tuple") := by decide +kernel
theorem bb_len : bootBuiltins "len" = some (.builtin "len") := by decide +kernel
theorem bb_all : bootBuiltins "all" = some (.builtin "all") := by decide +kernel
theorem bb_list : bootBuiltins "list" = some (.type "list") := by decide +kernel
theorem bb_range : bootBuiltins "range" = some (.type "range") := by decide +kernel
theorem bb_enumerate : bootBuiltins "enumerate" = some (.type "enumerate") := by decide +kernel
theorem bb_min : bootBuiltins "min" = some (.builtin "min") := by decide +kernel
theorem bb_max : bootBuiltins "max" = some (.builtin "max") := by decide +kernel
theorem bb_dict : bootBuiltins "dict" = some (.type "dict") := by decide +kernel
theorem bb_sorted : bootBuiltins "sorted" = some (.builtin "sorted") := by decide +kernel
theorem bb_sum : bootBuiltins "sum" = some (.builtin "sum") := by decide +kernel
theorem bb_abs : bootBuiltins "abs" = some (.builtin "abs") := by decide +kernel
theorem bb_repr : bootBuiltins "repr" = some (.builtin "repr") := by decide +kernel
/-- what the top has written -/
structure Txt (K : PySem.W.Frag) (mg : Str → Option Value) : Prop where
  f_is_number : Fx K mg "is_number" s_is_number ["thing"]
  f_is_between : Fx K mg "is_between" s_is_between ["thing", "low", "high"]
  f_need_e : Fx K mg "need_e" s_need_e ["e"]
  f_need_few : Fx K mg "need_few" s_need_few ["number", "most"]
  f_is_long_word : Fx K mg "is_long_word" s_is_long_word ["thing"]
  f_need_long_word : Fx K mg "need_long_word" s_need_long_word ["word"]
  f_lengths_of : Fx K mg "lengths_of" s_lengths_of ["lines"]
  f_letter_pushed : Fx K mg "letter_pushed" s_letter_pushed ["lines", "letter"]
  f_pushed_of : Fx K mg "pushed_of" s_pushed_of ["word"]
  f_elementary_of : Fx K mg "elementary_of" s_elementary_of ["word", "place"]
  f_elementary : Fx K mg "elementary" s_elementary ["word", "place"]
  f_is_name : Fx K mg "is_name" s_is_name ["thing"]
  f_need_name : Fx K mg "need_name" s_need_name ["name"]
  f_is_deed : Fx K mg "is_deed" s_is_deed ["thing"]
  f_word_about : Fx K mg "word_about" s_word_about ["word"]
  f_after_deed : Fx K mg "after_deed" s_after_deed ["word", "deed"]
  f_LW_init : Mx K "__init__" "LiveWord.__init__" s_LW_init ["self", "e", "word"]
  f_LW_settle : Mx K "settle" "LiveWord.settle" s_LW_settle ["self"]
  f_LW_do : Mx K "do" "LiveWord.do" s_LW_do ["self", "deed"]
  f_LW_go_on : Mx K "go_on" "LiveWord.go_on" s_LW_go_on ["self", "deed"]
  f_LW_deeds : Mx K "deeds" "LiveWord.deeds" s_LW_deeds ["self"]
  f_LW_undo : Mx K "undo" "LiveWord.undo" s_LW_undo ["self"]
  f_LW_redo : Mx K "redo" "LiveWord.redo" s_LW_redo ["self"]
  f_LW_watch : Mx K "watch" "LiveWord.watch" s_LW_watch ["self", "name", "many"]
  f_LW_unwatch : Mx K "unwatch" "LiveWord.unwatch" s_LW_unwatch ["self", "name"]
  f_LW_watched : Mx K "watched" "LiveWord.watched" s_LW_watched ["self"]
  f_need_many : Fx K mg "need_many" s_need_many ["word", "many"]
  f_arcs_of : Fx K mg "arcs_of" s_arcs_of ["word", "is_rising"]
  f_least_costs : Fx K mg "least_costs" s_least_costs ["arcs", "flow", "many"]
  f_best_flow : Fx K mg "best_flow" s_best_flow ["arcs", "nodes", "many"]
  f_lot_of : Fx K mg "lot_of" s_lot_of ["word", "many", "is_rising"]
  f_rising_lot : Fx K mg "rising_lot" s_rising_lot ["word", "many"]
  f_l_begun : Fx K mg "_law_begun" s_l_begun ["_law_script"]
  f_l_mixed : Fx K mg "_law_mixed" s_l_mixed ["_law_draw"]
  f_l_take : Fx K mg "_law_take" s_l_take ["_law_draw", "_law_amount"]
  f_l_pick : Fx K mg "_law_pick" s_l_pick ["_law_draw", "_law_some"]
  f_l_caught : Fx K mg "_law_caught" s_l_caught ["_law_work"]
  f_l_long_word : Fx K mg "_law_long_word" s_l_long_word ["_law_draw", "_law_most_here"]
  f_l_letter_on : Fx K mg "_law_letter_on" s_l_letter_on ["_law_lines", "_law_letter"]
  f_l_tuples : Fx K mg "_law_tuples" s_l_tuples ["_law_rows"]
  f_l_push : Fx K mg "_law_push" s_l_push ["_law_word"]
  f_l_lengths : Fx K mg "_law_lengths" s_l_lengths ["_law_lines"]
  f_l_about : Fx K mg "_law_about" s_l_about ["_law_word"]
  f_l_elementary : Fx K mg "_law_elementary" s_l_elementary ["_law_word", "_law_place"]
  f_l_name : Fx K mg "_law_name" s_l_name ["_law_draw"]
  f_l_same_dict : Fx K mg "_law_same_dict" s_l_same_dict ["_law_found", "_law_due"]
  f_l_deed : Fx K mg "_law_deed" s_l_deed ["_law_draw", "_law_word"]
  f_l_word_on : Fx K mg "_law_word_on" s_l_word_on ["_law_word", "_law_deed_here"]
  f_l_doable : Fx K mg "_law_doable" s_l_doable ["_law_draw", "_law_word"]
  f_l_most : Fx K mg "_law_most" s_l_most ["_law_word", "_law_many"]
  f_l_looked : Fx K mg "_law_looked" s_l_looked ["_law_live", "_law_word", "_law_seen"]
  f_l_changes_right : Fx K mg "_law_changes_right" s_l_changes_right ["_law_deed_here", "_law_old", "_law_fresh", "_law_first", "_law_last"]
  f_l_is_let_go : Fx K mg "_law_is_let_go" s_l_is_let_go ["_law_live", "_law_name_here"]
  f_l_watch : Fx K mg "_law_watch" s_l_watch ["_law_draw", "_law_live", "_law_seen"]
  f_l_refused : Fx K mg "_law_refused" s_l_refused ["_law_live"]
  f_law : Fx K mg "law" s_law ["_law_script"]
  b_isinstance : mg "isinstance" = none
  b_int : mg "int" = none
  b_bool : mg "bool" = none
  b_str : mg "str" = none
  b_tuple : mg "tuple" = none
  b_len : mg "len" = none
  b_all : mg "all" = none
  b_list : mg "list" = none
  b_range : mg "range" = none
  b_enumerate : mg "enumerate" = none
  b_min : mg "min" = none
  b_max : mg "max" = none
  b_dict : mg "dict" = none
  b_sorted : mg "sorted" = none
  b_sum : mg "sum" = none
  b_abs : mg "abs" = none
  b_repr : mg "repr" = none
  c_MOST_E : ∃ t, mg "MOST_E" = some (.int 20 t)
  c_MOST_BOXES : ∃ t, mg "MOST_BOXES" = some (.int 16 t)
  c_MOST_LETTER : ∃ t, mg "MOST_LETTER" = some (.int 16 t)
  c_FAR : ∃ t, mg "FAR" = some (.int 1000000 t)
  c_SIGNS : ∃ t, mg "SIGNS" = some (.str "abcdefghijklmnopqrstuvwxyz" t)
  c_ALONE : mg "ALONE" = some (.ref (He.ga K "ALONE")) ∧ ∀ H, SqT K H (He.ga K "ALONE") [.str "drop", .str "shed", .str "about"]
  c_LETTERED : mg "LETTERED" = some (.ref (He.ga K "LETTERED")) ∧ ∀ H, SqT K H (He.ga K "LETTERED") [.str "push", .str "pull"]
  cl_LW : Cls K (He.ga K "LiveWord")
  mk_LW : Mk K (He.ga K "LiveWord") (He.ma K (He.ga K "LiveWord") "__init__")
  g_LW : mg "LiveWord" = some (.ref (He.ga K "LiveWord"))
  na_e : NoAttr K (He.ga K "LiveWord") "e"
  na_begun : NoAttr K (He.ga K "LiveWord") "begun"
  na_word : NoAttr K (He.ga K "LiveWord") "word"
  na_lines : NoAttr K (He.ga K "LiveWord") "lines"
  na_filling : NoAttr K (He.ga K "LiveWord") "filling"
  na_standing : NoAttr K (He.ga K "LiveWord") "standing"
  na_states : NoAttr K (He.ga K "LiveWord") "states"
  na_done : NoAttr K (He.ga K "LiveWord") "done"
  na_later : NoAttr K (He.ga K "LiveWord") "later"

end K57
set_option Elab.async false
set_option linter.all false
set_option maxRecDepth 100000
set_option maxHeartbeats 4000000
/-! Rows as tuples of tuples, what stays; the small tests. -/
namespace K57
open PySem PySem.Spec PyProof.Rows L2
local macro_rules | `(tactic| walk_at "g") => `(tactic| repeat (first | refine ⟨_, rfl, ?_⟩ | refine ⟨_, _, rfl, rfl, ?_⟩ | refine ⟨_, _, rfl, rfl, _, rfl, ?_⟩))
section
variable {K : PySem.W.Frag} {H H' : Hp} {a : Addr} {xs : List V}
theorem sameT (e : Same H H') (h : SqT K H a xs) : SqT K H' a xs := by
  rcases h with (h | ⟨o, h⟩) | h
  · exact .inl (.inl (e _ _ h))
  · exact .inl (.inr ⟨o, e _ _ h⟩)
  · exact .inr h
theorem same_upd {p : Addr} {o : HO} (h : H p = none) : Same H (upd H p o) := fun b u e => by
  rw [upd_ne (ne_of_none e h)]
  exact e
theorem same_upd2 {p : Addr} {o : HO} (e : Same H H') (h : H' p = none) : Same H (upd H' p o) := e.trans (same_upd h)
end
/-- a tuple of ints -/
abbrev Wt (K : PySem.W.Frag) (H : Hp) (a : Addr) (xs : List Int) : Prop := SqT K H a (xs.map V.int)
/-- a tuple of tuples of ints -/
def Rt (K : PySem.W.Frag) (H : Hp) (a : Addr) (rows : List (List Int)) : Prop := ∃ ps : List Addr, SqT K H a (ps.map V.ref) ∧ Paired (fun p r => Wt K H p r) ps rows
theorem Rt.same {K : PySem.W.Frag} {H H' : Hp} {a : Addr} {rows : List (List Int)} (e : Same H H') (h : Rt K H a rows) : Rt K H' a rows := by
  obtain ⟨ps, h1, h2⟩ := h
  exact ⟨ps, sameT e h1, Paired.mapP h2 fun p r h => sameT e h⟩
theorem Paired.len {α β : Type} {F : α → β → Prop} {l : List α} {m : List β} (h : Paired F l m) : l.length = m.length := Paired.length h
theorem Paired.at {α β : Type} {F : α → β → Prop} : ∀ {l : List α} {m : List β} {i : Nat} {y : β}, Paired F l m → m[i]? = some y → ∃ x, l[i]? = some x ∧ F x y
  | _, _, _, _, .nil, h => by simp at h
  | _, _, 0, y, .cons h _, e => by simp at e; subst e; exact ⟨_, rfl, h⟩
  | _, _, i + 1, y, .cons _ t, e => by
    obtain ⟨x, h1, h2⟩ := Paired.at (i := i) t (by simpa using e)
    exact ⟨x, by simpa using h1, h2⟩
theorem Paired.at' {α β : Type} {F : α → β → Prop} : ∀ {l : List α} {m : List β} {i : Nat} {x : α}, Paired F l m → l[i]? = some x → ∃ y, m[i]? = some y ∧ F x y
  | _, _, _, _, .nil, h => by simp at h
  | _, _, 0, y, .cons h _, e => by simp at e; subst e; exact ⟨_, rfl, h⟩
  | _, _, i + 1, y, .cons _ t, e => by
    obtain ⟨x, h1, h2⟩ := Paired.at' (i := i) t (by simpa using e)
    exact ⟨x, by simpa using h1, h2⟩
theorem Paired.snoc {α β : Type} {F : α → β → Prop} : ∀ {l : List α} {m : List β} {x : α} {y : β}, Paired F l m → F x y → Paired F (l ++ [x]) (m ++ [y])
  | _, _, _, _, .nil, h => .cons h .nil
  | _, _, _, _, .cons h t, h' => .cons h (Paired.snoc t h')
theorem Paired.setp {α β : Type} {F : α → β → Prop} : ∀ {l : List α} {m : List β} {x : α} {y : β} (i : Nat), Paired F l m → F x y → Paired F (l.set i x) (m.set i y)
  | _, _, _, _, _, .nil, _ => .nil
  | _, _, _, _, 0, .cons _ t, h => .cons h t
  | _, _, _, _, i + 1, .cons h t, h' => .cons h (Paired.setp i t h')
theorem line_of {n : Nat} (h : n ≤ 1000000) : n ≤ sizeLine := by rw [sizeLine_eq]; omega
theorem line_lt {n : Nat} (h : n ≤ 1000000) : n < sizeLine := by rw [sizeLine_eq]; omega
section
variable {P : Program} {w : World} {K : PySem.W.Frag} {mg : Str → Option Value} {base : Heap}
/-! ### is_number, is_between, need_e, need_few -/
def isNum : V → Bool
  | .int _ => true
  | _ => false
inductive Flat : V → Prop
  | non : Flat .non
  | bl (b : Bool) : Flat (.bl b)
  | int (i : Int) : Flat (.int i)
  | str (x : Str) : Flat (.str x)
def spIsNumber : Sp := fun vs H Q _ => ∃ x, vs = [x] ∧ Flat x ∧ Q (.bl (isNum x)) H
theorem ok_is_number (T : Txt K mg) : OKf P w K mg base 1 "is_number" ["thing"] spIsNumber := by
  refine T.f_is_number.F.ok sc_is_number (fun vs H Q E h => ?_) (fun cdv A outer s H vs Q E hr h => ?_)
  · obtain ⟨x, rfl, _⟩ := h
    rfl
  · obtain ⟨x, rfl, hx, k⟩ := h
    refine ⟨_, PSs.nox (pss_one (ps_ret (pe_and (pe_callB call_isi (by rfl) T.b_isinstance bb_isinstance (pa_cons (pv 0) (pa_cons (pe_bltn (v := .ty "int") (by rfl) T.b_int bb_int rfl) pa_nil))) (pe_one (pe_not (pe_callB call_isi (by rfl) T.b_isinstance bb_isinstance (pa_cons (pv 0) (pa_cons (pe_bltn (v := .ty "bool") (by rfl) T.b_bool bb_bool rfl) pa_nil)))))))), ?_⟩
    refine ⟨x, rfl, ?_⟩
    cases hx with
    | non =>
      exact ⟨.non, .ty "int", _, _, false, rfl, .ty _, .base .non, kit_ty (by decide +kernel), _, rfl, k⟩
    | bl b =>
      refine ⟨.bl b, .ty "int", _, _, true, rfl, .ty _, .base (.bl b), kit_ty (by decide +kernel), _, rfl, ?_⟩
      exact ⟨.bl b, rfl, .bl b, .ty "bool", _, _, true, rfl, .ty _, .base (.bl b), kit_ty (by decide +kernel), _, rfl, k⟩
    | int i =>
      refine ⟨.int i, .ty "int", _, _, true, rfl, .ty _, .base (.int i), kit_ty (by decide +kernel), _, rfl, ?_⟩
      exact ⟨.int i, rfl, .int i, .ty "bool", _, _, false, rfl, .ty _, .base (.int i), kit_ty (by decide +kernel), _, rfl, k⟩
    | str z =>
      exact ⟨.str z, .ty "int", _, _, false, rfl, .ty _, .base (.str z), kit_ty (by decide +kernel), _, rfl, k⟩
end

/-! ### comprehensions that make a list by a relation, or by a function -/
/-- all but D stays -/
def But (D : Addr) (H H' : Hp) : Prop := ∀ b o, b ≠ D → H b = some o → H' b = some o
theorem Same.but {D : Addr} {H H' : Hp} (e : Same H H') : But D H H' := fun b o _ h => e b o h
theorem But.trans {D : Addr} {H H1 H2 : Hp} (a : But D H H1) (b : But D H1 H2) : But D H H2 := fun c o n h => b c o n (a c o n h)
theorem but_upd {D : Addr} {H : Hp} {o : HO} : But D H (upd H D o) := fun b u n h => by rw [upd_ne n]; exact h
theorem but_same {D : Addr} {H1 H H' : Hp} (s : Same H1 H) (n : H1 D = none) (b : But D H H') : Same H1 H' := fun c o e => b c o (ne_of_none e n) (s c o e)
theorem sqT_but {K : PySem.W.Frag} {D : Addr} {H H' : Hp} {a : Addr} {xs : List V} (e : But D H H') (n : a ≠ D) (h : SqT K H a xs) : SqT K H' a xs := by
  rcases h with (h | ⟨o, h⟩) | h
  · exact .inl (.inl (e _ _ n h))
  · exact .inl (.inr ⟨o, e _ _ n h⟩)
  · exact .inr h
theorem lcr {J : It} {n : Nat} {G : Hp → Prop} {Y : Nat → Hp → V → Hp → Prop} (w : Walk J n G Y) {g : TG} {tt : TT} {te : TE} {vs : List Nat} {σ : L2.St} {H1 : Hp} {D : Addr} {Qd : Hp → Prop} (hn : n ≤ 1000000) (hD : H1 D = none) (p : Nat → Bool) (R : Nat → V → Hp → Prop)
    (hR : ∀ i y H H', R i y H → But D H H' → R i y H') (hG : ∀ H, Same H1 H → G H) (hY : ∀ i H x H', Y i H x H' → Same H H')
    (hs : ∀ i x H H' ys (N : V → Hp → Prop) (M : Hp → Prop), i < n → Same H1 H → H D = some (.lst ys) → Y i H x H' → (∀ y H4, p i = true → Same H' H4 → R i y H4 → N y H4) → (∀ H4, p i = false → Same H' H4 → M H4) →
      g x (wipe σ vs) H' fun σ2 H2 => wipe σ2 vs = wipe σ vs ∧ tt σ2 H2 fun b H3 => if b = true then te σ2 H3 N else M H3)
    (hd : ∀ H ys, Same H1 H → H D = some (.lst ys) → Paired (fun i y => R i y H) ((List.range n).filter p) ys → Qd H) :
    ∃ W : Nat → Nat → Hp → Prop, (∃ m, W 0 m (upd H1 D (.lst []))) ∧ ∀ i m H, W i m H →
      (J.stop i H ∧ Qd H) ∨ (J.go i H ∧ ∃ Nx : Hp → Prop, (∀ H', Nx H' → ∃ m', m' < m ∧ W (i + 1) m' H') ∧ ∀ x H', J.yld i H x H' → g x (wipe σ vs) H' fun σ2 H2 => wipe σ2 vs = wipe σ vs ∧ tt σ2 H2 fun b H3 =>
        if b = true then te σ2 H3 fun y H4 => ∃ acc, H4 D = some (.lst acc) ∧ acc.length < sizeLine ∧ Nx (upd H4 D (.lst (acc ++ [y]))) else Nx H3) := by
  refine lc_it w (fun i H => Same H1 H ∧ ∃ ys, H D = some (.lst ys) ∧ ys.length ≤ i ∧ Paired (fun i y => R i y H) ((List.range i).filter p) ys) ?_ (fun i H _ q => hG H q.1) ?_ ?_
  · exact ⟨same_upd hD, [], upd_same, Nat.le_refl _, .nil⟩
  · rintro i x H H' hi ⟨s1, ys, hy, hl, pr⟩ hYi
    have sH := hY _ _ _ _ hYi
    refine hs i x H H' ys _ _ hi s1 hy hYi (fun y H4 hp s4 hr => ?_) (fun H4 hp s4 => ?_)
    · have hD4 : H4 D = some (.lst ys) := s4 _ _ (sH _ _ hy)
      have s14 : Same H1 H4 := s1.trans (sH.trans s4)
      refine ⟨ys, hD4, line_lt (by omega), but_same s14 hD but_upd, ys ++ [y], upd_same, by simp; omega, ?_⟩
      rw [List.range_succ, List.filter_append]
      have : [i].filter p = [i] := by simp [hp]
      rw [this]
      exact Paired.snoc (Paired.mapP pr fun j z hz => hR j z _ _ hz ((Same.but (sH.trans s4)).trans but_upd)) (hR i y _ _ hr but_upd)
    · have hD4 : H4 D = some (.lst ys) := s4 _ _ (sH _ _ hy)
      refine ⟨s1.trans (sH.trans s4), ys, hD4, by omega, ?_⟩
      rw [List.range_succ, List.filter_append]
      have : [i].filter p = [] := by simp [hp]
      rw [this, List.append_nil]
      exact Paired.mapP pr fun j z hz => hR j z _ _ hz (Same.but (sH.trans s4))
  · rintro H ⟨s1, ys, hy, hl, pr⟩
    exact hd H ys s1 hy pr
theorem paired_fun {α β : Type} {f : α → β} : ∀ {l : List α} {m : List β}, Paired (fun i y => y = f i) l m → m = l.map f
  | _, _, .nil => rfl
  | _, _, .cons h t => by rw [h, paired_fun t]; rfl
/-- .. by a function -/
theorem lcf {J : It} {n : Nat} {G : Hp → Prop} {Y : Nat → Hp → V → Hp → Prop} (w : Walk J n G Y) {g : TG} {tt : TT} {te : TE} {vs : List Nat} {σ : L2.St} {H1 : Hp} {D : Addr} {Qd : Hp → Prop} (hn : n ≤ 1000000) (hD : H1 D = none) (p : Nat → Bool) (f : Nat → V)
    (hG : ∀ H, Same H1 H → G H) (hY : ∀ i H x H', Y i H x H' → Same H H')
    (hs : ∀ i x H H' (N : V → Hp → Prop) (M : Hp → Prop), i < n → Same H1 H → Y i H x H' → (∀ H4, p i = true → Same H' H4 → N (f i) H4) → (∀ H4, p i = false → Same H' H4 → M H4) →
      g x (wipe σ vs) H' fun σ2 H2 => wipe σ2 vs = wipe σ vs ∧ tt σ2 H2 fun b H3 => if b = true then te σ2 H3 N else M H3)
    (hd : ∀ H, Same H1 H → H D = some (.lst (((List.range n).filter p).map f)) → Qd H) :
    ∃ W : Nat → Nat → Hp → Prop, (∃ m, W 0 m (upd H1 D (.lst []))) ∧ ∀ i m H, W i m H →
      (J.stop i H ∧ Qd H) ∨ (J.go i H ∧ ∃ Nx : Hp → Prop, (∀ H', Nx H' → ∃ m', m' < m ∧ W (i + 1) m' H') ∧ ∀ x H', J.yld i H x H' → g x (wipe σ vs) H' fun σ2 H2 => wipe σ2 vs = wipe σ vs ∧ tt σ2 H2 fun b H3 =>
        if b = true then te σ2 H3 fun y H4 => ∃ acc, H4 D = some (.lst acc) ∧ acc.length < sizeLine ∧ Nx (upd H4 D (.lst (acc ++ [y]))) else Nx H3) :=
  lcr w hn hD p (fun i y _ => y = f i) (fun _ _ _ _ h _ => h) hG hY (fun i x H H' ys N M hi s hy y hN hM => hs i x H H' N M hi s y (fun H4 hp s4 => hN _ H4 hp s4 rfl) hM)
    fun H ys s hy pr => hd H s (by rw [hy, paired_fun pr])
theorem yAt_same {xs : List V} (i : Nat) (H : Hp) (x : V) (H' : Hp) (h : YAt xs i H x H') : Same H H' := by
  rw [h.1]
  exact Same.refl _
theorem yFn_same {f : Nat → V} (i : Nat) (H : Hp) (x : V) (H' : Hp) (h : YFn f i H x H') : Same H H' := by
  rw [h.1]
  exact Same.refl _
theorem yPair_same {xs ys : Nat → Option V} (i : Nat) (H : Hp) (x : V) (H' : Hp) (h : YPair xs ys i H x H') : Same H H' := by
  obtain ⟨T, x, y, _, h2, rfl, _⟩ := h
  exact same_upd h2
theorem range_map {α β : Type} (xs : List α) (d : α) (f : α → β) : (List.range xs.length).map (fun i => f (xs.getD i d)) = xs.map f := by
  apply List.ext_getElem
  · simp
  · intro i h1 h2
    have : i < xs.length := by simpa using h1
    simp [List.getD, this]
theorem range_all {n : Nat} : (List.range n).filter (fun _ => true) = List.range n := List.filter_eq_self.mpr fun _ _ => rfl
theorem tyT {K : PySem.W.Frag} {H : Hp} {a : Addr} {xs : List V} (h : SqT K H a xs) : TyX K H (.ref a) (.type "tuple") := by
  rcases h with (h | ⟨o, h⟩) | ⟨o, its, n, h1, h2, _⟩
  · exact .base (.tup h)
  · exact .fTuple h
  · exact .kTuple h1 h2

/-! ### rules with the written part named (for comprehensions' blocks) -/
section
variable {X : Cx} {K : PySem.W.Frag}
theorem len_K (e : X.K = K := by rfl) : CallR X (.builtin "len") (fun xs H Q => ∃ p ys, xs = [.ref p] ∧ (SqL K H p ys ∨ SqT K H p ys) ∧ Q (.int ys.length) H) := by
  subst e; exact call_len_seq
theorem list_K (e : X.K = K := by rfl) : CallR X (.type "list") (fun xs H Q => ∃ p ys, xs = [.ref p] ∧ (SqL K H p ys ∨ SqT K H p ys) ∧ ∀ l, H l = none → Q (.ref l) (upd H l (.lst ys))) := by
  subst e; exact call_list_of
theorem tuple_K (e : X.K = K := by rfl) : CallR X (.type "tuple") (fun xs H Q => ∃ p ys, xs = [.ref p] ∧ ((SqL K H p ys ∧ ∀ l, H l = none → Q (.ref l) (upd H l (.tup ys))) ∨ (SqT K H p ys ∧ Q (.ref p) H))) := by
  subst e; exact call_tuple_of
theorem ixt_K (e : X.K = K := by rfl) : IxR X (rIxT K) := by subst e; exact ix_tup
theorem ixl_K (e : X.K = K := by rfl) : IxR X (rIxL K) := by subst e; exact ix_list
theorem slt_K (e : X.K = K := by rfl) : SlR X (rSlA K) := by subst e; exact sl_tupA
theorem all_K (hc : X.calm = true := by rfl) (e : X.K = K := by rfl) : CallR X (.builtin "all") (rAll K) := by subst e; exact cr_all hc
theorem sum_K (hc : X.calm = true := by rfl) (e : X.K = K := by rfl) : CallR X (.builtin "sum") (rSum K) := by subst e; exact cr_sum hc
theorem isi_K (e : X.K = K := by rfl) : CallR X (.builtin "isinstance") (rIsi K) := by subst e; exact call_isi
theorem in_K (e : X.K = K := by rfl) : OpR X (compareOp .In) (rIn K false) := by subst e; exact op_in_seq
theorem notIn_K (e : X.K = K := by rfl) : OpR X (compareOp .NotIn) (rIn K true) := by subst e; exact op_notIn_seq
theorem eqD_K (hu : X.A.units + 64 < cLine) (e : X.K = K := by rfl) : OpR X (compareOp .Eq) (rEqD K) := by subst e; exact op_eqD hu
theorem neD_K (hu : X.A.units + 64 < cLine) (e : X.K = K := by rfl) : OpR X (compareOp .NotEq) (rNeD K) := by subst e; exact op_neD hu
theorem cat_K (e : X.K = K := by rfl) : OpR X (binaryOp .Add) (rCatA K) := by subst e; exact op_catA
theorem pit_K {tg l : Expr} {tl : TE} (hl : PE X l tl) (e : X.K = K := by rfl) : PI X tg l (iTup K tl) := by subst e; exact pi_tup hl
theorem pil_K {tg l : Expr} {tl : TE} (hl : PE X l tl) (e : X.K = K := by rfl) : PI X tg l (iList K tl) := by subst e; exact pi_list hl
end
/-! ### .. without a test -/
theorem lcm {J : It} {n : Nat} {G : Hp → Prop} {Y : Nat → Hp → V → Hp → Prop} (w : Walk J n G Y) {g : TG} {te : TE} {vs : List Nat} {σ : L2.St} {H1 : Hp} {D : Addr} {Qd : Hp → Prop} (hn : n ≤ 1000000) (hD : H1 D = none) (f : Nat → V)
    (hG : ∀ H, Same H1 H → G H) (hY : ∀ i H x H', Y i H x H' → Same H H')
    (hs : ∀ i x H H' (N : V → Hp → Prop), i < n → Same H1 H → Y i H x H' → (∀ H4, Same H' H4 → N (f i) H4) →
      g x (wipe σ vs) H' fun σ2 H2 => wipe σ2 vs = wipe σ vs ∧ te σ2 H2 N)
    (hd : ∀ H, Same H1 H → H D = some (.lst ((List.range n).map f)) → Qd H) (mono : ∀ x σ H Q Q', (∀ σ' H', Q σ' H' → Q' σ' H') → g x σ H Q → g x σ H Q' := by intro x σ H Q Q' h q; exact h _ _ q) :
    ∃ W : Nat → Nat → Hp → Prop, (∃ m, W 0 m (upd H1 D (.lst []))) ∧ ∀ i m H, W i m H →
      (J.stop i H ∧ Qd H) ∨ (J.go i H ∧ ∃ Nx : Hp → Prop, (∀ H', Nx H' → ∃ m', m' < m ∧ W (i + 1) m' H') ∧ ∀ x H', J.yld i H x H' → g x (wipe σ vs) H' fun σ2 H2 => wipe σ2 vs = wipe σ vs ∧ tYes σ2 H2 fun b H3 =>
        if b = true then te σ2 H3 fun y H4 => ∃ acc, H4 D = some (.lst acc) ∧ acc.length < sizeLine ∧ Nx (upd H4 D (.lst (acc ++ [y]))) else Nx H3) :=
  lcf w hn hD (fun _ => true) f hG hY (fun i x H H' N M hi s hy hN hM => mono _ _ _ _ _ (fun σ2 H2 q => ⟨q.1, by
      show if true = true then te σ2 H2 N else M H2
      rw [if_pos rfl]
      exact q.2⟩) (hs i x H H' N hi s hy fun H4 s4 => hN H4 rfl s4))
    fun H s e => hd H s (by rw [e, range_all])
theorem lcrm {J : It} {n : Nat} {G : Hp → Prop} {Y : Nat → Hp → V → Hp → Prop} (w : Walk J n G Y) {g : TG} {te : TE} {vs : List Nat} {σ : L2.St} {H1 : Hp} {D : Addr} {Qd : Hp → Prop} (hn : n ≤ 1000000) (hD : H1 D = none) (R : Nat → V → Hp → Prop)
    (hR : ∀ i y H H', R i y H → But D H H' → R i y H') (hG : ∀ H, Same H1 H → G H) (hY : ∀ i H x H', Y i H x H' → Same H H')
    (hs : ∀ i x H H' ys (N : V → Hp → Prop), i < n → Same H1 H → H D = some (.lst ys) → Y i H x H' → (∀ y H4, Same H' H4 → R i y H4 → N y H4) →
      g x (wipe σ vs) H' fun σ2 H2 => wipe σ2 vs = wipe σ vs ∧ te σ2 H2 N)
    (hd : ∀ H ys, Same H1 H → H D = some (.lst ys) → Paired (fun i y => R i y H) (List.range n) ys → Qd H) (mono : ∀ x σ H Q Q', (∀ σ' H', Q σ' H' → Q' σ' H') → g x σ H Q → g x σ H Q' := by intro x σ H Q Q' h q; exact h _ _ q) :
    ∃ W : Nat → Nat → Hp → Prop, (∃ m, W 0 m (upd H1 D (.lst []))) ∧ ∀ i m H, W i m H →
      (J.stop i H ∧ Qd H) ∨ (J.go i H ∧ ∃ Nx : Hp → Prop, (∀ H', Nx H' → ∃ m', m' < m ∧ W (i + 1) m' H') ∧ ∀ x H', J.yld i H x H' → g x (wipe σ vs) H' fun σ2 H2 => wipe σ2 vs = wipe σ vs ∧ tYes σ2 H2 fun b H3 =>
        if b = true then te σ2 H3 fun y H4 => ∃ acc, H4 D = some (.lst acc) ∧ acc.length < sizeLine ∧ Nx (upd H4 D (.lst (acc ++ [y]))) else Nx H3) :=
  lcr w hn hD (fun _ => true) R hR hG hY (fun i x H H' ys N M hi s hD' hy hN hM => mono _ _ _ _ _ (fun σ2 H2 q => ⟨q.1, by
      show if true = true then te σ2 H2 N else M H2
      rw [if_pos rfl]
      exact q.2⟩) (hs i x H H' ys N hi s hD' hy fun y H4 s4 r => hN y H4 rfl s4 r))
    fun H ys s e pr => hd H ys s e (by rw [range_all] at pr; exact pr)

/-! ### data for == -/
abbrev dInts (ns : List Int) : List PyData := ns.map PyData.int
abbrev dRows (rs : List (List Int)) : List PyData := rs.map fun r => .tuple (dInts r)
theorem lay_ints (ns : List Int) : PyData.canLayAll0 (dInts ns) = true := by
  induction ns with
  | nil => rfl
  | cons a l ih =>
    show (PyData.canLay0 (.int a) && PyData.canLayAll0 (dInts l)) = true
    rw [ih]
    rfl
theorem depth_ints (ns : List Int) : PyData.depthAll (dInts ns) = 0 := by
  induction ns with
  | nil => rfl
  | cons a l ih =>
    show max (PyData.depth (.int a)) (PyData.depthAll (dInts l)) = 0
    rw [ih]
    rfl
theorem shaped_list (ns : List Int) : SeqAt.shaped (.list (dInts ns)) = true := by
  show (PyData.canLayAll0 (dInts ns) && decide (PyData.depthAll (dInts ns) + 1 ≤ 64)) = true
  rw [lay_ints, depth_ints]
  rfl
theorem shaped_tup (ns : List Int) : SeqAt.shaped (.tuple (dInts ns)) = true := by
  show (PyData.canLayAll0 (dInts ns) && decide (PyData.depthAll (dInts ns) + 1 ≤ 64)) = true
  rw [lay_ints, depth_ints]
  rfl
theorem lay_rows (rs : List (List Int)) : PyData.canLayAll0 (dRows rs) = true := by
  induction rs with
  | nil => rfl
  | cons a l ih =>
    show (PyData.canLayAll0 (dInts a) && PyData.canLayAll0 (dRows l)) = true
    rw [ih, lay_ints]
    rfl
theorem depth_rows (rs : List (List Int)) : PyData.depthAll (dRows rs) ≤ 1 := by
  induction rs with
  | nil => decide
  | cons a l ih =>
    show max (PyData.depthAll (dInts a) + 1) (PyData.depthAll (dRows l)) ≤ 1
    rw [depth_ints]
    omega
theorem shaped_rows (rs : List (List Int)) : SeqAt.shaped (.tuple (dRows rs)) = true := by
  show (PyData.canLayAll0 (dRows rs) && decide (PyData.depthAll (dRows rs) + 1 ≤ 64)) = true
  rw [lay_rows]
  have := depth_rows rs
  rw [decide_eq_true (by omega)]
  rfl
section
variable {K : PySem.W.Frag} {H : Hp} {a : Addr}
theorem dpAll_ints (ns : List Int) : DpAll K H (ns.map V.int) (dInts ns) := by
  induction ns with
  | nil => exact .nil
  | cons a l ih => exact .cons (.int a) ih
theorem dp_list {ns : List Int} (h : SqL K H a (ns.map V.int)) : Dp K H (.ref a) (.list (dInts ns)) := .lst h (dpAll_ints ns)
theorem dp_nil (h : SqL K H a []) : Dp K H (.ref a) (.list (dInts [])) := .lst h .nil
theorem dp_tup {ns : List Int} (h : Wt K H a ns) : Dp K H (.ref a) (.tuple (dInts ns)) := .tup h (dpAll_ints ns)
theorem dp_rows {rs : List (List Int)} (h : Rt K H a rs) : Dp K H (.ref a) (.tuple (dRows rs)) := by
  obtain ⟨ps, h1, h2⟩ := h
  refine .tup h1 ?_
  clear h1
  induction h2 with
  | nil => exact .nil
  | cons h t ih => exact .cons (dp_tup h) ih
end
theorem eqv_ints : ∀ ns ms : List Int, PyData.eqvAll (dInts ns) (dInts ms) = decide (ns = ms)
  | [], [] => by simp [PyData.eqvAll]
  | a :: l, [] => by simp [PyData.eqvAll]
  | [], b :: m => by simp [PyData.eqvAll]
  | a :: l, b :: m => by
    show (PyData.eqv (.int a) (.int b) && PyData.eqvAll (dInts l) (dInts m)) = _
    rw [eqv_ints l m]
    show ((a == b) && decide (l = m)) = _
    by_cases h : a = b
    · subst h
      simp
    · simp [h]
theorem eqv_rows : ∀ ns ms : List (List Int), PyData.eqvAll (dRows ns) (dRows ms) = decide (ns = ms)
  | [], [] => by simp [PyData.eqvAll]
  | a :: l, [] => by simp [PyData.eqvAll]
  | [], b :: m => by simp [PyData.eqvAll]
  | a :: l, b :: m => by
    show (PyData.eqvAll (dInts a) (dInts b) && PyData.eqvAll (dRows l) (dRows m)) = _
    rw [eqv_rows l m, eqv_ints]
    by_cases h : a = b
    · subst h
      simp
    · simp [h]
/-! ### slices and sums of tuples, whether new or not -/
section
variable {K : PySem.W.Frag} {H : Hp} {a b : Addr} {xs ys : List V} {Q : VK}
theorem cut_whole {xs : List V} {lo hi : Option Int} (h : HT.sIx xs.length 0 lo = 0 ∧ HT.sIx xs.length xs.length hi = xs.length) : cutV xs lo hi = xs := by
  unfold cutV
  rw [h.1, h.2]
  simp
theorem slA {lo hi : Option Int} (h : SqT K H a xs) (q : ∀ p H', Same H H' → SqT K H' p (cutV xs lo hi) → Q (.ref p) H') : rSlA K (.ref a) lo hi H Q :=
  ⟨a, xs, rfl, h, fun e => q a H (Same.refl _) (by rw [cut_whole e]; exact h), fun _ p hp => q p _ (same_upd hp) (SqT.of upd_same)⟩
theorem catA (h : SqT K H a xs) (h' : SqT K H b ys) (hl : xs.length + ys.length ≤ 1000000) (q : ∀ p H', Same H H' → SqT K H' p (xs ++ ys) → Q (.ref p) H') : rCatA K (.ref a) (.ref b) H Q :=
  ⟨a, b, xs, ys, rfl, rfl, h, h', line_of hl, fun e => q b H (Same.refl _) (by rw [e]; exact h'), fun _ e => q a H (Same.refl _) (by rw [e, List.append_nil]; exact h), fun _ _ p hp => q p _ (same_upd hp) (SqT.of upd_same)⟩
end
theorem cut_pre (xs : List V) (k : Nat) : cutV xs none (some (k : Int)) = xs.take k := by
  unfold cutV
  rw [HT.sIx_none, HT.sIx_nat]
  simp only [List.drop_zero, Nat.sub_zero]
  by_cases h : k ≤ xs.length
  · rw [Nat.min_eq_left h]
  · rw [Nat.min_eq_right (by omega), List.take_of_length_le (Nat.le_refl _), List.take_of_length_le (by omega)]
theorem cut_post (xs : List V) (k : Nat) : cutV xs (some (k : Int)) none = xs.drop k := by
  unfold cutV
  rw [HT.sIx_none, HT.sIx_nat]
  by_cases h : k ≤ xs.length
  · rw [Nat.min_eq_left h, List.take_of_length_le (by simp)]
  · rw [Nat.min_eq_right (by omega), List.drop_of_length_le (Nat.le_refl _), List.drop_of_length_le (by omega)]
    simp
theorem cut_mid (xs : List V) (k m : Nat) : cutV xs (some (k : Int)) (some (m : Int)) = (xs.drop k).take (m - k) := by
  unfold cutV
  rw [HT.sIx_nat, HT.sIx_nat]
  by_cases h : k ≤ xs.length
  · rw [Nat.min_eq_left h]
    by_cases h2 : m ≤ xs.length
    · rw [Nat.min_eq_left h2]
    · rw [Nat.min_eq_right (a := m) (by omega), List.take_of_length_le (by simp), List.take_of_length_le (by simp; omega)]
  · have e1 : xs.drop k = [] := List.drop_of_length_le (by omega)
    have e2 : xs.drop (min k xs.length) = [] := List.drop_of_length_le (by omega)
    rw [e1, e2]
    simp
theorem cut_last (xs : List V) : cutV xs none (some (-1)) = xs.dropLast := by
  unfold cutV
  have e : HT.sIx xs.length xs.length (some (-1)) = xs.length - 1 := by
    show (if (-1 : Int) < 0 then ((-1 : Int) + (xs.length : Int)).toNat else min (-1 : Int).toNat xs.length) = _
    rw [if_pos (by decide)]
    omega
  rw [HT.sIx_none, e, List.dropLast_eq_take, List.drop_zero]
  rfl
theorem walk_range0 {n : Nat} : Walk (Itr 0 n) n (fun _ => True) (YFn fun i => .int (i : Int)) :=
  walk_range.mono (fun _ h => h) fun i H x H' _ _ y => ⟨y.1, by
    rw [y.2]
    show V.int (0 + (i : Int)) = V.int (i : Int)
    rw [Int.zero_add]⟩
theorem ixN_at {n j : Nat} (hj : j < n) : ixN n (j : Int) = some j := by
  unfold ixN
  rw [if_pos (by omega), if_pos (by omega)]
  simp
/-- what holds no tuple -/
def NoTup : HO → Prop
  | .tup _ => False
  | .frz _ _ => False
  | _ => True
section
variable {K : PySem.W.Frag} {H : Hp} {l a : Addr} {u o : HO} {xs : List V}
theorem sqT_upd (hl : H l = some u) (hu : NoTup u) (h : SqT K H a xs) : SqT K (upd H l o) a xs := by
  rcases h with (h | ⟨ob, h⟩) | h
  · exact .inl (.inl (by rw [upd_ne (ne_of h hl (by rintro rfl; exact hu))]; exact h))
  · exact .inl (.inr ⟨ob, by rw [upd_ne (ne_of h hl (by rintro rfl; exact hu))]; exact h⟩)
  · exact .inr h
theorem rt_upd {rows : List (List Int)} (hl : H l = some u) (hu : NoTup u) (h : Rt K H a rows) : Rt K (upd H l o) a rows := by
  obtain ⟨ps, h1, h2⟩ := h
  exact ⟨ps, sqT_upd hl hu h1, Paired.mapP h2 fun p r h => sqT_upd hl hu h⟩
/-- a store at what is new since H0 -/
theorem same_new {H0 : Hp} (s : Same H0 H) (n : H0 l = none) : Same H0 (upd H l o) := fun b v e => by
  rw [upd_ne (ne_of_none e n)]
  exact s b v e
end
theorem Paired.app {α β : Type} {F : α → β → Prop} : ∀ {l l' : List α} {m m' : List β}, Paired F l m → Paired F l' m' → Paired F (l ++ l') (m ++ m')
  | _, _, _, _, .nil, h => h
  | _, _, _, _, .cons h t, h' => .cons h (Paired.app t h')
end K57
set_option Elab.async false
set_option linter.all false
set_option maxRecDepth 100000
set_option maxHeartbeats 4000000

/-! Walks: numbers, long words, lengths. -/
namespace K57
open PySem PySem.Spec PyProof.Rows L2
local macro_rules | `(tactic| walk_at "k57g") => `(tactic| repeat (first | refine ⟨_, rfl, ?_⟩ | refine ⟨_, _, rfl, rfl, ?_⟩ | refine ⟨_, _, rfl, rfl, _, rfl, ?_⟩))
local macro_rules | `(tactic| walk_at "k57len") => `(tactic| (intro h; first | (obtain ⟨e, _⟩ := h; subst e; rfl) | (obtain ⟨_, e, _⟩ := h; subst e; rfl) | (obtain ⟨_, _, e, _⟩ := h; subst e; rfl) | (obtain ⟨_, _, _, e, _⟩ := h; subst e; rfl) | (obtain ⟨_, _, _, _, e, _⟩ := h; subst e; rfl) | (obtain ⟨_, _, _, _, _, e, _⟩ := h; subst e; rfl) | (obtain ⟨_, _, _, _, _, _, e, _⟩ := h; subst e; rfl) | (obtain ⟨_, _, _, _, _, _, _, e, _⟩ := h; subst e; rfl) | (obtain ⟨_, _, _, _, _, _, _, _, e, _⟩ := h; subst e; rfl)))

section
variable {P : Program} {w : World} {K : PySem.W.Frag} {mg : Str → Option Value} {base : Heap}
def btw (x : V) (lo hi : Int) : Bool := match x with
  | .int i => decide (lo ≤ i) && decide (i ≤ hi)
  | _ => false
def spBetween : Sp := fun vs H Q _ => ∃ x lo hi, vs = [x, .int lo, .int hi] ∧ Flat x ∧ Q (.bl (btw x lo hi)) H
theorem ok_is_between (T : Txt K mg) : OKf P w K mg base 2 "is_between" ["thing", "low", "high"] spBetween := by
  refine T.f_is_between.F.ok sc_is_between (fun vs H Q E => by clear T; walk_at "k57len") (fun cdv A outer s H vs Q E hr h => ?_)
  obtain ⟨x, lo, hi, rfl, hx, k⟩ := h
  refine ⟨_, PSs.nox (pss_one (ps_ret (pe_and (pe_call (ok_is_number T) (hr.mono (by decide)) rfl T.f_is_number.g T.f_is_number.F.kp T.f_is_number.b .nil pass0 (pa_cons (pv 0) pa_nil)) (pe_one (pe_chain op_le op_le (pv 1) (pv 0) (pv 2)))))), ?_⟩
  refine ⟨_, rfl, x, rfl, hx, _, rfl, ?_⟩
  cases hx with
  | int i =>
    refine iteT ?_
    refine ⟨_, rfl, _, rfl, _, _, rfl, rfl, _, rfl, ?_⟩
    by_cases c : lo ≤ i
    · rw [decide_eq_true c]
      refine iteT ?_
      refine ⟨_, rfl, _, _, rfl, rfl, ?_⟩
      have e : btw (.int i) lo hi = decide (i ≤ hi) := by simp [btw, c]
      rw [e] at k
      exact k
    · rw [decide_eq_false c]
      refine iteF ?_
      have e : btw (.int i) lo hi = false := by simp [btw, c]
      rw [e] at k
      exact k
  | non => exact iteF k
  | bl b => exact iteF k
  | str z => exact iteF k
def spNeedE : Sp := fun vs H Q _ => ∃ e : Int, vs = [.int e] ∧ 2 ≤ e ∧ e ≤ 20 ∧ Q .non H
theorem ok_need_e (T : Txt K mg) : OKf P w K mg base 3 "need_e" ["e"] spNeedE := by
  refine T.f_need_e.F.ok sc_need_e (fun vs H Q E => by clear T; walk_at "k57len") (fun cdv A outer s H vs Q E hr h => ?_)
  obtain ⟨e, rfl, h1, h2, k⟩ := h
  refine ⟨_, PSs.nox (pss_one (ps_if (pt_not (pt_val (pe_call (ok_is_between T) (hr.mono (by decide)) rfl T.f_is_between.g T.f_is_between.F.kp T.f_is_between.b .nil pass0 (pa_cons (pv 0) (pa_cons pe_int (pa_cons (pe_glob (v := .int 20) rfl T.c_MOST_E.choose_spec ⟨_, rfl⟩) pa_nil)))))) (pss_one ps_never) pss_nil)), ?_⟩
  have b : btw (.int e) 2 20 = true := by simp [btw, h1, h2]
  refine ⟨_, rfl, _, _, _, rfl, .int e, _, rfl, ?_⟩
  rw [b]
  exact iteF k
def spNeedFew : Sp := fun vs H Q _ => ∃ n m : Int, vs = [.int n, .int m] ∧ n ≤ m ∧ Q .non H
theorem ok_need_few (T : Txt K mg) : OKf P w K mg base 1 "need_few" ["number", "most"] spNeedFew := by
  refine T.f_need_few.F.ok sc_need_few (fun vs H Q E => by clear T; walk_at "k57len") (fun cdv A outer s H vs Q E hr h => ?_)
  obtain ⟨n, m, rfl, h1, k⟩ := h
  refine ⟨_, PSs.nox (pss_one (ps_if (pt_cmpR op_gt (pv 0) (pv 1) (nomark _)) (pss_one ps_never) pss_nil)), ?_⟩
  refine ⟨_, rfl, _, rfl, _, _, rfl, rfl, _, rfl, ?_⟩
  rw [decide_eq_false (by omega)]
  exact iteF k
/-- a long word -/
structure Lw (w : List Int) : Prop where
  len : w.length ≤ 16
  low : ∀ x ∈ w, 1 ≤ x ∧ x ≤ 16
def spIsLong (K : PySem.W.Frag) : Sp := fun vs H Q _ => ∃ a w, vs = [.ref a] ∧ Wt K H a w ∧ Lw w ∧ ∀ H', Same H H' → Q (.bl true) H'
theorem ok_is_long_word (T : Txt K mg) : OKf P w K mg base 3 "is_long_word" ["thing"] (spIsLong K) := by
  refine T.f_is_long_word.F.ok sc_is_long_word (fun vs H Q E => by clear T; walk_at "k57len") (fun cdv A outer s H vs Q E hr h => ?_)
  obtain ⟨a, ws, rfl, ha, hl, k⟩ := h
  refine ⟨_, PSs.nox (pss_cons (ps_if (PW.pt (pw_or (pt_not (pt_val (pe_callB (isi_K (K := K)) (by rfl) T.b_isinstance bb_isinstance (pa_cons (pv 0) (pa_cons (pe_bltn (v := .ty "tuple") (by rfl) T.b_tuple bb_tuple rfl) pa_nil))))) (pw_or1 (pt_cmpR op_gt (pe_callB (len_K (K := K)) (by rfl) T.b_len bb_len (pa_cons (pv 0) pa_nil)) (pe_glob (v := .int 16) rfl T.c_MOST_BOXES.choose_spec ⟨_, rfl⟩) (nomark _))))) (pss_one (ps_ret pe_bl)) pss_nil)
      (pss_one (ps_ret (pe_callB (all_K (K := K)) (by rfl) T.b_all bb_all (pa_cons (pe_lc (own := [("item", 1)]) (g := gName 1) (by rfl) sc_is_long_word.nd (pit_K (K := K) (pv 0)) (blkOk_by (N := ["thing", "item"]) (sc := defScope s_is_long_word) (by decide +kernel)) (fun _ _ _ _ _ => pg_name (i := 1) sc_is_long_word.nd rfl (Or.inl rfl)) (fun _ _ _ _ _ => pts_nil) (fun _ _ _ _ _ => (pe_call (ok_is_between T) (hr.mono (by decide)) rfl T.f_is_between.g T.f_is_between.F.kp T.f_is_between.b .nil pass0 (pa_cons (pv 1) (pa_cons pe_int (pa_cons (pe_glob (v := .int 16) rfl T.c_MOST_LETTER.choose_spec ⟨_, rfl⟩) pa_nil)))))) pa_nil))))), ?_⟩
  have hlen := hl.len
  refine ⟨_, rfl, _, _, _, _, true, rfl, .ty _, tyT ha, kit_ty (by decide +kernel), _, rfl, ?_⟩
  refine iteF ?_
  refine ⟨_, rfl, a, _, rfl, .inr ha, _, _, rfl, rfl, _, rfl, ?_⟩
  rw [decide_eq_false (by simp; omega)]
  refine iteF ?_
  refine ⟨_, rfl, a, rfl, ⟨_, ha⟩, fun D hD => ?_⟩
  refine lcm (walk_tup (K := K) (a := a) (xs := ws.map V.int)) (by simp; omega) hD (fun _ => V.bl true) (fun H s => sameT s ha) yAt_same (fun i x H H' N hi s hy hN => ?_) (fun H s e => ?_)
  · obtain ⟨rfl, hx⟩ := hy
    rw [List.getElem?_map] at hx
    obtain ⟨z, hz, rfl⟩ := Option.map_eq_some_iff.mp hx
    have hb := hl.low z (List.mem_of_getElem? hz)
    refine ⟨rfl, _, rfl, _, _, _, rfl, .int z, ?_⟩
    rw [show btw (.int z) 1 16 = true by simp [btw, hb]]
    exact hN H' (Same.refl _)
  · refine ⟨D, (List.range (ws.map V.int).length).map fun _ => true, rfl, SqL.of (by rw [e, List.map_map]; rfl), ?_⟩
    rw [show ((List.range (ws.map V.int).length).map fun _ => true).all id = true by simp]
    exact k H s
def spNeedLong (K : PySem.W.Frag) : Sp := fun vs H Q _ => ∃ a w, vs = [.ref a] ∧ Wt K H a w ∧ Lw w ∧ ∀ H', Same H H' → Q .non H'
theorem ok_need_long_word (T : Txt K mg) : OKf P w K mg base 4 "need_long_word" ["word"] (spNeedLong K) := by
  refine T.f_need_long_word.F.ok sc_need_long_word (fun vs H Q E => by clear T; walk_at "k57len") (fun cdv A outer s H vs Q E hr h => ?_)
  obtain ⟨a, ws, rfl, ha, hl, k⟩ := h
  refine ⟨_, PSs.nox (pss_one (ps_if (pt_not (pt_val (pe_call (ok_is_long_word T) (hr.mono (by decide)) rfl T.f_is_long_word.g T.f_is_long_word.F.kp T.f_is_long_word.b .nil pass0 (pa_cons (pv 0) pa_nil)))) (pss_one ps_never) pss_nil)), ?_⟩
  refine ⟨_, rfl, a, ws, rfl, ha, hl, fun H' s => ⟨_, rfl, ?_⟩⟩
  exact iteF (k H' s)
def lens (rows : List (List Int)) : List Int := rows.map fun r => (r.length : Int)
def spLengths (K : PySem.W.Frag) : Sp := fun vs H Q _ => ∃ a rows, vs = [.ref a] ∧ Rt K H a rows ∧ rows.length ≤ 1000 ∧ ∀ p H', Same H H' → H p = none → Wt K H' p (lens rows) → Q (.ref p) H'
theorem ok_lengths_of (T : Txt K mg) : OKf P w K mg base 1 "lengths_of" ["lines"] (spLengths K) := by
  refine T.f_lengths_of.F.ok sc_lengths_of (fun vs H Q E => by clear T; walk_at "k57len") (fun cdv A outer s H vs Q E hr h => ?_)
  obtain ⟨a, rows, rfl, ⟨ps, ha, hp⟩, hl, k⟩ := h
  refine ⟨_, PSs.nox (pss_one (ps_ret (pe_callTy (tuple_K (K := K)) (by rfl) T.b_tuple bb_tuple (pa_cons (pe_lc (own := [("line", 1)]) (g := gName 1) (by rfl) sc_lengths_of.nd (pit_K (K := K) (pv 0)) (blkOk_by (N := ["lines", "line"]) (sc := defScope s_lengths_of) (by decide +kernel)) (fun _ _ _ _ _ => pg_name (i := 1) sc_lengths_of.nd rfl (Or.inl rfl)) (fun _ _ _ _ _ => pts_nil) (fun _ _ _ _ _ => (pe_callB (len_K (K := K)) (by rfl) T.b_len bb_len (pa_cons (pv 1) pa_nil)))) pa_nil)))), ?_⟩
  have hlen := Paired.len hp
  refine ⟨_, rfl, a, rfl, ⟨_, ha⟩, fun D hD => ?_⟩
  refine lcm (walk_tup (K := K) (a := a) (xs := ps.map V.ref)) (by simp; omega) hD (fun i => V.int ((rows.getD i []).length : Int)) (fun H s => sameT s ha) yAt_same (fun i x H H' N hi s hy hN => ?_) (fun H s e => ?_)
  · obtain ⟨rfl, hx⟩ := hy
    rw [List.getElem?_map] at hx
    obtain ⟨z, hz, rfl⟩ := Option.map_eq_some_iff.mp hx
    obtain ⟨r, hr, hzr⟩ := Paired.at' hp hz
    refine ⟨rfl, _, rfl, z, _, rfl, .inr (sameT s hzr), ?_⟩
    have e : rows.getD i [] = r := by simp [List.getD, hr]
    have q := hN H' (Same.refl _)
    rw [e] at q
    rw [List.length_map]
    exact q
  · rw [List.length_map, hlen, range_map rows [] (fun r => V.int (r.length : Int))] at e
    refine ⟨D, _, rfl, .inl ⟨SqL.of e, fun p hp' => ?_⟩⟩
    refine k p _ (s.trans (same_upd hp')) (s.free hp') (SqT.of ?_)
    rw [upd_same]
    simp [lens]
end
end K57
set_option Elab.async false
set_option linter.all false
set_option maxRecDepth 100000
set_option maxHeartbeats 4000000

/-! Walks: letters pushed. -/
namespace K57
open PySem PySem.Spec PyProof.Rows L2
local macro_rules | `(tactic| walk_at "k57g") => `(tactic| repeat (first | refine ⟨_, rfl, ?_⟩ | refine ⟨_, _, rfl, rfl, ?_⟩ | refine ⟨_, _, rfl, rfl, _, rfl, ?_⟩))
local macro_rules | `(tactic| walk_at "k57len") => `(tactic| (intro h; first | (obtain ⟨e, _⟩ := h; subst e; rfl) | (obtain ⟨_, e, _⟩ := h; subst e; rfl) | (obtain ⟨_, _, e, _⟩ := h; subst e; rfl) | (obtain ⟨_, _, _, e, _⟩ := h; subst e; rfl) | (obtain ⟨_, _, _, _, e, _⟩ := h; subst e; rfl) | (obtain ⟨_, _, _, _, _, e, _⟩ := h; subst e; rfl) | (obtain ⟨_, _, _, _, _, _, e, _⟩ := h; subst e; rfl) | (obtain ⟨_, _, _, _, _, _, _, e, _⟩ := h; subst e; rfl) | (obtain ⟨_, _, _, _, _, _, _, _, e, _⟩ := h; subst e; rfl)))

/-- the row in which the box comes -/
def insRow : List (List Int) → Int → Nat
  | [], _ => 0
  | r :: rs, x => match (rowIns r x).2 with
    | none => 0
    | some b => insRow rs b + 1
theorem ins_none {r : List Int} {rs : List (List Int)} {x : Int} (h : (rowIns r x).2 = none) : ins (r :: rs) x = (r ++ [x]) :: rs ∧ insRow (r :: rs) x = 0 := by
  simp only [ins, insRow, h]
  exact ⟨by rw [(rowIns_none h).1], trivial⟩
theorem ins_some {r : List Int} {rs : List (List Int)} {x b : Int} (h : (rowIns r x).2 = some b) : ins (r :: rs) x = (rowIns r x).1 :: ins rs b ∧ insRow (r :: rs) x = insRow rs b + 1 := by
  simp only [ins, insRow, h]
  exact ⟨trivial, trivial⟩
theorem ins_len : ∀ (T : List (List Int)) (x : Int), insRow T x ≤ T.length ∧ (ins T x).length = (if insRow T x = T.length then T.length + 1 else T.length)
  | [], x => by simp [ins, insRow]
  | r :: rs, x => by
    cases h : (rowIns r x).2 with
    | none =>
      obtain ⟨h1, h2⟩ := ins_none (rs := rs) h
      rw [h1, h2]
      simp
    | some b =>
      obtain ⟨h1, h2⟩ := ins_some (rs := rs) h
      obtain ⟨i1, i2⟩ := ins_len rs b
      rw [h1, h2]
      refine ⟨by simp; omega, ?_⟩
      rw [List.length_cons, List.length_cons, i2]
      split <;> split <;> omega
theorem rowIns_len (r : List Int) (x : Int) : (rowIns r x).1.length ≤ r.length + 1 := by
  cases h : (rowIns r x).2 with
  | none => rw [(rowIns_none h).1]; simp
  | some b =>
    obtain ⟨r1, r2, e1, e2, _⟩ := rowIns_some h
    rw [e2, e1]
    simp
/-- all boxes -/
def size (T : List (List Int)) : Nat := (T.map List.length).sum
theorem size_ins : ∀ (T : List (List Int)) (x : Int), size (ins T x) = size T + 1
  | [], x => rfl
  | r :: rs, x => by
    cases h : (rowIns r x).2 with
    | none =>
      rw [(ins_none (rs := rs) h).1]
      simp [size]
      omega
    | some b =>
      rw [(ins_some (rs := rs) h).1]
      have ih := size_ins rs b
      obtain ⟨r1, r2, e1, e2, _⟩ := rowIns_some h
      simp only [size, List.map_cons, List.sum_cons] at ih ⊢
      rw [ih, e2, e1]
      simp
      omega
theorem size_Ln (w : List Int) : size (Ln w) = w.length := by
  induction w using snoc_ind with
  | h0 => rfl
  | h1 w a ih => rw [P_snoc, size_ins, ih]; simp
theorem mem_size {T : List (List Int)} {r : List Int} (h : r ∈ T) : r.length ≤ size T := by
  induction T with
  | nil => cases h
  | cons a T ih =>
    simp only [size, List.map_cons, List.sum_cons] at ih ⊢
    rcases List.mem_cons.mp h with rfl | h
    · omega
    · have := ih h; omega
theorem len_size {T : List (List Int)} (h : ∀ r ∈ T, r ≠ []) : T.length ≤ size T := by
  induction T with
  | nil => exact Nat.zero_le _
  | cons a T ih =>
    have := ih fun r hr => h r (List.mem_cons_of_mem _ hr)
    have ha : 0 < a.length := List.length_pos_iff.mpr (h a List.mem_cons_self)
    simp only [size, List.map_cons, List.sum_cons, List.length_cons] at this ⊢
    omega
theorem rows_Ln (w : List Int) : (Ln w).length ≤ w.length ∧ ∀ r ∈ Ln w, r.length ≤ w.length := by
  have h1 := len_size (P_ne w)
  rw [size_Ln] at h1
  exact ⟨h1, fun r hr => by rw [← size_Ln w]; exact mem_size hr⟩
/-- the spots above y -/
def spots (r : List Int) (y : Int) : List Nat := (List.range r.length).filter fun k => decide (y < r.getD k 0)
theorem spots_none {r : List Int} {y : Int} (h : ∀ a ∈ r, a ≤ y) : spots r y = [] := by
  unfold spots
  rw [List.filter_eq_nil_iff]
  intro k hk
  have hk := List.mem_range.mp hk
  have := h r[k] (List.getElem_mem hk)
  simp [List.getD, hk]
  omega
theorem filter_range_split (p : Nat → Bool) (n m : Nat) (h1 : ∀ k, k < n → p k = false) (h2 : p n = true) (h : n < m) : ∃ rest, (List.range m).filter p = n :: rest := by
  obtain ⟨d, rfl⟩ : ∃ d, m = n + 1 + d := ⟨m - (n + 1), by omega⟩
  refine ⟨((List.range d).map (fun x => n + 1 + x)).filter p, ?_⟩
  rw [List.range_add, List.filter_append, List.range_succ, List.filter_append]
  have e : (List.range n).filter p = [] := by
    rw [List.filter_eq_nil_iff]
    intro k hk
    rw [h1 k (List.mem_range.mp hk)]
    simp
  rw [e]
  simp [h2]
theorem spots_some {r r1 r2 : List Int} {y b : Int} (e : r = r1 ++ b :: r2) (hb : y < b) (h : ∀ a ∈ r1, a ≤ y) : ∃ rest, spots r y = r1.length :: rest := by
  refine filter_range_split _ _ _ (fun k hk => ?_) ?_ (by rw [e]; simp)
  · have : r.getD k 0 = r1[k] := by
      simp only [List.getD, e, List.getElem?_append_left hk, List.getElem?_eq_getElem hk, Option.getD_some]
    rw [this]
    have := h r1[k] (List.getElem_mem hk)
    simp
    omega
  · have : r.getD r1.length 0 = b := by simp [List.getD, e]
    rw [this]
    simp [hb]
theorem ints_nat (l : List Nat) : (l.map fun (k : Nat) => V.int (k : Int)) = (l.map fun (k : Nat) => (k : Int)).map V.int := by rw [List.map_map]; rfl
section
variable {P : Program} {w : World} {K : PySem.W.Frag} {mg : Str → Option Value} {base : Heap}
def spPush (K : PySem.W.Frag) : Sp := fun vs H Q _ => ∃ a x rows, vs = [.ref a, .int x] ∧ Rt K H a rows ∧ (rows.length ≤ 1000 ∧ ∀ r ∈ rows, r.length ≤ 1000) ∧
  ∀ p q H', Same H H' → H p = none → Rt K H' q (ins rows x) → H' p = some (.tup [.ref q, .int (insRow rows x)]) → Q (.ref p) H'
theorem ok_letter_pushed (T : Txt K mg) : OKf P w K mg base 1 "letter_pushed" ["lines", "letter"] (spPush K) := by
  refine T.f_letter_pushed.F.ok sc_letter_pushed (fun vs H Q E => by clear T; walk_at "k57len") (fun cdv A outer s H vs Q E hr h => ?_)
  obtain ⟨a, x, rows, rfl, ⟨ps, ha, hp⟩, ⟨hl, hr0⟩, k⟩ := h
  refine ⟨_, PSs.nox (pss_cons (ps_asg (pe_tup (pa_cons (pe_callTy (list_K (K := K)) (by rfl) T.b_list bb_list (pa_cons (pv 0) pa_nil)) (pa_cons (pv 1) pa_nil))) (pg_tup rfl (pgs_cons (pg_name (i := 2) sc_letter_pushed.nd rfl (Or.inl rfl)) (pgs_cons (pg_name (i := 3) sc_letter_pushed.nd rfl (Or.inr rfl)) pgs_nil))))
      (pss_cons (ps_for PassesOwn.never rfl (pi_range1 (by rfl) T.b_range (pa_cons (pe_callB (len_K (K := K)) (by rfl) T.b_len bb_len (pa_cons (pv 0) pa_nil)) pa_nil)) (pg_name (i := 4) sc_letter_pushed.nd rfl (Or.inl rfl)) (pss_cons (ps_set (i := 5) sc_letter_pushed.nd rfl (Or.inr rfl) (pe_ix (ixl_K (K := K)) (pv 2) (pv 4) (fun _ _ => rfl)))
      (pss_cons (ps_setLc (i := 6) (own := [("k", 7)]) (g := gName 7) (by rfl) sc_letter_pushed.nd rfl rfl (sw_true rfl rfl rfl (by decide +kernel)) (pi_range1 (by rfl) T.b_range (pa_cons (pe_callB (len_K (K := K)) (by rfl) T.b_len bb_len (pa_cons (pv 5) pa_nil)) pa_nil)) (blkOk_by (N := ["lines", "letter", "found", "left", "row", "line", "spots", "k"]) (sc := defScope s_letter_pushed) (by decide +kernel)) (fun _ _ _ _ _ => pg_name (i := 7) sc_letter_pushed.nd rfl (Or.inl rfl)) (fun _ _ _ _ _ => pts_one (pt_cmpR op_gt (pe_ix (ixt_K (K := K)) (pv 5) (pv 7) (fun _ _ => rfl)) (pv 3) (nomark _))) (fun _ _ _ _ _ => (pv 7)))
      (pss_cons (ps_if (pt_cmpR (eqD_K (K := K) hr.units) (pv 6) (pe_lst pa_nil) (nomark _)) (pss_cons (ps_asg (pe_tup (StX.pa_star (pv 5) (pa_cons (pv 3) pa_nil))) (pg_sub (pv 2) (pv 4) set_list))
      (pss_one (ps_ret (pe_tup (pa_cons (pe_callTy (tuple_K (K := K)) (by rfl) T.b_tuple bb_tuple (pa_cons (pv 2) pa_nil)) (pa_cons (pv 4) pa_nil)))))) pss_nil)
      (pss_cons (ps_asg (pe_tup (StX.pa_star (pe_slice (slt_K (K := K)) (pv 5) po_none (po_some (pe_ix (ixl_K (K := K)) (pv 6) pe_int (fun _ _ => rfl)))) (pa_cons (pv 3) (StX.pa_star (pe_slice (slt_K (K := K)) (pv 5) (po_some (pe_op op_add (pe_ix (ixl_K (K := K)) (pv 6) pe_int (fun _ _ => rfl)) pe_int)) po_none) pa_nil)))) (pg_sub (pv 2) (pv 4) set_list))
      (pss_one (ps_set (i := 3) sc_letter_pushed.nd rfl (Or.inr rfl) (pe_ix (ixt_K (K := K)) (pv 5) (pe_ix (ixl_K (K := K)) (pv 6) pe_int (fun _ _ => rfl)) (fun _ _ => rfl)))))))))
      (pss_one (ps_ret (pe_tup (pa_cons (pe_tup (StX.pa_star (pv 2) (pa_cons (pe_tup (pa_cons (pv 3) pa_nil)) pa_nil))) (pa_cons (pe_callB (len_K (K := K)) (by rfl) T.b_len bb_len (pa_cons (pv 0) pa_nil)) pa_nil))))))), ?_⟩
  have hlen := Paired.len hp
  -- found, left = list(lines), letter
  refine ⟨_, rfl, a, _, rfl, .inr ha, fun l nl => ?_⟩
  refine ⟨_, rfl, (by show 2 ≤ sizeLine; decide), fun t nt => ⟨t, _, rfl, SqT.of upd_same, rfl, ?_⟩⟩
  refine ⟨_, _, rfl, _, _, rfl, rfl, ?_⟩
  -- for row in range(len(lines))
  have nlt : t ≠ l := fun z => by rw [z, upd_same] at nt; cases nt
  have s0 : Same H (upd (upd H l (.lst (ps.map V.ref))) t (.tup [.ref l, .int x])) := (same_upd nl).trans (same_upd nt)
  refine ⟨_, rfl, a, _, rfl, .inr (sameT s0 ha), _, rfl, (by rw [List.length_map]; omega), (by rw [List.length_map]; omega), ?_⟩
  rw [List.length_map]
  refine for_range (lo := 0) (n := ps.length) (fun i σ H' => ∃ (D : List (List Int)) (qs : List Addr) (y : Int) (v4 v5 v6 : Option V), σ = [some (.ref a), some (.int x), some (.ref l), some (.int y), v4, v5, v6, none] ∧ i ≤ rows.length ∧
      H' l = some (.lst (qs.map V.ref)) ∧ Paired (fun p r => Wt K H' p r) qs (D ++ rows.drop i) ∧ D.length = i ∧ (∀ r ∈ D, r.length ≤ 1001) ∧ ins rows x = D ++ ins (rows.drop i) y ∧ insRow rows x = i + insRow (rows.drop i) y ∧ Same H H')
    ⟨[], ps, x, none, none, none, rfl, Nat.zero_le _, by rw [upd_ne nlt.symm, upd_same], Paired.mapP hp fun p r h => sameT s0 h, rfl, by simp, rfl, by simp, s0⟩ ?_ ?_
  · rintro i σ H1 hi ⟨D, qs, y, v4, v5, v6, rfl, hi', hl1, hq, hD, hD1, e1, e2, s1⟩
    rw [Int.zero_add]
    have hir : i < rows.length := by omega
    have hdrop : rows.drop i = rows[i] :: rows.drop (i + 1) := List.drop_eq_getElem_cons hir
    generalize hr : rows[i] = r at hdrop
    have hri : (D ++ rows.drop i)[i]? = some r := by
      rw [List.getElem?_append_right (by omega), hD, hdrop]
      simp
    obtain ⟨q, hqi, hqr⟩ := Paired.at hq hri
    have hrl : r.length ≤ 1000 := hr0 r (by rw [← hr]; exact List.getElem_mem hir)
    have hqm : (qs.map V.ref)[i]? = some (.ref q) := by rw [List.getElem?_map, hqi]; rfl
    -- line = found[row]
    refine ⟨_, rfl, _, rfl, l, _, (i : Int), _, rfl, rfl, SqL.of hl1, atI_nat hqm, ?_⟩
    -- spots
    refine ⟨_, rfl, q, _, rfl, .inr hqr, _, rfl, (by rw [List.length_map]; omega), (by rw [List.length_map]; omega), fun M nM => ?_⟩
    rw [List.length_map]
    refine lcf walk_range0 (by simp; omega) nM (fun k => decide (y < r.getD k 0)) (fun (k : Nat) => V.int (k : Int)) (fun _ _ => trivial) yFn_same (fun j z H2 H3 N M' hj s2 hy hN hM => ?_) (fun H2 s2 e => ?_)
    · obtain ⟨rfl, rfl⟩ := hy
      have hj : j < r.length := by simpa using hj
      refine ⟨rfl, ?_⟩
      have hjr : (r.map V.int)[j]? = some (.int (r.getD j 0)) := by simp [List.getD, hj]
      refine ⟨_, rfl, _, rfl, q, _, (j : Int), _, rfl, rfl, sameT s2 hqr, atI_nat hjr, _, rfl, _, _, rfl, rfl, _, rfl, ?_⟩
      by_cases c : y < r.getD j 0
      · rw [decide_eq_true c]
        exact iteT ⟨_, rfl, hN H3 (decide_eq_true c) (Same.refl _)⟩
      · rw [decide_eq_false c]
        exact iteF (hM H3 (decide_eq_false c) (Same.refl _))
    · have e' : H2 M = some (.lst ((spots r y).map fun (k : Nat) => V.int (k : Int))) := by
        have : (((r.length : Nat) : Int)).toNat = r.length := by omega
        rw [this] at e
        exact e
      rw [ints_nat] at e'
      have hl2 : H2 l = some (.lst (qs.map V.ref)) := s2 _ _ hl1
      have hq2 := Paired.mapP hq fun p r h => sameT s2 h
      have hqr2 := sameT s2 hqr
      have s12 : Same H H2 := s1.trans s2
      -- if spots == []
      refine ⟨_, rfl, (by show 0 ≤ sizeLine; decide), fun z nz => ?_⟩
      have s3 := same_upd (o := HO.lst []) nz
      refine ⟨_, _, dp_list (SqL.of (s3 _ _ e')), dp_nil (SqL.of upd_same), shaped_list _, shaped_list _, _, rfl, ?_⟩
      rw [show PyData.eqv (.list (dInts ((spots r y).map fun (k : Nat) => (k : Int)))) (.list (dInts [])) = decide (((spots r y).map fun (k : Nat) => (k : Int)) = []) from eqv_ints _ []]
      have nzl : l ≠ z := ne_of_none hl2 nz
      have hl3 : (upd H2 z (.lst [])) l = some (.lst (qs.map V.ref)) := s3 _ _ hl2
      have e3 : (upd H2 z (.lst [])) M = some (.lst (((spots r y).map fun (k : Nat) => (k : Int)).map V.int)) := s3 _ _ e'
      have s13 : Same H (upd H2 z (.lst [])) := s12.trans s3
      have hq3 := Paired.mapP hq2 fun p r h => sameT s3 h
      have hqr3 := sameT s3 hqr2
      generalize upd H2 z (.lst []) = H3 at hl3 e3 s13 hq3 hqr3
      clear hl2 hq2 hqr2 s12 e' s3 nz nzl
      have hqsl : (qs.map V.ref).length = rows.length := by
        have := Paired.len hq3
        rw [List.length_map, this]
        simp
        omega
      have hset : ∀ (p' : Addr) (r' : List Int) (H4 : Hp), Same H3 H4 → Wt K H4 p' r' → Paired (fun p r => Wt K H4 p r) (qs.set i p') (D ++ r' :: rows.drop (i + 1)) := fun p' r' H4 s4 h4 => by
        have := Paired.setp i (Paired.mapP hq3 fun p r h => sameT s4 h) h4
        rw [hdrop, List.set_append_right _ _ (by omega)] at this
        have z : i - D.length = 0 := by omega
        rw [z] at this
        exact this
      have fresh : ∀ {p : Addr}, H3 p = none → H p = none := fun n => s13.free n
      cases hb : (rowIns r y).2 with
      | none =>
        obtain ⟨b1, b2⟩ := rowIns_none hb
        obtain ⟨i1, i2⟩ := ins_none (rs := rows.drop (i + 1)) hb
        rw [spots_none b2, List.map_nil, decide_eq_true rfl]
        refine iteT ?_
        -- found[row] = (*line, left)
        refine ⟨_, rfl, q, _, rfl, .inl hqr3, _, rfl, (by simp; exact line_of (by omega)), fun p np => ?_⟩
        have s4 := same_upd (o := HO.tup (r.map V.int ++ [V.int y])) np
        refine ⟨_, rfl, _, rfl, l, _, _, i, rfl, rfl, s4 _ _ hl3, ixN_at (by rw [hqsl]; exact hir), ?_⟩
        have hpl : l ≠ p := ne_of_none hl3 np
        have hset4 := hset p (r ++ [y]) _ s4 (SqT.of (by rw [upd_same]; simp))
        generalize hH4 : upd H3 p (.tup (r.map V.int ++ [V.int y])) = H4 at s4 hset4
        have hl4 := s4 _ _ hl3
        have but4 : But l H4 (upd H4 l (.lst ((qs.map V.ref).set i (.ref p)))) := but_upd
        have nol : ∀ {p' : Addr} {r' : List Int}, Wt K H4 p' r' → Wt K (upd H4 l (.lst ((qs.map V.ref).set i (.ref p)))) p' r' := fun {p' r'} h => by
          rcases h with (h | ⟨o, h⟩) | h
          · exact .inl (.inl (but4 _ _ (ne_of h hl4 (by intro z; cases z)) h))
          · exact .inl (.inr ⟨o, but4 _ _ (ne_of h hl4 (by intro z; cases z)) h⟩)
          · exact .inr h
        have s5 : Same H (upd H4 l (.lst ((qs.map V.ref).set i (.ref p)))) := but_same (s13.trans s4) nl but4
        have hset5 := Paired.mapP hset4 fun p' r' h => nol h
        generalize hH5 : upd H4 l (.lst ((qs.map V.ref).set i (.ref p))) = H5 at s5 hset5
        have hl5 : H5 l = some (.lst ((qs.set i p).map V.ref)) := by rw [← hH5, upd_same, List.map_set]
        -- return tuple(found), row
        refine ⟨_, rfl, l, _, rfl, .inl ⟨SqL.of hl5, fun u nu => ?_⟩⟩
        refine ⟨_, rfl, (by show 2 ≤ sizeLine; decide), fun v nv => ?_⟩
        have s6 := same_upd (o := HO.tup ((qs.set i p).map V.ref)) nu
        have s7 := s6.trans (same_upd (o := HO.tup [.ref u, .int (i : Int)]) nv)
        have nuv : u ≠ v := fun z => by rw [← z, upd_same] at nv; cases nv
        refine k v u _ (s5.trans s7) ((s5.trans s6).free nv) ⟨qs.set i p, SqT.of (by rw [upd_ne nuv, upd_same]), ?_⟩ ?_
        · rw [e1, hdrop, i1]
          exact Paired.mapP hset5 fun p' r' h => sameT s7 h
        · rw [upd_same, e2, hdrop, i2]
          rfl
      | some b =>
        obtain ⟨r1, r2, b1, b2, b3, b4⟩ := rowIns_some hb
        obtain ⟨i1, i2⟩ := ins_some (rs := rows.drop (i + 1)) hb
        obtain ⟨rest, hsp⟩ := spots_some b1 b3 b4
        have hne : ((spots r y).map fun (k : Nat) => (k : Int)) ≠ [] := by rw [hsp]; simp
        rw [decide_eq_false hne]
        refine iteF ?_
        have hsp0 : (((spots r y).map fun (k : Nat) => (k : Int)).map V.int)[0]? = some (.int (r1.length : Int)) := by rw [hsp]; rfl
        have at0 : atI (((spots r y).map fun (k : Nat) => (k : Int)).map V.int) 0 = some (.int (r1.length : Int)) := atI_nat (j := 0) hsp0
        have hrb : (r.map V.int)[r1.length]? = some (.int b) := by rw [b1]; simp
        have hr12 : r.length = r1.length + 1 + r2.length := by rw [b1]; simp; omega
        -- (*line[:spots[0]], left, *line[spots[0] + 1:])
        refine ⟨_, rfl, _, rfl, M, _, _, _, rfl, rfl, SqL.of e3, at0, _, rfl, ?_⟩
        refine slA hqr3 fun p1 H4 s4 h4 => ?_
        rw [cut_pre] at h4
        refine ⟨p1, _, rfl, .inl h4, _, rfl, _, rfl, _, rfl, M, _, _, _, rfl, rfl, SqL.of (s4 _ _ e3), at0, _, _, rfl, rfl, _, rfl, ?_⟩
        unfold tNoPart
        refine slA (sameT s4 hqr3) fun p2 H5 s5 h5 => ?_
        rw [show (r1.length : Int) + 1 = ((r1.length + 1 : Nat) : Int) by omega, cut_post] at h5
        refine ⟨p2, _, rfl, .inl h5, (by simp; exact line_of (by omega)), fun p np => ?_⟩
        have eW : List.take r1.length (r.map V.int) ++ V.int y :: (List.drop (r1.length + 1) (r.map V.int) ++ []) = (r1 ++ y :: r2).map V.int := by
          have t1 : r.take r1.length = r1 := by rw [b1]; simp
          have t2 : r.drop (r1.length + 1) = r2 := by rw [b1, show r1 ++ b :: r2 = (r1 ++ [b]) ++ r2 by simp]; exact List.drop_left' (by simp)
          rw [← List.map_take, ← List.map_drop, t1, t2]
          simp
        rw [eW]
        have s35 := s4.trans s5
        have s6 := same_upd (o := HO.tup ((r1 ++ y :: r2).map V.int)) np
        have s36 := s35.trans s6
        refine ⟨_, rfl, _, rfl, l, _, _, i, rfl, rfl, s36 _ _ hl3, ixN_at (by rw [hqsl]; exact hir), ?_⟩
        have hset4 := hset p (rowIns r y).1 _ s36 (SqT.of (by rw [upd_same, b2]))
        generalize hH6 : upd H5 p (.tup ((r1 ++ y :: r2).map V.int)) = H6 at s6 s36 hset4
        have hl6 := s36 _ _ hl3
        have hqr6 := sameT s36 hqr3
        have e6 := s36 _ _ e3
        have but6 : But l H6 (upd H6 l (.lst ((qs.map V.ref).set i (.ref p)))) := but_upd
        have nol : ∀ {p' : Addr} {xs : List V}, SqT K H6 p' xs → SqT K (upd H6 l (.lst ((qs.map V.ref).set i (.ref p)))) p' xs := fun {p' xs} h => by
          rcases h with (h | ⟨o, h⟩) | h
          · exact .inl (.inl (but6 _ _ (ne_of h hl6 (by intro z; cases z)) h))
          · exact .inl (.inr ⟨o, but6 _ _ (ne_of h hl6 (by intro z; cases z)) h⟩)
          · exact .inr h
        have nMl : M ≠ l := fun z => by rw [z, hl1] at nM; cases nM
        have e7 := but6 _ _ nMl e6
        have hqr7 := nol hqr6
        have s7 : Same H (upd H6 l (.lst ((qs.map V.ref).set i (.ref p)))) := but_same (s13.trans s36) nl but6
        have hset7 := Paired.mapP hset4 fun p' r' h => nol h
        generalize hH7 : upd H6 l (.lst ((qs.map V.ref).set i (.ref p))) = H7 at s7 hset7 e7 hqr7
        have hl7 : H7 l = some (.lst ((qs.set i p).map V.ref)) := by rw [← hH7, upd_same, List.map_set]
        -- left = line[spots[0]]
        refine ⟨_, rfl, _, rfl, M, _, _, _, rfl, rfl, SqL.of e7, at0, q, _, _, _, rfl, rfl, hqr7, atI_nat hrb, ?_⟩
        refine ⟨D ++ [(rowIns r y).1], qs.set i p, b, _, _, _, rfl, hir, hl7, ?_, by simp [hD], ?_, ?_, ?_, s7⟩
        · rw [List.append_assoc]
          exact hset7
        · intro r' hr'
          rcases List.mem_append.mp hr' with hr' | hr'
          · exact hD1 r' hr'
          · rw [List.mem_singleton.mp hr']
            have := rowIns_len r y
            omega
        · rw [e1, hdrop, i1, List.append_assoc]
          rfl
        · rw [e2, hdrop, i2]
          omega
  · rintro σ H1 ⟨D, qs, y, v4, v5, v6, rfl, hi', hl1, hq, hD, hD1, e1, e2, s1⟩
    have hdrop : rows.drop ps.length = [] := List.drop_of_length_le (by omega)
    rw [hdrop] at hq e1 e2
    rw [List.append_nil] at hq
    have hql := Paired.len hq
    -- return (*found, (left,)), len(lines)
    refine ⟨_, rfl, l, _, rfl, .inr (SqL.of hl1), _, rfl, (by show 1 ≤ sizeLine; decide), fun p np => ?_⟩
    refine ⟨(by simp; exact line_of (by omega)), fun u nu => ?_⟩
    have s2 := same_upd (o := HO.tup [V.int y]) np
    have s3 := s2.trans (same_upd (o := HO.tup (qs.map V.ref ++ [V.ref p])) nu)
    refine ⟨_, rfl, a, _, rfl, .inr (sameT (s1.trans s3) ha), (by show 2 ≤ sizeLine; decide), fun v nv => ?_⟩
    have s4 := s3.trans (same_upd (o := HO.tup [.ref u, .int ((ps.map V.ref).length : Int)]) nv)
    have nuv : u ≠ v := fun z => by rw [← z, upd_same] at nv; cases nv
    have npu : p ≠ u := fun z => by rw [← z, upd_same] at nu; cases nu
    have npv : p ≠ v := fun z => by rw [← z, upd_ne npu, upd_same] at nv; cases nv
    refine k v u _ (s1.trans s4) ((s1.trans s3).free nv) ⟨qs ++ [p], SqT.of (by rw [upd_ne nuv, upd_same]; simp), ?_⟩ ?_
    · rw [e1]
      exact Paired.snoc (Paired.mapP hq fun p' r' h => sameT s4 h) (SqT.of (by rw [upd_ne npv, upd_ne npu, upd_same]; rfl))
    · rw [upd_same, e2]
      simp [insRow]
end
end K57
set_option Elab.async false
set_option linter.all false
set_option maxRecDepth 100000
set_option maxHeartbeats 4000000

/-! Walks: words pushed. -/
namespace K57
open PySem PySem.Spec PyProof.Rows L2
local macro_rules | `(tactic| walk_at "k57g") => `(tactic| repeat (first | refine ⟨_, rfl, ?_⟩ | refine ⟨_, _, rfl, rfl, ?_⟩ | refine ⟨_, _, rfl, rfl, _, rfl, ?_⟩))
local macro_rules | `(tactic| walk_at "k57len") => `(tactic| (intro h; first | (obtain ⟨e, _⟩ := h; subst e; rfl) | (obtain ⟨_, e, _⟩ := h; subst e; rfl) | (obtain ⟨_, _, e, _⟩ := h; subst e; rfl) | (obtain ⟨_, _, _, e, _⟩ := h; subst e; rfl) | (obtain ⟨_, _, _, _, e, _⟩ := h; subst e; rfl) | (obtain ⟨_, _, _, _, _, e, _⟩ := h; subst e; rfl) | (obtain ⟨_, _, _, _, _, _, e, _⟩ := h; subst e; rfl) | (obtain ⟨_, _, _, _, _, _, _, e, _⟩ := h; subst e; rfl) | (obtain ⟨_, _, _, _, _, _, _, _, e, _⟩ := h; subst e; rfl)))

theorem take_more {α : Type} {l : List α} {i : Nat} {x : α} (h : l[i]? = some x) : l.take (i + 1) = l.take i ++ [x] := by
  rw [List.take_add_one, h]
  rfl
theorem map_some {α β : Type} {f : α → β} {l : List α} {i : Nat} {y : β} (h : (l.map f)[i]? = some y) : ∃ x, l[i]? = some x ∧ y = f x := by
  rw [List.getElem?_map] at h
  obtain ⟨x, h1, h2⟩ := Option.map_eq_some_iff.mp h
  exact ⟨x, h1, h2.symm⟩
section
variable {P : Program} {w : World} {K : PySem.W.Frag} {mg : Str → Option Value} {base : Heap}
def spPushedOf (K : PySem.W.Frag) : Sp := fun vs H Q _ => ∃ a ws, vs = [.ref a] ∧ Wt K H a ws ∧ ws.length ≤ 100 ∧
  ∀ p q f H', Same H H' → H p = none → Rt K H' q (Ln ws) → H' p = some (.tup [.ref q, .ref f]) → Q (.ref p) H'
theorem ok_pushed_of (T : Txt K mg) : OKf P w K mg base 2 "pushed_of" ["word"] (spPushedOf K) := by
  refine T.f_pushed_of.F.ok sc_pushed_of (fun vs H Q E => by clear T; walk_at "k57len") (fun cdv A outer s H vs Q E hr h => ?_)
  obtain ⟨a, ws, rfl, ha, hl, k⟩ := h
  refine ⟨_, PSs.nox (pss_cons (ps_par (i := 1) (j := 2) rfl sc_pushed_of.nd rfl rfl (by decide) rfl rfl (pa_cons (pe_tup pa_nil) (pa_cons (pe_lst pa_nil) pa_nil)) (by rfl))
      (pss_cons (ps_for PassesOwn.never rfl (k57_pi_enumT (by rfl) T.b_enumerate (pa_cons (pv 0) pa_nil)) (pg_tup rfl (pgs_cons (pg_name (i := 3) sc_pushed_of.nd rfl (Or.inl rfl)) (pgs_cons (pg_name (i := 4) sc_pushed_of.nd rfl (Or.inl rfl)) pgs_nil))) (pss_cons (ps_asg (pe_call (ok_letter_pushed T) (hr.mono (by decide)) rfl T.f_letter_pushed.g T.f_letter_pushed.F.kp T.f_letter_pushed.b .nil pass0 (pa_cons (pv 1) (pa_cons (pv 4) pa_nil))) (pg_tup rfl (pgs_cons (pg_name (i := 1) sc_pushed_of.nd rfl (Or.inl rfl)) (pgs_cons (pg_name (i := 5) sc_pushed_of.nd rfl (Or.inl rfl)) pgs_nil))))
      (pss_cons (ps_if (pt_cmpR op_eq (pv 5) (pe_callB (len_K (K := K)) (by rfl) T.b_len bb_len (pa_cons (pv 2) pa_nil)) (nomark _)) (pss_one (ps_expr (pe_bm PySem.F.plainAttrs_list PySem.F.slot_list_append PySem.F.type_list_append mt_append (pv 2) (pa_cons (pe_lst pa_nil) pa_nil)))) pss_nil)
      (pss_one (ps_expr (pe_bm PySem.F.plainAttrs_list PySem.F.slot_list_append PySem.F.type_list_append mt_append (pe_ix (ixl_K (K := K)) (pv 2) (pv 5) (fun _ _ => rfl)) (pa_cons (pe_op op_add (pv 3) pe_int) pa_nil)))))))
      (pss_one (ps_ret (pe_tup (pa_cons (pv 1) (pa_cons (pe_callTy (tuple_K (K := K)) (by rfl) T.b_tuple bb_tuple (pa_cons (pe_lc (own := [("row", 5)]) (g := gName 5) (by rfl) sc_pushed_of.nd (pil_K (K := K) (pv 2)) (blkOk_by (N := ["word", "lines", "filling", "at", "letter", "row"]) (sc := defScope s_pushed_of) (by decide +kernel)) (fun _ _ _ _ _ => pg_name (i := 5) sc_pushed_of.nd rfl (Or.inl rfl)) (fun _ _ _ _ _ => pts_nil) (fun _ _ _ _ _ => (pe_callTy (tuple_K (K := K)) (by rfl) T.b_tuple bb_tuple (pa_cons (pv 5) pa_nil)))) pa_nil)) pa_nil))))))), ?_⟩
  refine ⟨(by show 0 ≤ sizeLine; decide), fun q0 n0 => ⟨(by show 0 ≤ sizeLine; decide), fun f nf => ⟨_, _, rfl, ?_⟩⟩⟩
  have n0f : q0 ≠ f := fun z => by rw [← z, upd_same] at nf; cases nf
  have s0 : Same H (upd (upd H q0 (.tup [])) f (.lst [])) := (same_upd n0).trans (same_upd nf)
  have hfn : H f = none := (same_upd n0).free nf
  refine ⟨_, rfl, a, _, rfl, sameT s0 ha, ?_⟩
  refine for_it (k57_walk_enumT (K := K) (a := a) (xs := ws.map V.int)) (fun i σ H' => ∃ (q : Addr) (gs : List Addr) (v3 v4 v5 : Option V), σ = [some (.ref a), some (.ref q), some (.ref f), v3, v4, v5] ∧
      Rt K H' q (Ln (ws.take i)) ∧ H' f = some (.lst (gs.map V.ref)) ∧ gs.length = (Ln (ws.take i)).length ∧ (∀ g ∈ gs, g ≠ f ∧ H g = none ∧ ∃ ns : List Int, H' g = some (.lst (ns.map V.int)) ∧ ns.length ≤ i) ∧ Same H H')
    ⟨q0, [], none, none, none, rfl, ⟨[], SqT.of (by rw [upd_ne n0f, upd_same]; rfl), .nil⟩, by rw [upd_same]; rfl, rfl, by simp, s0⟩ (fun i σ H' _ ⟨_, _, _, _, _, _, _, _, _, _, s⟩ => sameT s ha) ?_ ?_
  · rintro i z σ H1 H1' hi ⟨q, gs, v3, v4, v5, rfl, hq, hf, hgl, hg, s1⟩ ⟨t, x, y, rfl, nt, rfl, hx, hy⟩
    cases hx
    obtain ⟨c, hc, rfl⟩ := map_some hy
    have hi' : i < ws.length := by simpa using hi
    have s2 := same_upd (o := HO.tup [.int (i : Int), .int c]) nt
    have s12 := s1.trans s2
    have hq2 := hq.same s2
    have hf2 := s2 _ _ hf
    have hg2 : ∀ g ∈ gs, g ≠ f ∧ H g = none ∧ ∃ ns : List Int, upd H1 t (.tup [.int (i : Int), .int c]) g = some (.lst (ns.map V.int)) ∧ ns.length ≤ i := fun g hgm => by
      obtain ⟨a1, a2, ns, a3, a4⟩ := hg g hgm
      exact ⟨a1, a2, ns, s2 _ _ a3, a4⟩
    refine ⟨t, _, rfl, SqT.of upd_same, rfl, _, _, rfl, _, _, rfl, rfl, ?_⟩
    generalize upd H1 t (.tup [.int (i : Int), .int c]) = H2 at s2 s12 hq2 hf2 hg2
    -- lines, row = letter_pushed(lines, letter)
    have hb := rows_Ln (ws.take i)
    have hbl : (ws.take i).length ≤ 100 := by rw [List.length_take]; omega
    refine ⟨_, rfl, _, rfl, q, c, Ln (ws.take i), rfl, hq2, ⟨by omega, fun r hr => by have := hb.2 r hr; omega⟩, fun p q' H3 s3 np hq3 hp3 => ?_⟩
    refine ⟨p, _, rfl, SqT.of hp3, rfl, _, _, rfl, _, _, rfl, rfl, ?_⟩
    have s13 := s12.trans s3
    have hf3 := s3 _ _ hf2
    have hg3 : ∀ g ∈ gs, g ≠ f ∧ H g = none ∧ ∃ ns : List Int, H3 g = some (.lst (ns.map V.int)) ∧ ns.length ≤ i := fun g hgm => by
      obtain ⟨a1, a2, ns, a3, a4⟩ := hg2 g hgm
      exact ⟨a1, a2, ns, s3 _ _ a3, a4⟩
    obtain ⟨m1, m2⟩ := ins_len (Ln (ws.take i)) c
    have hwt : Ln (ws.take (i + 1)) = ins (Ln (ws.take i)) c := by rw [take_more hc, P_snoc]
    -- the rest, whatever the filling's rows are now
    have last : ∀ (gs' : List Addr) (H4 : Hp), Rt K H4 q' (ins (Ln (ws.take i)) c) → H4 f = some (.lst (gs'.map V.ref)) → gs'.length = (ins (Ln (ws.take i)) c).length → (∀ g ∈ gs', g ≠ f ∧ H g = none ∧ ∃ ns : List Int, H4 g = some (.lst (ns.map V.int)) ∧ ns.length ≤ i) → Same H H4 →
        insRow (Ln (ws.take i)) c < gs'.length → ∃ (g : Addr) (ns : List Int), gs'[insRow (Ln (ws.take i)) c]? = some g ∧ H4 g = some (.lst (ns.map V.int)) ∧ ns.length < sizeLine ∧
          ∃ (q : Addr) (gs : List Addr) (v3 v4 v5 : Option V), [some (V.ref a), some (.ref q'), some (.ref f), some (.int (i : Int)), some (.int c), some (.int (insRow (Ln (ws.take i)) c : Int))] = [some (.ref a), some (.ref q), some (.ref f), v3, v4, v5] ∧
            Rt K (upd H4 g (.lst (ns.map V.int ++ [V.int ((i : Int) + 1)]))) q (Ln (ws.take (i + 1))) ∧ upd H4 g (.lst (ns.map V.int ++ [V.int ((i : Int) + 1)])) f = some (.lst (gs.map V.ref)) ∧ gs.length = (Ln (ws.take (i + 1))).length ∧
            (∀ g' ∈ gs, g' ≠ f ∧ H g' = none ∧ ∃ ns' : List Int, upd H4 g (.lst (ns.map V.int ++ [V.int ((i : Int) + 1)])) g' = some (.lst (ns'.map V.int)) ∧ ns'.length ≤ i + 1) ∧ Same H (upd H4 g (.lst (ns.map V.int ++ [V.int ((i : Int) + 1)]))) := by
      intro gs' H4 b1 b2 b3 b4 b5 b6
      have hgm : gs'[insRow (Ln (ws.take i)) c]? = some gs'[insRow (Ln (ws.take i)) c] := List.getElem?_eq_getElem b6
      generalize gs'[insRow (Ln (ws.take i)) c] = g at hgm
      obtain ⟨c1, c2, ns, c3, c4⟩ := b4 g (List.mem_of_getElem? hgm)
      refine ⟨g, ns, hgm, c3, line_lt (by omega), q', gs', _, _, _, rfl, ?_, ?_, ?_, fun g' hg' => ?_, same_new b5 c2⟩
      · rw [hwt]
        exact rt_upd c3 trivial b1
      · rw [upd_ne c1.symm]
        exact b2
      · rw [hwt]
        exact b3
      · obtain ⟨d1, d2, ns', d3, d4⟩ := b4 g' hg'
        refine ⟨d1, d2, ?_⟩
        by_cases e : g' = g
        · subst e
          exact ⟨ns ++ [(i : Int) + 1], by rw [upd_same]; simp, by simp; omega⟩
        · exact ⟨ns', by rw [upd_ne e]; exact d3, by omega⟩
    -- if row == len(filling): filling.append([])
    refine ⟨_, rfl, _, rfl, f, _, rfl, .inl (SqL.of hf3), rfl, _, rfl, ?_⟩
    rw [List.length_map, hgl]
    by_cases e : insRow (Ln (ws.take i)) c = (Ln (ws.take i)).length
    · rw [decide_eq_true (by rw [e])]
      refine iteT ?_
      refine ⟨_, rfl, .inl ⟨rfl, _, SqL.of hf3⟩, (by show 0 ≤ sizeLine; decide), fun g ng => ?_⟩
      have s4 := same_upd (o := HO.lst []) ng
      have gf : g ≠ f := (ne_of_none hf3 ng).symm
      refine ⟨f, _, _, rfl, rfl, s4 _ _ hf3, (by simp; exact line_lt (by omega)), ?_⟩
      have s34 : Same H (upd (upd H3 g (.lst [])) f (.lst (gs.map V.ref ++ [.ref g]))) := same_new (s13.trans s4) hfn
      have hq5 := rt_upd (o := HO.lst (gs.map V.ref ++ [.ref g])) (s4 _ _ hf3) trivial (hq3.same s4)
      have hf5 : (upd (upd H3 g (.lst [])) f (.lst (gs.map V.ref ++ [.ref g]))) f = some (.lst ((gs ++ [g]).map V.ref)) := by rw [upd_same]; simp
      have hg5 : ∀ g' ∈ gs ++ [g], g' ≠ f ∧ H g' = none ∧ ∃ ns : List Int, (upd (upd H3 g (.lst [])) f (.lst (gs.map V.ref ++ [.ref g]))) g' = some (.lst (ns.map V.int)) ∧ ns.length ≤ i := fun g' hg' => by
        rcases List.mem_append.mp hg' with hg' | hg'
        · obtain ⟨a1, a2, ns, a3, a4⟩ := hg3 g' hg'
          exact ⟨a1, a2, ns, by rw [upd_ne a1]; exact s4 _ _ a3, a4⟩
        · rw [List.mem_singleton.mp hg']
          exact ⟨gf, s13.free ng, [], by rw [upd_ne gf, upd_same]; rfl, Nat.zero_le _⟩
      obtain ⟨g', ns, l1, l2, l3, l4⟩ := last (gs ++ [g]) _ hq5 hf5 (by rw [m2, if_pos e]; simp [hgl]) hg5 s34 (by rw [e]; simp [hgl])
      refine ⟨_, rfl, _, rfl, f, _, _, _, rfl, rfl, SqL.of hf5, atI_nat (by rw [List.getElem?_map, l1]; rfl), ?_⟩
      refine ⟨.inl ⟨rfl, _, SqL.of l2⟩, _, rfl, _, _, rfl, rfl, g', _, _, rfl, rfl, l2, (by simpa using l3), l4⟩
    · rw [decide_eq_false (by intro z; injection z with z; omega)]
      refine iteF ?_
      obtain ⟨g', ns, l1, l2, l3, l4⟩ := last gs _ hq3 hf3 (by rw [m2, if_neg e]; exact hgl) hg3 s13 (by omega)
      refine ⟨_, rfl, _, rfl, f, _, _, _, rfl, rfl, SqL.of hf3, atI_nat (by rw [List.getElem?_map, l1]; rfl), ?_⟩
      refine ⟨.inl ⟨rfl, _, SqL.of l2⟩, _, rfl, _, _, rfl, rfl, g', _, _, rfl, rfl, l2, (by simpa using l3), l4⟩
  · rintro σ H1 ⟨q, gs, v3, v4, v5, rfl, hq, hf, hgl, hg, s1⟩
    have hb := rows_Ln ws
    rw [List.length_map, List.take_length] at hq hgl
    -- return lines, tuple([tuple(row) for row in filling])
    refine ⟨_, rfl, _, rfl, f, rfl, ⟨_, SqL.of hf⟩, fun M nM => ?_⟩
    refine lcrm (walk_list (K := K) (a := f) (xs := gs.map V.ref)) (by simp; omega) nM (fun _ _ _ => True) (fun _ _ _ _ _ _ => trivial) (fun H s => s.seq (SqL.of hf)) yAt_same (fun i z H2 H2' ys N hi s2 hM hy hN => ?_) (fun H2 ys s2 e pr => ?_)
    · obtain ⟨rfl, hz⟩ := hy
      obtain ⟨g, hgi, rfl⟩ := map_some hz
      obtain ⟨a1, a2, ns, a3, a4⟩ := hg g (List.mem_of_getElem? hgi)
      refine ⟨rfl, _, rfl, g, _, rfl, .inl ⟨SqL.of (s2 _ _ a3), fun p np => hN _ _ (same_upd np) trivial⟩⟩
    · have hyl := Paired.len pr
      refine ⟨M, _, rfl, .inl ⟨SqL.of e, fun u nu => ?_⟩⟩
      refine ⟨(by show 2 ≤ sizeLine; decide), fun v nv => ?_⟩
      have s3 := s2.trans ((same_upd (o := HO.tup ys) nu).trans (same_upd (o := HO.tup [.ref q, .ref u]) nv))
      exact k v q u _ (s1.trans s3) ((s1.trans (s2.trans (same_upd (o := HO.tup ys) nu))).free nv) (hq.same s3) upd_same
end
end K57
set_option Elab.async false
set_option linter.all false
set_option maxRecDepth 100000
set_option maxHeartbeats 4000000

/-! Walks: elementary exchanges, words turned about, deeds. -/
namespace K57
open PySem PySem.Spec PyProof.Rows L2
local macro_rules | `(tactic| walk_at "k57g") => `(tactic| repeat (first | refine ⟨_, rfl, ?_⟩ | refine ⟨_, _, rfl, rfl, ?_⟩ | refine ⟨_, _, rfl, rfl, _, rfl, ?_⟩))
local macro_rules | `(tactic| walk_at "k57len") => `(tactic| (intro h; first | (obtain ⟨e, _⟩ := h; subst e; rfl) | (obtain ⟨_, e, _⟩ := h; subst e; rfl) | (obtain ⟨_, _, e, _⟩ := h; subst e; rfl) | (obtain ⟨_, _, _, e, _⟩ := h; subst e; rfl) | (obtain ⟨_, _, _, _, e, _⟩ := h; subst e; rfl) | (obtain ⟨_, _, _, _, _, e, _⟩ := h; subst e; rfl) | (obtain ⟨_, _, _, _, _, _, e, _⟩ := h; subst e; rfl) | (obtain ⟨_, _, _, _, _, _, _, e, _⟩ := h; subst e; rfl) | (obtain ⟨_, _, _, _, _, _, _, _, e, _⟩ := h; subst e; rfl)))

/-- a word exchanged at a place -/
def el (ws : List Int) (i : Nat) : Option (List Int) := match ws[i]?, ws[i + 1]?, ws[i + 2]? with
  | some a, some b, some c => (el3 a b c).map fun s => ws.take i ++ s ++ ws.drop (i + 3)
  | _, _, _ => none
inductive Deed where
  | push (x : Int) | pull (x : Int) | drop | shed | about | swap (i : Nat)
def Deed.v : Deed → List V
  | .push x => [.str "push", .int x]
  | .pull x => [.str "pull", .int x]
  | .drop => [.str "drop"]
  | .shed => [.str "shed"]
  | .about => [.str "about"]
  | .swap i => [.str "swap", .int (i : Int)]
def Deed.ok : Deed → Prop
  | .push x => 1 ≤ x ∧ x ≤ 16
  | .pull x => 1 ≤ x ∧ x ≤ 16
  | _ => True
/-- the word behind a deed -/
def after (ws : List Int) : Deed → Option (List Int)
  | .push x => if ws.length < 16 then some (ws ++ [x]) else none
  | .pull x => if ws.length < 16 then some (x :: ws) else none
  | .drop => if ws = [] then none else some ws.dropLast
  | .shed => if ws = [] then none else some ws.tail
  | .about => some (about ws)
  | .swap i => el ws i
theorem el_some {ws ws' : List Int} {i : Nat} (h : el ws i = some ws') : ∃ a b c s, ws = ws.take i ++ [a, b, c] ++ ws.drop (i + 3) ∧ el3 a b c = some s ∧ ws' = ws.take i ++ s ++ ws.drop (i + 3) ∧ ws[i]? = some a ∧ ws[i + 1]? = some b ∧ ws[i + 2]? = some c ∧ i + 3 ≤ ws.length := by
  unfold el at h
  split at h
  · rename_i a b c h1 h2 h3
    obtain ⟨s, e1, e2⟩ := Option.map_eq_some_iff.mp h
    have hl := (List.getElem?_eq_some_iff.mp h3).1
    refine ⟨a, b, c, s, ?_, e1, e2.symm, h1, h2, h3, by omega⟩
    have d : ws.drop i = a :: b :: c :: ws.drop (i + 3) := by
      have e1 : ws[i] = a := (List.getElem?_eq_some_iff.mp h1).2
      have e2 : ws[i + 1] = b := (List.getElem?_eq_some_iff.mp h2).2
      have e3 : ws[i + 2] = c := (List.getElem?_eq_some_iff.mp h3).2
      rw [List.drop_eq_getElem_cons (by omega : i < ws.length), List.drop_eq_getElem_cons (by omega : i + 1 < ws.length), List.drop_eq_getElem_cons (by omega : i + 1 + 1 < ws.length)]
      rw [e1, e2]
      congr 3
  -- the front and what follows
    calc ws = ws.take i ++ ws.drop i := (List.take_append_drop i ws).symm
      _ = _ := by rw [d]; simp
  · cases h
theorem el3_mem {a b c : Int} {s : List Int} (h : el3 a b c = some s) : s.length = 3 ∧ ∀ x ∈ s, x = a ∨ x = b ∨ x = c := by
  unfold el3 at h
  split at h
  · cases h
    refine ⟨rfl, fun x hx => ?_⟩
    simp at hx
    rcases hx with h | h | h
    · exact .inl h
    · exact .inr (.inr h)
    · exact .inr (.inl h)
  · split at h
    · cases h
      refine ⟨rfl, fun x hx => ?_⟩
      simp at hx
      rcases hx with h | h | h
      · exact .inr (.inl h)
      · exact .inl h
      · exact .inr (.inr h)
    · cases h
theorem el_lw {ws ws' : List Int} {i : Nat} (h : el ws i = some ws') (hl : Lw ws) : Lw ws' := by
  obtain ⟨a, b, c, s, e, h1, rfl, m1, m2, m3, _⟩ := el_some h
  obtain ⟨l1, l2⟩ := el3_mem h1
  refine ⟨?_, ?_⟩
  · have h2 := congrArg List.length e
    have h3 := hl.len
    simp only [List.length_append, List.length_cons, List.length_nil] at h2 ⊢
    omega
  · intro x hx
    rcases List.mem_append.mp hx with hx | hx
    · rcases List.mem_append.mp hx with hx | hx
      · exact hl.low x (List.mem_of_mem_take hx)
      · rcases l2 x hx with rfl | rfl | rfl
        · exact hl.low _ (List.mem_of_getElem? m1)
        · exact hl.low _ (List.mem_of_getElem? m2)
        · exact hl.low _ (List.mem_of_getElem? m3)
    · exact hl.low x (List.mem_of_mem_drop hx)
theorem about_lw {ws : List Int} (hl : Lw ws) : Lw (about ws) := by
  refine ⟨by simp [about]; exact hl.len, ?_⟩
  intro x hx
  obtain ⟨y, hy, rfl⟩ := List.mem_map.mp hx
  have := hl.low y (List.mem_reverse.mp hy)
  omega
theorem after_lw {ws ws' : List Int} {d : Deed} (hd : d.ok) (h : after ws d = some ws') (hl : Lw ws) : Lw ws' := by
  cases d with
  | push x =>
    simp only [after] at h
    split at h
    · cases h
      refine ⟨by simp; omega, fun y hy => ?_⟩
      rcases List.mem_append.mp hy with hy | hy
      · exact hl.low y hy
      · rw [List.mem_singleton.mp hy]; exact hd
    · cases h
  | pull x =>
    simp only [after] at h
    split at h
    · cases h
      refine ⟨by simp; omega, fun y hy => ?_⟩
      rcases List.mem_cons.mp hy with rfl | hy
      · exact hd
      · exact hl.low y hy
    · cases h
  | drop =>
    simp only [after] at h
    split at h
    · cases h
    · cases h
      exact ⟨by have := hl.len; simp; omega, fun y hy => hl.low y ((List.dropLast_sublist ws).subset hy)⟩
  | shed =>
    simp only [after] at h
    split at h
    · cases h
    · cases h
      exact ⟨by have := hl.len; simp; omega, fun y hy => hl.low y ((List.tail_sublist ws).subset hy)⟩
  | about =>
    cases h
    exact about_lw hl
  | swap i => exact el_lw h hl
def dDeed : Deed → List PyData
  | .push x => [.str "push", .int x]
  | .pull x => [.str "pull", .int x]
  | .drop => [.str "drop"]
  | .shed => [.str "shed"]
  | .about => [.str "about"]
  | .swap i => [.str "swap", .int (i : Int)]
theorem shaped_one {z : Str} (h : PyData.strOk z = true) : SeqAt.shaped (.tuple [.str z]) = true := by
  simp [SeqAt.shaped, PyData.canLay0, PyData.canLayAll0, PyData.depth, PyData.depthAll, h]
theorem shaped_two {z : Str} {i : Int} (h : PyData.strOk z = true) : SeqAt.shaped (.tuple [.str z, .int i]) = true := by
  simp [SeqAt.shaped, PyData.canLay0, PyData.canLayAll0, PyData.depth, PyData.depthAll, h]
theorem shaped_deed (d : Deed) : SeqAt.shaped (.tuple (dDeed d)) = true := by
  cases d with
  | push x => exact shaped_two (by decide +kernel)
  | pull x => exact shaped_two (by decide +kernel)
  | drop => exact shaped_one (by decide +kernel)
  | shed => exact shaped_one (by decide +kernel)
  | about => exact shaped_one (by decide +kernel)
  | swap i => exact shaped_two (by decide +kernel)
theorem eqv_deed (d : Deed) : PyData.eqv (.tuple (dDeed d)) (.tuple (dInts [])) = false := by
  cases d <;> rfl
section
variable {P : Program} {w : World} {K : PySem.W.Frag} {mg : Str → Option Value} {base : Heap}
theorem dp_deed {H : Hp} {a : Addr} {d : Deed} (h : SqT K H a d.v) : Dp K H (.ref a) (.tuple (dDeed d)) := by
  refine .tup h ?_
  cases d with
  | push x => exact .cons (.str _) (.cons (.int _) .nil)
  | pull x => exact .cons (.str _) (.cons (.int _) .nil)
  | drop => exact .cons (.str _) .nil
  | shed => exact .cons (.str _) .nil
  | about => exact .cons (.str _) .nil
  | swap i => exact .cons (.str _) (.cons (.int _) .nil)
def spElOf (K : PySem.W.Frag) : Sp := fun vs H Q _ => ∃ a ws i ws', vs = [.ref a, .int ((i : Nat) : Int)] ∧ Wt K H a ws ∧ ws.length ≤ 100 ∧ el ws i = some ws' ∧ ∀ p H', Same H H' → Wt K H' p ws' → Q (.ref p) H'
theorem ok_elementary_of (T : Txt K mg) : OKf P w K mg base 1 "elementary_of" ["word", "place"] (spElOf K) := by
  refine T.f_elementary_of.F.ok sc_elementary_of (fun vs H Q E => by clear T; walk_at "k57len") (fun cdv A outer s H vs Q E hr h => ?_)
  obtain ⟨a, ws, i, ws', rfl, ha, hl, he, k⟩ := h
  obtain ⟨x, y, z, s3, e0, e1, rfl, m1, m2, m3, hi⟩ := el_some he
  refine ⟨_, PSs.nox (pss_cons (ps_asg (pe_slice (slt_K (K := K)) (pv 0) (po_some (pv 1)) (po_some (pe_op op_add (pv 1) pe_int))) (pg_tup rfl (pgs_cons (pg_name (i := 2) sc_elementary_of.nd rfl (Or.inl rfl)) (pgs_cons (pg_name (i := 3) sc_elementary_of.nd rfl (Or.inl rfl)) (pgs_cons (pg_name (i := 4) sc_elementary_of.nd rfl (Or.inl rfl)) pgs_nil)))))
      (pss_cons (ps_if (pt_chain op_lt op_le (pe_callB (call_min2 rfl) (by rfl) T.b_min bb_min (pa_cons (pv 3) (pa_cons (pv 4) pa_nil))) (pv 2) (pe_callB (call_max2 rfl) (by rfl) T.b_max bb_max (pa_cons (pv 3) (pa_cons (pv 4) pa_nil)))) (pss_one (ps_ret (pe_tup (StX.pa_star (pe_slice (slt_K (K := K)) (pv 0) po_none (po_some (pv 1))) (pa_cons (pv 2) (pa_cons (pv 4) (pa_cons (pv 3) (StX.pa_star (pe_slice (slt_K (K := K)) (pv 0) (po_some (pe_op op_add (pv 1) pe_int)) po_none) pa_nil)))))))) pss_nil)
      (pss_cons (ps_if (pt_chain op_le op_lt (pe_callB (call_min2 rfl) (by rfl) T.b_min bb_min (pa_cons (pv 2) (pa_cons (pv 3) pa_nil))) (pv 4) (pe_callB (call_max2 rfl) (by rfl) T.b_max bb_max (pa_cons (pv 2) (pa_cons (pv 3) pa_nil)))) (pss_one (ps_ret (pe_tup (StX.pa_star (pe_slice (slt_K (K := K)) (pv 0) po_none (po_some (pv 1))) (pa_cons (pv 3) (pa_cons (pv 2) (pa_cons (pv 4) (StX.pa_star (pe_slice (slt_K (K := K)) (pv 0) (po_some (pe_op op_add (pv 1) pe_int)) po_none) pa_nil)))))))) pss_nil)
      (pss_one (ps_ret pe_non))))), ?_⟩
  -- a, b, c = word[place:place + 3]
  refine ⟨_, rfl, _, rfl, _, rfl, _, rfl, _, _, rfl, rfl, _, rfl, ?_⟩
  refine slA ha fun p H1 s1 h1 => ?_
  rw [show (i : Int) + 3 = ((i + 3 : Nat) : Int) by omega, cut_mid] at h1
  have hcut : (List.drop i (ws.map V.int)).take (i + 3 - i) = [V.int x, V.int y, V.int z] := by
    rw [show i + 3 - i = 3 by omega, ← List.map_drop, ← List.map_take]
    have : (ws.drop i).take 3 = [x, y, z] := by
      have e2 : ws.drop i = [x, y, z] ++ ws.drop (i + 3) := by
        conv => lhs; rw [e0]
        rw [List.append_assoc]
        exact List.drop_left' (by simp; omega)
      rw [e2]
      rfl
    rw [this]
    rfl
  rw [hcut] at h1
  refine ⟨p, _, rfl, h1, rfl, _, _, rfl, _, _, rfl, _, _, rfl, rfl, ?_⟩
  have ha1 := sameT s1 ha
  have fin : ∀ (u v t : Int) (H2 : Hp) (q1 q2 : Addr), Same H1 H2 → SqT K H2 q1 ((ws.map V.int).take i) → SqT K H2 q2 ((ws.map V.int).drop (i + 3)) → s3 = [u, v, t] →
      ((ws.map V.int).take i ++ [V.int u, V.int v, V.int t] ++ (ws.map V.int).drop (i + 3)).length ≤ sizeLine ∧ ∀ p, H2 p = none → Q (.ref p) (upd H2 p (.tup ((ws.map V.int).take i ++ [V.int u, V.int v, V.int t] ++ (ws.map V.int).drop (i + 3)))) := by
    intro u v t H2 q1 q2 s2 g1 g2 es
    refine ⟨by simp; exact line_of (by omega), fun p np => ?_⟩
    refine k p _ (s1.trans (s2.trans (same_upd np))) (SqT.of ?_)
    rw [upd_same, es]
    simp
  -- the first way
  unfold el3 at e1
  by_cases c1 : min y z < x ∧ x ≤ max y z
  · rw [if_pos c1] at e1
    cases e1
    refine ⟨_, rfl, _, rfl, _, _, rfl, _, rfl, _, _, rfl, rfl, _, rfl, ?_⟩
    rw [decide_eq_true (show (if z < y then z else y) < x by have := c1.1; split <;> omega)]
    refine iteT ?_
    refine ⟨_, rfl, _, rfl, _, _, rfl, _, _, rfl, rfl, _, rfl, ?_⟩
    rw [decide_eq_true (show x ≤ (if z > y then z else y) by have := c1.2; split <;> omega)]
    refine iteT ?_
    refine ⟨_, rfl, _, rfl, _, rfl, ?_⟩
    refine slA ha1 fun q1 H2 s2 g1 => ?_
    rw [cut_pre] at g1
    refine ⟨q1, _, rfl, .inl g1, _, rfl, _, rfl, _, rfl, _, rfl, _, rfl, _, _, rfl, rfl, _, rfl, ?_⟩
    unfold tNoPart
    refine slA (sameT s2 ha1) fun q2 H3 s3 g2 => ?_
    rw [show (i : Int) + 3 = ((i + 3 : Nat) : Int) by omega, cut_post] at g2
    refine ⟨q2, _, rfl, .inl g2, ?_⟩
    have := fin x z y H3 q1 q2 (s2.trans s3) (sameT s3 g1) g2 rfl
    simpa only [tNil, List.append_assoc, List.cons_append, List.nil_append, List.append_nil] using this
  · rw [if_neg c1] at e1
    by_cases c2 : min x y ≤ z ∧ z < max x y
    · rw [if_pos c2] at e1
      cases e1
      refine ⟨_, rfl, _, rfl, _, _, rfl, _, rfl, _, _, rfl, rfl, _, rfl, ?_⟩
      refine ite2 (fun d1 => ⟨_, rfl, _, rfl, _, _, rfl, _, _, rfl, rfl, _, rfl, ite2 (fun d2 => ?_) fun d2 => ?_⟩) fun d1 => ⟨_, rfl, ?_⟩
      · exfalso
        have d1 := of_decide_eq_true d1
        have d2 := of_decide_eq_true d2
        apply c1
        constructor
        · split at d1 <;> omega
        · split at d2 <;> omega
      all_goals
        refine ⟨_, rfl, _, rfl, _, _, rfl, _, rfl, _, _, rfl, rfl, _, rfl, ?_⟩
        rw [decide_eq_true (show (if y < x then y else x) ≤ z by have := c2.1; split <;> omega)]
        refine iteT ?_
        refine ⟨_, rfl, _, rfl, _, _, rfl, _, _, rfl, rfl, _, rfl, ?_⟩
        rw [decide_eq_true (show z < (if y > x then y else x) by have := c2.2; split <;> omega)]
        refine iteT ?_
        refine ⟨_, rfl, _, rfl, _, rfl, ?_⟩
        refine slA ha1 fun q1 H2 s2 g1 => ?_
        rw [cut_pre] at g1
        refine ⟨q1, _, rfl, .inl g1, _, rfl, _, rfl, _, rfl, _, rfl, _, rfl, _, _, rfl, rfl, _, rfl, ?_⟩
        unfold tNoPart
        refine slA (sameT s2 ha1) fun q2 H3 s3 g2 => ?_
        rw [show (i : Int) + 3 = ((i + 3 : Nat) : Int) by omega, cut_post] at g2
        refine ⟨q2, _, rfl, .inl g2, ?_⟩
        have := fin y x z H3 q1 q2 (s2.trans s3) (sameT s3 g1) g2 rfl
        simpa only [tNil, List.append_assoc, List.cons_append, List.nil_append, List.append_nil] using this
    · rw [if_neg c2] at e1
      cases e1
def spEl (K : PySem.W.Frag) : Sp := fun vs H Q _ => ∃ a ws i ws', vs = [.ref a, .int ((i : Nat) : Int)] ∧ Wt K H a ws ∧ Lw ws ∧ el ws i = some ws' ∧ ∀ p H', Same H H' → Wt K H' p ws' → Q (.ref p) H'
theorem ok_elementary (T : Txt K mg) : OKf P w K mg base 5 "elementary" ["word", "place"] (spEl K) := by
  refine T.f_elementary.F.ok sc_elementary (fun vs H Q E => by clear T; walk_at "k57len") (fun cdv A outer s H vs Q E hr h => ?_)
  obtain ⟨a, ws, i, ws', rfl, ha, hl, he, k⟩ := h
  have hlen := hl.len
  obtain ⟨_, _, _, _, _, _, _, _, _, _, hi⟩ := el_some he
  refine ⟨_, PSs.nox (pss_cons (ps_expr (pe_call (ok_need_long_word T) (hr.mono (by decide)) rfl T.f_need_long_word.g T.f_need_long_word.F.kp T.f_need_long_word.b .nil pass0 (pa_cons (pv 0) pa_nil)))
      (pss_cons (ps_if (pt_not (pt_val (pe_call (ok_is_between T) (hr.mono (by decide)) rfl T.f_is_between.g T.f_is_between.F.kp T.f_is_between.b .nil pass0 (pa_cons (pv 1) (pa_cons pe_int (pa_cons (pe_op op_sub (pe_callB (len_K (K := K)) (by rfl) T.b_len bb_len (pa_cons (pv 0) pa_nil)) pe_int) pa_nil)))))) (pss_one ps_never) pss_nil)
      (pss_cons (ps_set (i := 2) sc_elementary.nd rfl (Or.inl rfl) (pe_call (ok_elementary_of T) (hr.mono (by decide)) rfl T.f_elementary_of.g T.f_elementary_of.F.kp T.f_elementary_of.b .nil pass0 (pa_cons (pv 0) (pa_cons (pv 1) pa_nil))))
      (pss_cons (ps_if (pt_cmpR op_isN (pv 2) pe_non (nomark _)) (pss_one ps_never) pss_nil)
      (pss_one (ps_ret (pv 2))))))), ?_⟩
  refine ⟨_, rfl, a, ws, rfl, ha, hl, fun H1 s1 => ?_⟩
  have ha1 := sameT s1 ha
  refine ⟨_, rfl, _, rfl, a, _, rfl, .inr ha1, _, _, rfl, rfl, _, _, _, rfl, .int _, _, rfl, ?_⟩
  rw [show btw (.int (i : Int)) 0 (((ws.map V.int).length : Int) - 3) = true by simp [btw]; omega]
  refine iteF ?_
  refine ⟨_, rfl, _, rfl, a, ws, i, ws', rfl, ha1, by omega, he, fun p H2 s2 h2 => ?_⟩
  refine ⟨_, rfl, rfl, _, rfl, ?_⟩
  refine iteF ?_
  exact ⟨_, rfl, k p H2 (s1.trans s2) h2⟩
def spAbout (K : PySem.W.Frag) : Sp := fun vs H Q _ => ∃ a ws, vs = [.ref a] ∧ Wt K H a ws ∧ ws.length ≤ 100 ∧ ∀ p H', Same H H' → Wt K H' p (about ws) → Q (.ref p) H'
theorem ok_word_about (T : Txt K mg) : OKf P w K mg base 1 "word_about" ["word"] (spAbout K) := by
  refine T.f_word_about.F.ok sc_word_about (fun vs H Q E => by clear T; walk_at "k57len") (fun cdv A outer s H vs Q E hr h => ?_)
  obtain ⟨a, ws, rfl, ha, hl, k⟩ := h
  refine ⟨_, PSs.nox (pss_one (ps_ret (pe_callTy (tuple_K (K := K)) (by rfl) T.b_tuple bb_tuple (pa_cons (pe_lc (own := [("letter", 1)]) (g := gName 1) (by rfl) sc_word_about.nd (pit_K (K := K) (k57_pe_revT (K := K) (pv 0))) (blkOk_by (N := ["word", "letter"]) (sc := defScope s_word_about) (by decide +kernel)) (fun _ _ _ _ _ => pg_name (i := 1) sc_word_about.nd rfl (Or.inl rfl)) (fun _ _ _ _ _ => pts_nil) (fun _ _ _ _ _ => (pe_op op_sub (pe_op op_add (pe_glob (v := .int 16) rfl T.c_MOST_LETTER.choose_spec ⟨_, rfl⟩) pe_int) (pv 1)))) pa_nil)))), ?_⟩
  refine ⟨_, rfl, a, _, rfl, ha, fun p np => ⟨p, rfl, ⟨_, SqT.of upd_same⟩, fun D nD => ?_⟩⟩
  have s1 := same_upd (o := HO.tup (ws.map V.int).reverse) np
  have h1 : SqT K (upd H p (.tup (ws.map V.int).reverse)) p (ws.reverse.map V.int) := SqT.of (by rw [upd_same, List.map_reverse])
  refine lcm (walk_tup (K := K) (a := p) (xs := ws.reverse.map V.int)) (by simp; omega) nD (fun i => V.int (17 - ws.reverse.getD i 0)) (fun H s => sameT s h1) yAt_same (fun i x H2 H2' N hi s hy hN => ?_) (fun H2 s2 e => ?_)
  · obtain ⟨rfl, hx⟩ := hy
    obtain ⟨c, hc, rfl⟩ := map_some hx
    have e : ws.reverse.getD i 0 = c := by simp only [List.getD, hc, Option.getD_some]
    have q := hN H2' (Same.refl _)
    rw [e] at q
    exact ⟨rfl, _, _, rfl, rfl, _, rfl, _, _, rfl, rfl, q⟩
  · rw [List.length_map, range_map ws.reverse 0 (fun x => V.int (17 - x))] at e
    refine ⟨D, _, rfl, .inl ⟨SqL.of e, fun u nu => ?_⟩⟩
    refine k u _ (s1.trans (s2.trans (same_upd nu))) (SqT.of ?_)
    rw [upd_same, about, List.map_map]
    rfl
def spIsDeed (K : PySem.W.Frag) : Sp := fun vs H Q _ => ∃ (a : Addr) (d : Deed), vs = [.ref a] ∧ SqT K H a d.v ∧ d.ok ∧ ∀ H', Same H H' → Q (.bl true) H'
theorem ok_is_deed (T : Txt K mg) : OKf P w K mg base 3 "is_deed" ["thing"] (spIsDeed K) := by
  refine T.f_is_deed.F.ok sc_is_deed (fun vs H Q E => by clear T; walk_at "k57len") (fun cdv A outer s H vs Q E hr h => ?_)
  obtain ⟨a, d, rfl, ha, hd, k⟩ := h
  refine ⟨_, PSs.nox (pss_cons (ps_if (PW.pt (pw_or (pt_not (pt_val (pe_callB (isi_K (K := K)) (by rfl) T.b_isinstance bb_isinstance (pa_cons (pv 0) (pa_cons (pe_bltn (v := .ty "tuple") (by rfl) T.b_tuple bb_tuple rfl) pa_nil))))) (pw_or (pt_cmpR (eqD_K (K := K) hr.units) (pv 0) (pe_tup pa_nil) (nomark _)) (pw_or1 (pt_not (pt_val (pe_callB (isi_K (K := K)) (by rfl) T.b_isinstance bb_isinstance (pa_cons (pe_ix (ixt_K (K := K)) (pv 0) pe_int (fun _ _ => rfl)) (pa_cons (pe_bltn (v := .ty "str") (by rfl) T.b_str bb_str rfl) pa_nil))))))))) (pss_one (ps_ret pe_bl)) pss_nil)
      (pss_cons (ps_if (pt_cmpR (in_K (K := K)) (pe_ix (ixt_K (K := K)) (pv 0) pe_int (fun _ _ => rfl)) (pe_glob (v := .ref (He.ga K "ALONE")) rfl T.c_ALONE.1 rfl) (by rfl)) (pss_one (ps_ret (pe_cmpR op_eq (pe_callB (len_K (K := K)) (by rfl) T.b_len bb_len (pa_cons (pv 0) pa_nil)) pe_int (nomark _)))) pss_nil)
      (pss_cons (ps_if (pt_cmpR op_ne (pe_callB (len_K (K := K)) (by rfl) T.b_len bb_len (pa_cons (pv 0) pa_nil)) pe_int (nomark _)) (pss_one (ps_ret pe_bl)) pss_nil)
      (pss_cons (ps_if (pt_cmpR (in_K (K := K)) (pe_ix (ixt_K (K := K)) (pv 0) pe_int (fun _ _ => rfl)) (pe_glob (v := .ref (He.ga K "LETTERED")) rfl T.c_LETTERED.1 rfl) (by rfl)) (pss_one (ps_ret (pe_call (ok_is_between T) (hr.mono (by decide)) rfl T.f_is_between.g T.f_is_between.F.kp T.f_is_between.b .nil pass0 (pa_cons (pe_ix (ixt_K (K := K)) (pv 0) pe_int (fun _ _ => rfl)) (pa_cons pe_int (pa_cons (pe_glob (v := .int 16) rfl T.c_MOST_LETTER.choose_spec ⟨_, rfl⟩) pa_nil)))))) pss_nil)
      (pss_one (ps_ret (pe_and (pe_cmpR op_eq (pe_ix (ixt_K (K := K)) (pv 0) pe_int (fun _ _ => rfl)) pe_str (nomark _)) (pe_and (pe_call (ok_is_number T) (hr.mono (by decide)) rfl T.f_is_number.g T.f_is_number.F.kp T.f_is_number.b .nil pass0 (pa_cons (pe_ix (ixt_K (K := K)) (pv 0) pe_int (fun _ _ => rfl)) pa_nil)) (pe_one (pe_cmpR op_ge (pe_ix (ixt_K (K := K)) (pv 0) pe_int (fun _ _ => rfl)) pe_int (nomark _))))))))))), ?_⟩
  refine ⟨_, rfl, _, _, _, _, true, rfl, .ty _, tyT ha, kit_ty (by decide +kernel), _, rfl, ?_⟩
  refine iteF ?_
  refine ⟨_, rfl, (by show 0 ≤ sizeLine; decide), fun z nz => ?_⟩
  have s1 := same_upd (o := HO.tup []) nz
  have ha1 := sameT s1 ha
  refine ⟨_, _, dp_deed ha1, dp_tup (ns := []) (SqT.of upd_same), shaped_deed d, shaped_tup [], _, rfl, ?_⟩
  rw [eqv_deed]
  refine iteF ?_
  generalize upd H z (.tup []) = H1 at s1 ha1
  have hA := T.c_ALONE.2 H1
  have hL := T.c_LETTERED.2 H1
  have at0 : ∀ {v : V} {r : List V}, d.v = v :: r → atI d.v 0 = some v := fun e => by rw [e]; exact atI_nat (j := 0) rfl
  have at1 : ∀ {v u : V} {r : List V}, d.v = v :: u :: r → atI d.v 1 = some u := fun e => by rw [e]; exact atI_nat (j := 1) rfl
  have hs : ∃ x r, d.v = .str x :: r := by cases d <;> exact ⟨_, _, rfl⟩
  obtain ⟨x, r, ex⟩ := hs
  refine ⟨_, rfl, a, _, _, _, rfl, rfl, ha1, at0 ex, _, _, _, _, true, rfl, .ty _, .base (.str x), kit_ty (by decide +kernel), _, rfl, ?_⟩
  refine iteF ?_
  -- if thing[0] in ALONE
  refine ⟨_, rfl, a, _, _, _, rfl, rfl, ha1, at0 ex, _, _, rfl, .inr hA, rfl, rfl, _, rfl, ?_⟩
  cases d with
  | drop =>
    cases ex
    refine iteT ?_
    exact ⟨_, rfl, a, _, rfl, .inr ha1, rfl, k H1 s1⟩
  | shed =>
    cases ex
    refine iteT ?_
    exact ⟨_, rfl, a, _, rfl, .inr ha1, rfl, k H1 s1⟩
  | about =>
    cases ex
    refine iteT ?_
    exact ⟨_, rfl, a, _, rfl, .inr ha1, rfl, k H1 s1⟩
  | push c =>
    cases ex
    refine iteF ?_
    refine ⟨_, rfl, a, _, rfl, .inr ha1, rfl, _, rfl, ?_⟩
    refine iteF ?_
    refine ⟨_, rfl, a, _, _, _, rfl, rfl, ha1, at0 rfl, _, _, rfl, .inr hL, rfl, rfl, _, rfl, ?_⟩
    refine iteT ?_
    refine ⟨_, rfl, a, _, _, _, rfl, rfl, ha1, at1 rfl, _, _, _, rfl, .int c, ?_⟩
    rw [show btw (.int c) 1 16 = true by simp [btw]; exact hd]
    exact k H1 s1
  | pull c =>
    cases ex
    refine iteF ?_
    refine ⟨_, rfl, a, _, rfl, .inr ha1, rfl, _, rfl, ?_⟩
    refine iteF ?_
    refine ⟨_, rfl, a, _, _, _, rfl, rfl, ha1, at0 rfl, _, _, rfl, .inr hL, rfl, rfl, _, rfl, ?_⟩
    refine iteT ?_
    refine ⟨_, rfl, a, _, _, _, rfl, rfl, ha1, at1 rfl, _, _, _, rfl, .int c, ?_⟩
    rw [show btw (.int c) 1 16 = true by simp [btw]; exact hd]
    exact k H1 s1
  | swap i =>
    cases ex
    refine iteF ?_
    refine ⟨_, rfl, a, _, rfl, .inr ha1, rfl, _, rfl, ?_⟩
    refine iteF ?_
    refine ⟨_, rfl, a, _, _, _, rfl, rfl, ha1, at0 rfl, _, _, rfl, .inr hL, rfl, rfl, _, rfl, ?_⟩
    refine iteF ?_
    refine ⟨_, rfl, a, _, _, _, rfl, rfl, ha1, at0 rfl, rfl, _, rfl, ?_⟩
    refine iteT ?_
    refine ⟨_, rfl, a, _, _, _, rfl, rfl, ha1, at1 rfl, _, rfl, .int _, _, rfl, ?_⟩
    refine iteT ?_
    refine ⟨_, rfl, a, _, _, _, rfl, rfl, ha1, at1 rfl, _, _, rfl, rfl, ?_⟩
    show Q (.bl (decide ((0 : Int) ≤ (i : Int)))) H1
    rw [decide_eq_true (by omega)]
    exact k H1 s1
def spAfter (K : PySem.W.Frag) : Sp := fun vs H Q _ => ∃ (a b : Addr) (ws : List Int) (d : Deed) (ws' : List Int), vs = [.ref a, .ref b] ∧ Wt K H a ws ∧ Lw ws ∧ SqT K H b d.v ∧ d.ok ∧ after ws d = some ws' ∧ ∀ p H', Same H H' → Wt K H' p ws' → Q (.ref p) H'
theorem ok_after_deed (T : Txt K mg) : OKf P w K mg base 6 "after_deed" ["word", "deed"] (spAfter K) := by
  refine T.f_after_deed.F.ok sc_after_deed (fun vs H Q E => by clear T; walk_at "k57len") (fun cdv A outer s H vs Q E hr h => ?_)
  obtain ⟨a, b, ws, d, ws', rfl, ha, hl, hb, hd, he, k⟩ := h
  have hlen := hl.len
  refine ⟨_, PSs.nox (pss_cons (ps_if (pt_cmpR (in_K (K := K)) (pe_ix (ixt_K (K := K)) (pv 1) pe_int (fun _ _ => rfl)) (pe_glob (v := .ref (He.ga K "LETTERED")) rfl T.c_LETTERED.1 rfl) (by rfl)) (pss_cons (ps_expr (pe_call (ok_need_few T) (hr.mono (by decide)) rfl T.f_need_few.g T.f_need_few.F.kp T.f_need_few.b .nil pass0 (pa_cons (pe_op op_add (pe_callB (len_K (K := K)) (by rfl) T.b_len bb_len (pa_cons (pv 0) pa_nil)) pe_int) (pa_cons (pe_glob (v := .int 16) rfl T.c_MOST_BOXES.choose_spec ⟨_, rfl⟩) pa_nil))))
      (pss_one (ps_ret (pe_ifExp (pt_cmpR op_eq (pe_ix (ixt_K (K := K)) (pv 1) pe_int (fun _ _ => rfl)) pe_str (nomark _)) (pe_tup (StX.pa_star (pv 0) (pa_cons (pe_ix (ixt_K (K := K)) (pv 1) pe_int (fun _ _ => rfl)) pa_nil))) (pe_tup (pa_cons (pe_ix (ixt_K (K := K)) (pv 1) pe_int (fun _ _ => rfl)) (StX.pa_star (pv 0) pa_nil))))))) pss_nil)
      (pss_cons (ps_if (pt_cmpR op_eq (pe_ix (ixt_K (K := K)) (pv 1) pe_int (fun _ _ => rfl)) pe_str (nomark _)) (pss_one (ps_ret (pe_call (ok_word_about T) (hr.mono (by decide)) rfl T.f_word_about.g T.f_word_about.F.kp T.f_word_about.b .nil pass0 (pa_cons (pv 0) pa_nil)))) pss_nil)
      (pss_cons (ps_if (pt_cmpR op_eq (pe_ix (ixt_K (K := K)) (pv 1) pe_int (fun _ _ => rfl)) pe_str (nomark _)) (pss_one (ps_ret (pe_call (ok_elementary T) (hr.mono (by decide)) rfl T.f_elementary.g T.f_elementary.F.kp T.f_elementary.b .nil pass0 (pa_cons (pv 0) (pa_cons (pe_ix (ixt_K (K := K)) (pv 1) pe_int (fun _ _ => rfl)) pa_nil))))) pss_nil)
      (pss_cons (ps_if (pt_cmpR (eqD_K (K := K) hr.units) (pv 0) (pe_tup pa_nil) (nomark _)) (pss_one ps_never) pss_nil)
      (pss_one (ps_ret (pe_ifExp (pt_cmpR op_eq (pe_ix (ixt_K (K := K)) (pv 1) pe_int (fun _ _ => rfl)) pe_str (nomark _)) (pe_slice (slt_K (K := K)) (pv 0) po_none (po_some (pe_un un_neg pe_int))) (pe_slice (slt_K (K := K)) (pv 0) (po_some pe_int) po_none)))))))), ?_⟩
  have hL := T.c_LETTERED.2 H
  have at0 : ∀ {v : V} {r : List V}, d.v = v :: r → atI d.v 0 = some v := fun e => by rw [e]; exact atI_nat (j := 0) rfl
  have at1 : ∀ {v u : V} {r : List V}, d.v = v :: u :: r → atI d.v 1 = some u := fun e => by rw [e]; exact atI_nat (j := 1) rfl
  have hs : ∃ x r, d.v = .str x :: r := by cases d <;> exact ⟨_, _, rfl⟩
  obtain ⟨x, r, ex⟩ := hs
  refine ⟨_, rfl, b, _, _, _, rfl, rfl, hb, at0 ex, _, _, rfl, .inr hL, rfl, rfl, _, rfl, ?_⟩
  cases d with
  | push c =>
    cases ex
    simp only [after] at he
    split at he
    · rename_i hc
      cases he
      refine iteT ?_
      refine ⟨_, rfl, a, _, rfl, .inr ha, _, _, rfl, rfl, _, _, rfl, (by simp; omega), ?_⟩
      refine ⟨_, rfl, b, _, _, _, rfl, rfl, hb, at0 rfl, rfl, _, rfl, ?_⟩
      refine iteT ?_
      refine ⟨_, rfl, a, _, rfl, .inl ha, _, rfl, b, _, _, _, rfl, rfl, hb, at1 rfl, (by simp; exact line_of (by omega)), fun p np => ?_⟩
      exact k p _ (same_upd np) (SqT.of (by rw [upd_same]; simp))
    · cases he
  | pull c =>
    cases ex
    simp only [after] at he
    split at he
    · rename_i hc
      cases he
      refine iteT ?_
      refine ⟨_, rfl, a, _, rfl, .inr ha, _, _, rfl, rfl, _, _, rfl, (by simp; omega), ?_⟩
      refine ⟨_, rfl, b, _, _, _, rfl, rfl, hb, at0 rfl, rfl, _, rfl, ?_⟩
      refine iteF ?_
      refine ⟨_, rfl, b, _, _, _, rfl, rfl, hb, at1 rfl, _, rfl, a, _, rfl, .inl ha, (by simp; exact line_of (by omega)), fun p np => ?_⟩
      exact k p _ (same_upd np) (SqT.of (by rw [upd_same]; simp))
    · cases he
  | about =>
    cases ex
    cases he
    refine iteF ?_
    refine ⟨_, rfl, b, _, _, _, rfl, rfl, hb, at0 rfl, rfl, _, rfl, ?_⟩
    refine iteT ?_
    exact ⟨_, rfl, a, ws, rfl, ha, by omega, k⟩
  | swap i =>
    cases ex
    refine iteF ?_
    refine ⟨_, rfl, b, _, _, _, rfl, rfl, hb, at0 rfl, rfl, _, rfl, ?_⟩
    refine iteF ?_
    refine ⟨_, rfl, b, _, _, _, rfl, rfl, hb, at0 rfl, rfl, _, rfl, ?_⟩
    refine iteT ?_
    exact ⟨_, rfl, _, rfl, b, _, _, _, rfl, rfl, hb, at1 rfl, a, ws, i, ws', rfl, ha, hl, he, k⟩
  | drop =>
    cases ex
    simp only [after] at he
    split at he
    · cases he
    · rename_i hne
      cases he
      refine iteF ?_
      refine ⟨_, rfl, b, _, _, _, rfl, rfl, hb, at0 rfl, rfl, _, rfl, ?_⟩
      refine iteF ?_
      refine ⟨_, rfl, b, _, _, _, rfl, rfl, hb, at0 rfl, rfl, _, rfl, ?_⟩
      refine iteF ?_
      refine ⟨_, rfl, (by show 0 ≤ sizeLine; decide), fun z nz => ?_⟩
      have s1 := same_upd (o := HO.tup []) nz
      refine ⟨_, _, dp_tup (sameT s1 ha), dp_tup (ns := []) (SqT.of upd_same), shaped_tup _, shaped_tup [], _, rfl, ?_⟩
      rw [show PyData.eqv (.tuple (dInts ws)) (.tuple (dInts [])) = decide (ws = []) from eqv_ints _ _, decide_eq_false hne]
      refine iteF ?_
      refine ⟨_, rfl, b, _, _, _, rfl, rfl, sameT s1 hb, at0 rfl, rfl, _, rfl, ?_⟩
      refine iteT ?_
      refine ⟨_, rfl, _, rfl, _, rfl, ?_⟩
      refine slA (sameT s1 ha) fun p H2 s2 h2 => ?_
      rw [cut_last] at h2
      exact k p H2 (s1.trans s2) (by rw [← List.map_dropLast] at h2; exact h2)
  | shed =>
    cases ex
    simp only [after] at he
    split at he
    · cases he
    · rename_i hne
      cases he
      refine iteF ?_
      refine ⟨_, rfl, b, _, _, _, rfl, rfl, hb, at0 rfl, rfl, _, rfl, ?_⟩
      refine iteF ?_
      refine ⟨_, rfl, b, _, _, _, rfl, rfl, hb, at0 rfl, rfl, _, rfl, ?_⟩
      refine iteF ?_
      refine ⟨_, rfl, (by show 0 ≤ sizeLine; decide), fun z nz => ?_⟩
      have s1 := same_upd (o := HO.tup []) nz
      refine ⟨_, _, dp_tup (sameT s1 ha), dp_tup (ns := []) (SqT.of upd_same), shaped_tup _, shaped_tup [], _, rfl, ?_⟩
      rw [show PyData.eqv (.tuple (dInts ws)) (.tuple (dInts [])) = decide (ws = []) from eqv_ints _ _, decide_eq_false hne]
      refine iteF ?_
      refine ⟨_, rfl, b, _, _, _, rfl, rfl, sameT s1 hb, at0 rfl, rfl, _, rfl, ?_⟩
      refine iteF ?_
      refine ⟨_, rfl, _, rfl, ?_⟩
      unfold tNoPart
      refine slA (sameT s1 ha) fun p H2 s2 h2 => ?_
      rw [show (1 : Int) = ((1 : Nat) : Int) from rfl, cut_post] at h2
      exact k p H2 (s1.trans s2) (by rw [← List.map_drop, List.drop_one] at h2; exact h2)
end
end K57
set_option Elab.async false
set_option linter.all false
set_option maxRecDepth 100000
set_option maxHeartbeats 4000000

/-! Walks: arcs and least costs. -/
namespace K57
open PySem PySem.Spec PyProof.Rows L2
local macro_rules | `(tactic| walk_at "k57g") => `(tactic| repeat (first | refine ⟨_, rfl, ?_⟩ | refine ⟨_, _, rfl, rfl, ?_⟩ | refine ⟨_, _, rfl, rfl, _, rfl, ?_⟩))
local macro_rules | `(tactic| walk_at "k57len") => `(tactic| (intro h; first | (obtain ⟨e, _⟩ := h; subst e; rfl) | (obtain ⟨_, e, _⟩ := h; subst e; rfl) | (obtain ⟨_, _, e, _⟩ := h; subst e; rfl) | (obtain ⟨_, _, _, e, _⟩ := h; subst e; rfl) | (obtain ⟨_, _, _, _, e, _⟩ := h; subst e; rfl) | (obtain ⟨_, _, _, _, _, e, _⟩ := h; subst e; rfl) | (obtain ⟨_, _, _, _, _, _, e, _⟩ := h; subst e; rfl) | (obtain ⟨_, _, _, _, _, _, _, e, _⟩ := h; subst e; rfl) | (obtain ⟨_, _, _, _, _, _, _, _, e, _⟩ := h; subst e; rfl)))

def arcV (a : Arc) : List V := [.int (a.1 : Int), .int (a.2.1 : Int), .int a.2.2]
def flowV (f : List Bool) : List V := f.map fun b => .int (if b then 1 else 0)
def wayV : Option Nat → V
  | none => .non
  | some k => .int (k : Int)
/-- the list of arcs -/
def ArcL (K : PySem.W.Frag) (H : Hp) (f : Addr) (as : List Arc) : Prop := ∃ ps : List Addr, H f = some (.lst (ps.map V.ref)) ∧ Paired (fun p a => SqT K H p (arcV a)) ps as
theorem ArcL.same {K : PySem.W.Frag} {H H' : Hp} {f : Addr} {as : List Arc} (e : Same H H') (h : ArcL K H f as) : ArcL K H' f as := by
  obtain ⟨ps, h1, h2⟩ := h
  exact ⟨ps, e _ _ h1, Paired.mapP h2 fun p a h => sameT e h⟩
theorem arcs_len (w : List Int) (n : Nat) : (arcsTo w n).length ≤ n * (3 + w.length) := by
  induction n with
  | zero => simp [arcsTo]
  | succ n ih =>
    rw [arcsTo_succ, List.length_append]
    have : (arcsAt w n).length ≤ 3 + w.length := by
      have h : (laters w n (w.length - (n + 1))).length ≤ w.length := by
        unfold laters
        rw [List.length_map]
        refine Nat.le_trans (List.length_filter_le _ _) ?_
        rw [List.length_range']
        omega
      simp only [arcsAt, arcs3, List.length_append, List.length_cons, List.length_nil]
      omega
    rw [Nat.succ_mul]
    omega
theorem arcs_few {w : List Int} (h : w.length ≤ 16) : (arcsOf w).length ≤ 400 := by
  have h1 := arcs_len w w.length
  have h2 : w.length * (3 + w.length) ≤ 16 * 19 := Nat.mul_le_mul h (by omega)
  unfold arcsOf
  omega
section
variable {P : Program} {w : World} {K : PySem.W.Frag} {mg : Str → Option Value} {base : Heap}
def spNeedMany (K : PySem.W.Frag) : Sp := fun vs H Q _ => ∃ a ws m, vs = [.ref a, .int m] ∧ Wt K H a ws ∧ Lw ws ∧ 0 ≤ m ∧ m ≤ 16 ∧ ∀ H', Same H H' → Q .non H'
theorem ok_need_many (T : Txt K mg) : OKf P w K mg base 5 "need_many" ["word", "many"] (spNeedMany K) := by
  refine T.f_need_many.F.ok sc_need_many (fun vs H Q E => by clear T; walk_at "k57len") (fun cdv A outer s H vs Q E hr h => ?_)
  obtain ⟨a, ws, m, rfl, ha, hl, h0, h1, k⟩ := h
  refine ⟨_, PSs.nox (pss_cons (ps_expr (pe_call (ok_need_long_word T) (hr.mono (by decide)) rfl T.f_need_long_word.g T.f_need_long_word.F.kp T.f_need_long_word.b .nil pass0 (pa_cons (pv 0) pa_nil)))
      (pss_one (ps_if (pt_not (pt_val (pe_call (ok_is_between T) (hr.mono (by decide)) rfl T.f_is_between.g T.f_is_between.F.kp T.f_is_between.b .nil pass0 (pa_cons (pv 1) (pa_cons pe_int (pa_cons (pe_glob (v := .int 16) rfl T.c_MOST_BOXES.choose_spec ⟨_, rfl⟩) pa_nil)))))) (pss_one ps_never) pss_nil))), ?_⟩
  refine ⟨_, rfl, a, ws, rfl, ha, hl, fun H1 s1 => ?_⟩
  refine ⟨_, rfl, _, _, _, rfl, .int m, _, rfl, ?_⟩
  rw [show btw (.int m) 0 16 = true by simp [btw, h0, h1]]
  exact iteF (k H1 s1)
def spArcs (K : PySem.W.Frag) : Sp := fun vs H Q _ => ∃ a ws, vs = [.ref a, .bl true] ∧ Wt K H a ws ∧ ws.length ≤ 16 ∧ ∀ f H', Same H H' → H f = none → ArcL K H' f (arcsOf ws) → Q (.ref f) H'
theorem laters_succ (ws : List Int) (i j : Nat) : laters ws i (j + 1) = laters ws i j ++ (if ws.getD i 0 ≤ ws.getD (i + 1 + j) 0 then [(3 + 2 * i, 2 + 2 * (i + 1 + j), 0)] else []) := by
  unfold laters
  rw [List.range'_concat, List.filter_append, List.map_append]
  congr 1
  simp only [List.filter_cons, List.filter_nil, Nat.one_mul]
  by_cases h : ws.getD i 0 ≤ ws.getD (i + 1 + j) 0
  · have e : decide (ws.getD i 0 ≤ ws.getD (i + 1 + j) 0) = true := decide_eq_true h
    rw [if_pos h]
    simp only [e, if_true, List.map_cons, List.map_nil]
  · have e : decide (ws.getD i 0 ≤ ws.getD (i + 1 + j) 0) = false := decide_eq_false h
    rw [if_neg h]
    simp only [e, Bool.false_eq_true, if_false, List.map_nil]
theorem ok_arcs_of (T : Txt K mg) : OKf P w K mg base 1 "arcs_of" ["word", "is_rising"] (spArcs K) := by
  refine T.f_arcs_of.F.ok sc_arcs_of (fun vs H Q E => by clear T; walk_at "k57len") (fun cdv A outer s H vs Q E hr h => ?_)
  obtain ⟨a, ws, rfl, ha, hl, k⟩ := h
  refine ⟨_, PSs.nox (pss_cons (ps_set (i := 2) sc_arcs_of.nd rfl (Or.inl rfl) (pe_lst pa_nil))
      (pss_cons (ps_for PassesOwn.never rfl (k57_pi_enumT (by rfl) T.b_enumerate (pa_cons (pv 0) pa_nil)) (pg_tup rfl (pgs_cons (pg_name (i := 3) sc_arcs_of.nd rfl (Or.inl rfl)) (pgs_cons (pg_name (i := 4) sc_arcs_of.nd rfl (Or.inl rfl)) pgs_nil))) (pss_cons (ps_aug (i := 2) sc_arcs_of.nd rfl (Or.inl rfl) (pe_lst (pa_cons (pe_tup (pa_cons pe_int (pa_cons (pe_op op_add pe_int (pe_op op_mul pe_int (pv 3))) (pa_cons pe_int pa_nil)))) (pa_cons (pe_tup (pa_cons (pe_op op_add pe_int (pe_op op_mul pe_int (pv 3))) (pa_cons (pe_op op_add pe_int (pe_op op_mul pe_int (pv 3))) (pa_cons (pe_un un_neg pe_int) pa_nil)))) (pa_cons (pe_tup (pa_cons (pe_op op_add pe_int (pe_op op_mul pe_int (pv 3))) (pa_cons pe_int (pa_cons pe_int pa_nil)))) pa_nil)))) iop_ext)
      (pss_one (ps_for PassesOwn.never rfl (pi_range2 (by rfl) T.b_range (pa_cons (pe_op op_add (pv 3) pe_int) (pa_cons (pe_callB (len_K (K := K)) (by rfl) T.b_len bb_len (pa_cons (pv 0) pa_nil)) pa_nil))) (pg_name (i := 5) sc_arcs_of.nd rfl (Or.inl rfl)) (pss_one (ps_if (pt_cmpR op_eq (pe_cmpR op_ge (pe_ix (ixt_K (K := K)) (pv 0) (pv 5) (fun _ _ => rfl)) (pv 4) (nomark _)) (pv 1) (nomark _)) (pss_one (ps_expr (pe_bm PySem.F.plainAttrs_list PySem.F.slot_list_append PySem.F.type_list_append mt_append (pv 2) (pa_cons (pe_tup (pa_cons (pe_op op_add pe_int (pe_op op_mul pe_int (pv 3))) (pa_cons (pe_op op_add pe_int (pe_op op_mul pe_int (pv 5))) (pa_cons pe_int pa_nil)))) pa_nil)))) pss_nil))))))
      (pss_one (ps_ret (pv 2))))), ?_⟩
  refine ⟨(by show 0 ≤ sizeLine; decide), fun f nf => ?_⟩
  have s0 := same_upd (o := HO.lst []) nf
  refine ⟨_, rfl, a, _, rfl, sameT s0 ha, ?_⟩
  -- found holds the arcs so far
  let Fd : Hp → List Arc → Prop := fun H' as => ∃ ps : List Addr, H' f = some (.lst (ps.map V.ref)) ∧ Paired (fun p a => SqT K H' p (arcV a)) ps as
  have more : ∀ {H1 : Hp} {as bs : List Arc} {qs : List Addr}, Fd H1 as → Paired (fun p a => SqT K H1 p (arcV a)) qs bs → Same H H1 →
      ∃ ps : List Addr, H1 f = some (.lst (ps.map V.ref)) ∧ ps.length = as.length ∧ Fd (upd H1 f (.lst (ps.map V.ref ++ qs.map V.ref))) (as ++ bs) ∧ Same H (upd H1 f (.lst (ps.map V.ref ++ qs.map V.ref))) := by
    intro H1 as bs qs ⟨ps, h1, h2⟩ h3 s1
    refine ⟨ps, h1, Paired.len h2, ⟨ps ++ qs, by rw [upd_same]; simp, ?_⟩, same_new s1 nf⟩
    have e2 := Paired.mapP h2 fun p a h => sqT_upd (o := HO.lst (ps.map V.ref ++ qs.map V.ref)) h1 trivial h
    have e3 := Paired.mapP h3 fun p a h => sqT_upd (o := HO.lst (ps.map V.ref ++ qs.map V.ref)) h1 trivial h
    exact Paired.app e2 e3
  have few : ∀ n, n ≤ ws.length → (arcsTo ws n).length ≤ 400 := fun n hn => by
    have h1 := arcs_len ws n
    have h2 : n * (3 + ws.length) ≤ 16 * 19 := Nat.mul_le_mul (by omega) (by omega)
    omega
  refine for_it (k57_walk_enumT (K := K) (a := a) (xs := ws.map V.int)) (fun i σ H' => ∃ (v3 v4 v5 : Option V), σ = [some (.ref a), some (.bl true), some (.ref f), v3, v4, v5] ∧ Fd H' (arcsTo ws i) ∧ Same H H')
    ⟨none, none, none, rfl, ⟨[], by rw [upd_same]; rfl, .nil⟩, s0⟩ (fun i σ H' _ ⟨_, _, _, _, _, s⟩ => sameT s ha) ?_ ?_
  · rintro i z σ H1 H1' hi ⟨v3, v4, v5, rfl, hF, s1⟩ ⟨t, x, y, rfl, nt, rfl, hx, hy⟩
    cases hx
    obtain ⟨c, hc, rfl⟩ := map_some hy
    have hi' : i < ws.length := by simpa using hi
    have s2 := same_upd (o := HO.tup [.int (i : Int), .int c]) nt
    have hF2 : Fd (upd H1 t (.tup [.int (i : Int), .int c])) (arcsTo ws i) := ArcL.same s2 hF
    have s12 := s1.trans s2
    refine ⟨t, _, rfl, SqT.of upd_same, rfl, _, _, rfl, _, _, rfl, rfl, ?_⟩
    generalize upd H1 t (.tup [.int (i : Int), .int c]) = H2 at s2 s12 hF2
    -- found += [..]
    refine ⟨_, rfl, _, rfl, _, _, rfl, rfl, .inl ⟨by decide, by decide⟩, _, _, rfl, rfl, (by show 3 ≤ sizeLine; decide), fun p1 n1 => ?_⟩
    refine ⟨_, rfl, _, _, rfl, rfl, .inl ⟨by decide, by decide⟩, _, _, rfl, rfl, _, rfl, _, _, rfl, rfl, .inl ⟨by decide, by decide⟩, _, _, rfl, rfl, _, rfl, (by show 3 ≤ sizeLine; decide), fun p2 n2 => ?_⟩
    refine ⟨_, rfl, _, _, rfl, rfl, .inl ⟨by decide, by decide⟩, _, _, rfl, rfl, (by show 3 ≤ sizeLine; decide), fun p3 n3 => ?_⟩
    refine ⟨(by show 3 ≤ sizeLine; decide), fun q nq => ?_⟩
    have t1 := same_upd (o := HO.tup [.int 0, .int (2 + 2 * (i : Int)), .int 0]) n1
    have t2 := same_upd (o := HO.tup [.int (2 + 2 * (i : Int)), .int (3 + 2 * (i : Int)), .int (-1)]) n2
    have t3 := same_upd (o := HO.tup [.int (3 + 2 * (i : Int)), .int 1, .int 0]) n3
    have t4 := same_upd (o := HO.lst [.ref p1, .ref p2, .ref p3]) nq
    have g1 : SqT K _ p1 (arcV (0, 2 + 2 * i, 0)) := sameT (t2.trans (t3.trans t4)) (SqT.of upd_same)
    have g2 : SqT K _ p2 (arcV (2 + 2 * i, 3 + 2 * i, -1)) := sameT (t3.trans t4) (SqT.of upd_same)
    have g3 : SqT K _ p3 (arcV (3 + 2 * i, 1, 0)) := sameT t4 (SqT.of upd_same)
    have s25 := t1.trans (t2.trans (t3.trans t4))
    have hF5 := ArcL.same (K := K) (f := f) s25 hF2
    have hq5 := upd_same (H := upd (upd (upd H2 p1 (HO.tup [.int 0, .int (2 + 2 * (i : Int)), .int 0])) p2 (HO.tup [.int (2 + 2 * (i : Int)), .int (3 + 2 * (i : Int)), .int (-1)])) p3 (HO.tup [.int (3 + 2 * (i : Int)), .int 1, .int 0])) (a := q) (o := HO.lst [.ref p1, .ref p2, .ref p3])
    have s15 := s12.trans s25
    generalize upd (upd (upd (upd H2 p1 (HO.tup [.int 0, .int (2 + 2 * (i : Int)), .int 0])) p2 (HO.tup [.int (2 + 2 * (i : Int)), .int (3 + 2 * (i : Int)), .int (-1)])) p3 (HO.tup [.int (3 + 2 * (i : Int)), .int 1, .int 0])) q (HO.lst [.ref p1, .ref p2, .ref p3]) = H5 at g1 g2 g3 s25 hF5 hq5 s15
    clear t1 t2 t3 t4 n1 n2 n3 nq hF2 s12 s2
    obtain ⟨ps, m1, m2, m3, m4⟩ := more (bs := arcs3 i) (qs := [p1, p2, p3]) hF5 (.cons g1 (.cons g2 (.cons g3 .nil))) s15
    have few1 := few i (by omega)
    refine ⟨f, q, _, _, rfl, rfl, m1, hq5, (by simp; exact line_of (by omega)), ?_⟩
    replace m3 : Fd (upd H5 f (.lst (ps.map V.ref ++ [V.ref p1, V.ref p2, V.ref p3]))) (arcsTo ws i ++ arcs3 i) := m3
    replace m4 : Same H (upd H5 f (.lst (ps.map V.ref ++ [V.ref p1, V.ref p2, V.ref p3]))) := m4
    generalize upd H5 f (.lst (ps.map V.ref ++ [V.ref p1, V.ref p2, V.ref p3])) = H6 at m3 m4 ⊢
    -- for later in range(at + 1, len(word))
    have ha6 := sameT m4 ha
    refine ⟨_, rfl, _, _, rfl, rfl, _, rfl, a, _, rfl, .inr ha6, _, _, rfl, (by simp; omega), ?_⟩
    have en : (((ws.map V.int).length : Int) - ((i : Int) + 1)).toNat = ws.length - (i + 1) := by simp; omega
    rw [en]
    refine for_range (lo := (i : Int) + 1) (n := ws.length - (i + 1)) (fun j σ H' => ∃ v5, σ = [some (.ref a), some (.bl true), some (.ref f), some (.int (i : Int)), some (.int c), v5] ∧ j ≤ ws.length - (i + 1) ∧ Fd H' (arcsTo ws i ++ arcs3 i ++ laters ws i j) ∧ Same H H')
      ⟨v5, rfl, Nat.zero_le _, by simpa [laters] using m3, m4⟩ ?_ ?_
    · rintro j σ H7 hj ⟨v5, rfl, hj', hF7, s7⟩
      have ej : (i : Int) + 1 + (j : Int) = ((i + 1 + j : Nat) : Int) := by omega
      rw [ej]
      have hl2 : i + 1 + j < ws.length := by omega
      have hd2 : (ws.map V.int)[i + 1 + j]? = some (.int (ws.getD (i + 1 + j) 0)) := by simp [List.getD, hl2]
      have hci : ws.getD i 0 = c := by simp only [List.getD, hc, Option.getD_some]
      refine ⟨_, rfl, _, rfl, a, _, _, _, rfl, rfl, sameT s7 ha, atI_nat hd2, _, rfl, _, _, rfl, rfl, _, rfl, rfl, _, rfl, ?_⟩
      have hsum : (arcsTo ws i ++ arcs3 i ++ laters ws i j).length ≤ 1000 := by
        have h1 := few i (by omega)
        have h2 : (laters ws i j).length ≤ j := by
          unfold laters
          rw [List.length_map]
          refine Nat.le_trans (List.length_filter_le _ _) ?_
          rw [List.length_range']
          exact Nat.le_refl _
        simp [arcs3]
        omega
      refine ite2 (fun h => ?_) (fun h => ?_)
      · have h : decide (V.bl (decide (c ≤ ws.getD (i + 1 + j) 0)) = V.bl true) = true := h
        have e : c ≤ ws.getD (i + 1 + j) 0 := by
          have h := of_decide_eq_true h
          injection h with h
          exact of_decide_eq_true h
        refine ⟨_, rfl, ?_⟩
        obtain ⟨ps0, z1, z2⟩ := id hF7
        refine ⟨.inl ⟨rfl, _, SqL.of z1⟩, _, rfl, _, _, rfl, rfl, .inl ⟨by decide, by decide⟩, _, _, rfl, rfl, _, rfl, _, _, rfl, rfl, .inl ⟨by decide, by decide⟩, _, _, rfl, rfl, (by show 3 ≤ sizeLine; decide), fun p np => ?_⟩
        have t1 := same_upd (o := HO.tup [.int (3 + 2 * (i : Int)), .int (2 + 2 * ((i + 1 + j : Nat) : Int)), .int 0]) np
        have g : SqT K _ p (arcV (3 + 2 * i, 2 + 2 * (i + 1 + j), 0)) := SqT.of (upd_same (H := H7) (a := p) (o := HO.tup [.int (3 + 2 * (i : Int)), .int (2 + 2 * ((i + 1 + j : Nat) : Int)), .int 0]))
        obtain ⟨ps, m1, m2, m3, m4⟩ := more (qs := [p]) (ArcL.same (K := K) (f := f) t1 hF7) (.cons g .nil) (s7.trans t1)
        refine ⟨f, _, _, rfl, rfl, m1, (by rw [List.length_map, m2]; exact line_lt (by omega)), ?_⟩
        refine ⟨_, rfl, by omega, ?_, m4⟩
        rw [laters_succ, hci, if_pos e, ← List.append_assoc]
        exact m3
      · have h : ¬ decide (V.bl (decide (c ≤ ws.getD (i + 1 + j) 0)) = V.bl true) = true := h
        have e : ¬ c ≤ ws.getD (i + 1 + j) 0 := fun z => h (by rw [decide_eq_true z]; exact decide_eq_true rfl)
        refine ⟨_, rfl, by omega, ?_, s7⟩
        rw [laters_succ, hci, if_neg e, List.append_nil]
        exact hF7
    · rintro σ H7 ⟨v5, rfl, hj', hF7, s7⟩
      refine ⟨_, _, _, rfl, ?_, s7⟩
      rw [arcsTo_succ]
      unfold arcsAt
      rw [← List.append_assoc]
      exact hF7
  · rintro σ H1 ⟨v3, v4, v5, rfl, hF, s1⟩
    rw [List.length_map] at hF
    exact ⟨_, rfl, k f H1 s1 nf hF⟩
end
end K57
set_option Elab.async false
set_option linter.all false
set_option maxRecDepth 100000
set_option maxHeartbeats 4000000

/-! Walks: least costs. -/
namespace K57
open PySem PySem.Spec PyProof.Rows L2
local macro_rules | `(tactic| walk_at "k57g") => `(tactic| repeat (first | refine ⟨_, rfl, ?_⟩ | refine ⟨_, _, rfl, rfl, ?_⟩ | refine ⟨_, _, rfl, rfl, _, rfl, ?_⟩))
local macro_rules | `(tactic| walk_at "k57len") => `(tactic| (intro h; first | (obtain ⟨e, _⟩ := h; subst e; rfl) | (obtain ⟨_, e, _⟩ := h; subst e; rfl) | (obtain ⟨_, _, e, _⟩ := h; subst e; rfl) | (obtain ⟨_, _, _, e, _⟩ := h; subst e; rfl) | (obtain ⟨_, _, _, _, e, _⟩ := h; subst e; rfl) | (obtain ⟨_, _, _, _, _, e, _⟩ := h; subst e; rfl) | (obtain ⟨_, _, _, _, _, _, e, _⟩ := h; subst e; rfl) | (obtain ⟨_, _, _, _, _, _, _, e, _⟩ := h; subst e; rfl) | (obtain ⟨_, _, _, _, _, _, _, _, e, _⟩ := h; subst e; rfl)))

theorem flat_rep {α : Type} (n : Nat) (x : α) : (List.replicate n [x]).flatten = List.replicate n x := by
  induction n with
  | zero => rfl
  | succ n ih => rw [List.replicate_succ, List.flatten_cons, ih]; rfl
theorem cost_at {cs : List Int} {v : Nat} (h : v < cs.length) : (cs.map V.int)[v]? = some (.int (cost cs v)) := by
  simp [cost, List.getD, h]
theorem if_two {t : TT} {ta tb : TE} {σ : L2.St} {H : Hp} {Q : VK} (c : Bool) (R : V → Hp → Prop) (ht : ∀ N : Bool → Hp → Prop, N c H → t σ H N)
    (ha : c = true → ∀ N : VK, (∀ v H', R v H' → N v H') → ta σ H N) (hb : c = false → ∀ N : VK, (∀ v H', R v H' → N v H') → tb σ H N) (q : ∀ v H', R v H' → Q v H') : tIf t ta tb σ H Q := by
  refine ht _ ?_
  cases c with
  | true =>
    show if true = true then ta σ H Q else tb σ H Q
    rw [if_pos rfl]
    exact ha rfl Q q
  | false =>
    show if false = true then ta σ H Q else tb σ H Q
    rw [if_neg (by decide)]
    exact hb rfl Q q
section
variable {P : Program} {w : World} {K : PySem.W.Frag} {mg : Str → Option Value} {base : Heap}
def spLeast (K : PySem.W.Frag) : Sp := fun vs H Q _ => ∃ (af gf : Addr) (ws : List Int) (f : List Bool), vs = [.ref af, .ref gf, .int ((2 * ws.length + 2 : Nat) : Int)] ∧ ArcL K H af (arcsOf ws) ∧ H gf = some (.lst (flowV f)) ∧ f.length = (arcsOf ws).length ∧ ws.length ≤ 16 ∧
  (∃ π, Feas (arcsOf ws) f π) ∧ ∀ (p c y : Addr) (cs : List Int) (ys : Ways) (H' : Hp), Same H H' → H c = none → H y = none → H' p = some (.tup [.ref c, .ref y]) → H' c = some (.lst (cs.map V.int)) → H' y = some (.lst (ys.map wayV)) → Least ws f cs ys → Q (.ref p) H'
theorem ok_least_costs (T : Txt K mg) : OKf P w K mg base 1 "least_costs" ["arcs", "flow", "many"] (spLeast K) := by
  refine T.f_least_costs.F.ok sc_least_costs (fun vs H Q E => by clear T; walk_at "k57len") (fun cdv A outer s H vs Q E hr h => ?_)
  obtain ⟨af, gf, ws, f, rfl, ha, hg, hfl, hl, ⟨π, fe⟩, k⟩ := h
  refine ⟨_, PSs.nox (pss_cons (ps_par3 (i := 3) (j := 4) (l := 5) rfl sc_least_costs.nd rfl rfl rfl (by decide) (by decide) (by decide) rfl rfl rfl (pa_cons (pe_op op_cat (pe_lst (pa_cons pe_int pa_nil)) (pe_op op_rep (pe_lst (pa_cons (pe_glob (v := .int 1000000) rfl T.c_FAR.choose_spec ⟨_, rfl⟩) pa_nil)) (pe_op op_sub (pv 2) pe_int))) (pa_cons (pe_op op_rep (pe_lst (pa_cons pe_non pa_nil)) (pv 2)) (pa_cons pe_bl pa_nil))) (by rfl))
      (pss_cons (ps_while PassesOwn.never (pt_val (pv 5)) (pss_cons (ps_set (i := 5) sc_least_costs.nd rfl (Or.inl rfl) pe_bl)
      (pss_one (ps_for PassesOwn.never rfl (pi_enum (by rfl) T.b_enumerate (pa_cons (pv 0) pa_nil)) (pg_tup rfl (pgs_cons (pg_name (i := 6) sc_least_costs.nd rfl (Or.inl rfl)) (pgs_cons (pg_tup rfl (pgs_cons (pg_name (i := 7) sc_least_costs.nd rfl (Or.inl rfl)) (pgs_cons (pg_name (i := 8) sc_least_costs.nd rfl (Or.inl rfl)) (pgs_cons (pg_name (i := 9) sc_least_costs.nd rfl (Or.inl rfl)) pgs_nil)))) pgs_nil))) (pss_cons (ps_asg (pe_ifExp (pt_cmpR op_eq (pe_ix (ixl_K (K := K)) (pv 1) (pv 6) (fun _ _ => rfl)) pe_int (nomark _)) (pe_tup (pa_cons (pv 7) (pa_cons (pv 8) (pa_cons (pv 9) pa_nil)))) (pe_tup (pa_cons (pv 8) (pa_cons (pv 7) (pa_cons (pe_op op_sub pe_int (pv 9)) pa_nil))))) (pg_tup rfl (pgs_cons (pg_name (i := 10) sc_least_costs.nd rfl (Or.inl rfl)) (pgs_cons (pg_name (i := 11) sc_least_costs.nd rfl (Or.inl rfl)) (pgs_cons (pg_name (i := 12) sc_least_costs.nd rfl (Or.inl rfl)) pgs_nil)))))
      (pss_one (ps_if (PW.pt (pw_and (pt_cmpR op_lt (pe_ix (ixl_K (K := K)) (pv 3) (pv 10) (fun _ _ => rfl)) (pe_glob (v := .int 1000000) rfl T.c_FAR.choose_spec ⟨_, rfl⟩) (nomark _)) (pw_and1 (pt_cmpR op_lt (pe_op op_add (pe_ix (ixl_K (K := K)) (pv 3) (pv 10) (fun _ _ => rfl)) (pv 12)) (pe_ix (ixl_K (K := K)) (pv 3) (pv 11) (fun _ _ => rfl)) (nomark _))))) (pss_one (ps_asg (pe_tup (pa_cons (pe_op op_add (pe_ix (ixl_K (K := K)) (pv 3) (pv 10) (fun _ _ => rfl)) (pv 12)) (pa_cons (pv 6) (pa_cons pe_bl pa_nil)))) (pg_tup rfl (pgs_cons (pg_sub (pv 3) (pv 11) set_list) (pgs_cons (pg_sub (pv 4) (pv 11) set_list) (pgs_cons (pg_name (i := 5) sc_least_costs.nd rfl (Or.inl rfl)) pgs_nil)))))) pss_nil)))))))
      (pss_one (ps_ret (pe_tup (pa_cons (pv 3) (pa_cons (pv 4) pa_nil))))))), ?_⟩
  have few := arcs_few hl
  -- costs, ways, is_open = [0] + [FAR] * (many - 1), [None] * many, True
  refine ⟨(by show 1 ≤ sizeLine; decide), fun p1 n1 => ⟨(by show 1 ≤ sizeLine; decide), fun p2 n2 => ?_⟩⟩
  refine ⟨_, rfl, _, _, rfl, rfl, p2, _, _, rfl, rfl, upd_same, by omega, by omega, line_of (by simp; omega), fun p3 n3 => ?_⟩
  have t1 := same_upd (o := HO.lst [.int 0]) n1
  have t2 := same_upd (o := HO.lst [.int 1000000]) n2
  have t3 := same_upd (o := HO.lst (List.replicate (((2 * ws.length + 2 : Nat) : Int) - 1).toNat [V.int 1000000]).flatten) n3
  refine ⟨p1, p3, _, _, rfl, rfl, (t2.trans t3) _ _ upd_same, upd_same, line_of (by rw [flat_rep]; simp; omega), fun c nc => ?_⟩
  refine ⟨(by show 1 ≤ sizeLine; decide), fun p4 n4 => ⟨_, rfl, p4, _, _, rfl, rfl, upd_same, by omega, by omega, line_of (by simp; omega), fun y ny => ⟨_, _, _, rfl, ?_⟩⟩⟩
  have t4 := same_upd (o := HO.lst ([V.int 0] ++ (List.replicate (((2 * ws.length + 2 : Nat) : Int) - 1).toNat [V.int 1000000]).flatten)) nc
  have t5 := same_upd (o := HO.lst [V.non]) n4
  have t6 := same_upd (o := HO.lst (List.replicate (((2 * ws.length + 2 : Nat) : Int)).toNat [V.non]).flatten) ny
  have s123 := t1.trans (t2.trans t3)
  have hcn : H c = none := s123.free nc
  have hyn : H y = none := (s123.trans (t4.trans t5)).free ny
  have ncy : c ≠ y := ne_of_none (t5 _ _ upd_same) ny
  have s6 := s123.trans (t4.trans (t5.trans t6))
  have hc6 := (t5.trans t6) _ _ upd_same
  have hy6 := upd_same (H := upd (upd (upd (upd (upd H p1 (.lst [.int 0])) p2 (.lst [.int 1000000])) p3 (.lst (List.replicate (((2 * ws.length + 2 : Nat) : Int) - 1).toNat [V.int 1000000]).flatten)) c (.lst ([V.int 0] ++ (List.replicate (((2 * ws.length + 2 : Nat) : Int) - 1).toNat [V.int 1000000]).flatten))) p4 (.lst [V.non])) (a := y) (o := HO.lst (List.replicate (((2 * ws.length + 2 : Nat) : Int)).toNat [V.non]).flatten)
  generalize upd (upd (upd (upd (upd (upd H p1 (.lst [.int 0])) p2 (.lst [.int 1000000])) p3 (.lst (List.replicate (((2 * ws.length + 2 : Nat) : Int) - 1).toNat [V.int 1000000]).flatten)) c (.lst ([V.int 0] ++ (List.replicate (((2 * ws.length + 2 : Nat) : Int) - 1).toNat [V.int 1000000]).flatten))) p4 (.lst [V.non])) y (.lst (List.replicate (((2 * ws.length + 2 : Nat) : Int)).toNat [V.non]).flatten) = H6 at s6 hc6 hy6 ⊢
  have ec : [V.int 0] ++ (List.replicate (((2 * ws.length + 2 : Nat) : Int) - 1).toNat [V.int 1000000]).flatten = (0 :: List.replicate (2 * ws.length + 2 - 1) far).map V.int := by
    rw [flat_rep, show (((2 * ws.length + 2 : Nat) : Int) - 1).toNat = 2 * ws.length + 2 - 1 by omega]
    simp
  have ey : (List.replicate (((2 * ws.length + 2 : Nat) : Int)).toNat [V.non]).flatten = (List.replicate (2 * ws.length + 2) (none : Option Nat)).map wayV := by
    rw [flat_rep, show (((2 * ws.length + 2 : Nat) : Int)).toNat = 2 * ws.length + 2 by omega]
    simp [wayV]
  rw [ec] at hc6
  rw [ey] at hy6
  clear t1 t2 t3 t4 t5 t6 n1 n2 n3 nc n4 ny s123 ec ey
  obtain ⟨B, hB⟩ := below (2 * ws.length + 2) π
  obtain ⟨ps, hps, hpa⟩ := ha
  have hpl := Paired.len hpa
  -- while is_open
  refine ⟨fun m σ H' => ∃ (cs : List Int) (ys : Ways) (o : Bool) (v6 v7 v8 v9 v10 v11 v12 : Option V), σ = [some (.ref af), some (.ref gf), some (.int ((2 * ws.length + 2 : Nat) : Int)), some (.ref c), some (.ref y), some (.bl o), v6, v7, v8, v9, v10, v11, v12] ∧
      H' c = some (.lst (cs.map V.int)) ∧ H' y = some (.lst (ys.map wayV)) ∧ BF (arcsOf ws) f (2 * ws.length + 2) π cs ys ∧ (o = false → Closed (arcsOf ws) f cs) ∧ Same H H' ∧ m = meas B cs + (if o then 1 else 0),
    ⟨_, _, _, true, none, none, none, none, none, none, none, rfl, hc6, hy6, BF.start _ _ (by omega) π, (fun z => by cases z), s6, rfl⟩, ?_⟩
  rintro m σ H1 ⟨cs, ys, o, v6, v7, v8, v9, v10, v11, v12, rfl, hc1, hy1, BF1, hcl, s1, rfl⟩
  refine ⟨_, rfl, _, rfl, ?_⟩
  cases o with
  | false =>
    refine iteF ?_
    -- return costs, ways
    refine ⟨_, rfl, _, rfl, (by show 2 ≤ sizeLine; decide), fun p np => ?_⟩
    have s2 := same_upd (o := HO.tup [.ref c, .ref y]) np
    exact k p c y cs ys _ (s1.trans s2) hcn hyn upd_same (s2 _ _ hc1) (s2 _ _ hy1) ⟨⟨π, fe, BF1⟩, hcl rfl⟩
  | true =>
    refine iteT ⟨_, fun σ' H' h => h, ?_⟩
    -- is_open = False; for k, (first, last, cost) in enumerate(arcs)
    refine ⟨_, rfl, af, _, rfl, SqL.of (s1 _ _ hps), ?_⟩
    refine for_it (walk_enum (K := K) (a := af) (xs := ps.map V.ref)) (fun j σ H' => ∃ (cs' : List Int) (ys' : Ways) (o : Bool) (v6 v7 v8 v9 v10 v11 v12 : Option V), σ = [some (.ref af), some (.ref gf), some (.int ((2 * ws.length + 2 : Nat) : Int)), some (.ref c), some (.ref y), some (.bl o), v6, v7, v8, v9, v10, v11, v12] ∧
        H' c = some (.lst (cs'.map V.int)) ∧ H' y = some (.lst (ys'.map wayV)) ∧ BF (arcsOf ws) f (2 * ws.length + 2) π cs' ys' ∧ Same H H' ∧
        (o = false → cs' = cs ∧ ∀ (i : Nat) (a : Arc) (b : Bool), i < j → (arcsOf ws)[i]? = some a → f[i]? = some b → cost cs (resid a b).1 < far → cost cs (resid a b).2.1 ≤ cost cs (resid a b).1 + (resid a b).2.2) ∧
        (o = true → meas B cs' < meas B cs))
      ⟨cs, ys, false, v6, v7, v8, v9, v10, v11, v12, rfl, hc1, hy1, BF1, s1, fun _ => ⟨rfl, fun i a b h => absurd h (Nat.not_lt_zero i)⟩, fun z => by cases z⟩
      (fun i σ H' _ ⟨_, _, _, _, _, _, _, _, _, _, _, _, _, _, s, _⟩ => SqL.of (s _ _ hps)) ?_ ?_
    · rintro i z σ H2 H2' hi ⟨cs', ys', o, v6, v7, v8, v9, v10, v11, v12, rfl, hc2, hy2, BF2, s2, hof, hot⟩ ⟨t, x, q, rfl, nt, rfl, hx, hq⟩
      cases hx
      obtain ⟨p, hpi, rfl⟩ := map_some hq
      obtain ⟨a, hai, hap⟩ := Paired.at' hpa hpi
      have hif : i < f.length := by rw [hfl]; exact (List.getElem?_eq_some_iff.mp hai).1
      have hbi : f[i]? = some f[i] := List.getElem?_eq_getElem hif
      generalize f[i] = b at hbi
      have s3 := same_upd (o := HO.tup [.int (i : Int), .ref p]) nt
      have hT := upd_same (H := H2) (a := t) (o := HO.tup [.int (i : Int), .ref p])
      have s23 := s2.trans s3
      have hc3 := s3 _ _ hc2
      have hy3 := s3 _ _ hy2
      generalize upd H2 t (HO.tup [.int (i : Int), .ref p]) = H3 at s3 hT s23 hc3 hy3 ⊢
      have hap3 : SqT K H3 p (arcV a) := sameT s23 hap
      have hg3 := s23 _ _ hg
      have hbv : (flowV f)[i]? = some (.int (if b then 1 else 0)) := by simp [flowV, hbi]
      refine ⟨t, _, rfl, SqT.of hT, rfl, _, _, rfl, _, _, rfl, ⟨p, _, rfl, hap3, rfl, _, _, rfl, _, _, rfl, _, _, rfl, rfl, rfl, ?_⟩⟩
      -- start, goal, price
      clear hT hap
      refine if_two (!b) (fun v H4 => ∃ u, v = .ref u ∧ Same H3 H4 ∧ SqT K H4 u (arcV (resid a b))) (fun N hn => ?_) (fun e N hn => ?_) (fun e N hn => ?_) ?_
      · refine ⟨_, rfl, _, rfl, gf, _, _, _, rfl, rfl, SqL.of hg3, atI_nat hbv, ?_⟩
        refine ⟨rfl, _, rfl, ?_⟩
        cases b <;> exact hn
      · cases b with
        | true => cases e
        | false =>
          refine ⟨_, rfl, _, rfl, _, rfl, (by show 3 ≤ sizeLine; decide), fun u nu => hn _ _ ⟨u, rfl, same_upd nu, SqT.of upd_same⟩⟩
      · cases b with
        | false => cases e
        | true =>
          refine ⟨_, rfl, _, rfl, _, rfl, _, _, rfl, rfl, (by show 3 ≤ sizeLine; decide), fun u nu => hn _ _ ⟨u, rfl, same_upd nu, SqT.of upd_same⟩⟩
      rintro _ H4 ⟨u, rfl, s4, hu4⟩
      have pr := price_le (b := b) hai
      have nl := node_lt (b := b) hai
      have s24 := s23.trans s4
      have hc4 := s4 _ _ hc3
      have hy4 := s4 _ _ hy3
      have lc := BF2.lc
      have hst : ∀ (v6 v7 v8 v9 v10 v11 v12 : Option V), [some (.ref af), some (.ref gf), some (.int ((2 * ws.length + 2 : Nat) : Int)), some (.ref c), some (.ref y), some (.bl o), v6, v7, v8, v9, v10, v11, v12] = [some (.ref af), some (.ref gf), some (.int ((2 * ws.length + 2 : Nat) : Int)), some (.ref c), some (.ref y), some (.bl o), v6, v7, v8, v9, v10, v11, v12] := fun _ _ _ _ _ _ _ => rfl
      refine ⟨u, _, rfl, hu4, rfl, _, _, rfl, _, _, rfl, _, _, rfl, rfl, ?_⟩
      have keep : ¬ (cost cs' (resid a b).1 < far ∧ cost cs' (resid a b).1 + (resid a b).2.2 < cost cs' (resid a b).2.1) → (o = false → cs' = cs ∧ ∀ (j : Nat) (a : Arc) (b : Bool), j < i + 1 → (arcsOf ws)[j]? = some a → f[j]? = some b → cost cs (resid a b).1 < far → cost cs (resid a b).2.1 ≤ cost cs (resid a b).1 + (resid a b).2.2) := by
        intro hno ho
        obtain ⟨e1, e2⟩ := hof ho
        subst e1
        refine ⟨rfl, fun j a' b' hj ha' hb' hlt => ?_⟩
        by_cases hji : j < i
        · exact e2 j a' b' hji ha' hb' hlt
        · have : j = i := by omega
          subst this
          rw [hai] at ha'
          rw [hbi] at hb'
          cases ha'
          cases hb'
          by_cases hh : cost cs' (resid a b).1 + (resid a b).2.2 < cost cs' (resid a b).2.1
          · exact absurd ⟨hlt, hh⟩ hno
          · omega
      generalize hr0 : resid a b = r at *
      obtain ⟨s, g, pr0⟩ := r
      dsimp only at *
      have c1 := cost_at (cs := cs') (v := s) (by omega)
      have c2 := cost_at (cs := cs') (v := g) (by omega)
      refine ⟨_, rfl, _, rfl, c, _, _, _, rfl, rfl, SqL.of hc4, atI_nat c1, _, _, rfl, rfl, _, rfl, ?_⟩
      refine ite2 (fun h1 => ?_) (fun h1 => ?_)
      · have h1 : cost cs' s < far := of_decide_eq_true h1
        refine ⟨_, rfl, _, rfl, c, _, _, _, rfl, rfl, SqL.of hc4, atI_nat c1, _, rfl, _, _, rfl, rfl, _, rfl, _, rfl, c, _, _, _, rfl, rfl, SqL.of hc4, atI_nat c2, _, _, rfl, rfl, _, rfl, ?_⟩
        refine ite2 (fun h2 => ?_) (fun h2 => ?_)
        · have h2 : cost cs' s + pr0 < cost cs' g := of_decide_eq_true h2
          refine ⟨_, rfl, _, rfl, c, _, _, _, rfl, rfl, SqL.of hc4, atI_nat c1, _, rfl, _, _, rfl, rfl, _, rfl, (by show 3 ≤ sizeLine; decide), fun q nq => ?_⟩
          have s5 := same_upd (o := HO.tup [.int (cost cs' s + pr0), .int (i : Int), .bl true]) nq
          have hq5 := upd_same (H := H4) (a := q) (o := HO.tup [.int (cost cs' s + pr0), .int (i : Int), .bl true])
          have s25 := s24.trans s5
          have hc5 := s5 _ _ hc4
          have hy5 := s5 _ _ hy4
          generalize upd H4 q (HO.tup [.int (cost cs' s + pr0), .int (i : Int), .bl true]) = H5 at hq5 s25 hc5 hy5 ⊢
          refine ⟨q, _, rfl, SqT.of hq5, rfl, _, _, rfl, _, rfl, _, rfl, c, _, _, _, rfl, rfl, hc5, ixN_at (by rw [List.length_map]; omega), ?_⟩
          have hy6 : (upd H5 c (.lst ((cs'.map V.int).set g (.int (cost cs' s + pr0))))) y = some (.lst (ys'.map wayV)) := by
            rw [upd_ne (Ne.symm ncy)]
            exact hy5
          refine ⟨_, _, rfl, _, rfl, _, rfl, y, _, _, _, rfl, rfl, hy6, ixN_at (by rw [List.length_map, BF2.lw]; omega), _, _, rfl, rfl, ?_⟩
          have B3 := BF2.relax fe hai hbi (by rw [hr0]; exact nl.2) (by rw [hr0]; exact pr) (by rw [hr0]; exact h1) (by rw [hr0]; exact h2)
          have M3 := BF2.meas fe hai hbi (by rw [hr0]; exact nl.2) (by rw [hr0]; exact h1) (by rw [hr0]; exact h2) hB
          rw [hr0] at B3 M3
          refine ⟨_, _, true, _, _, _, _, _, _, _, rfl, ?_, ?_, B3, same_new (same_new s25 hcn) hyn, (fun z => by cases z), fun _ => ?_⟩
          · rw [upd_ne ncy, upd_same, List.map_set]
          · rw [upd_same, List.map_set]
            rfl
          · cases o with
            | false => rw [← (hof rfl).1]; exact M3
            | true => exact Nat.lt_trans M3 (hot rfl)
        · have h2 : ¬ cost cs' s + pr0 < cost cs' g := fun z => h2 (decide_eq_true z)
          exact ⟨cs', ys', o, _, _, _, _, _, _, _, rfl, hc4, hy4, BF2, s24, keep (fun z => h2 z.2), hot⟩
      · have h1 : ¬ cost cs' s < far := fun z => h1 (decide_eq_true z)
        refine iteF ?_
        exact ⟨cs', ys', o, _, _, _, _, _, _, _, rfl, hc4, hy4, BF2, s24, keep (fun z => h1 z.1), hot⟩
    · rintro σ H2 ⟨cs', ys', o, v6, v7, v8, v9, v10, v11, v12, rfl, hc2, hy2, BF2, s2, hof, hot⟩
      cases o with
      | true => exact ⟨_, by show meas B cs' + 1 < meas B cs + 1; have := hot rfl; omega, cs', ys', true, _, _, _, _, _, _, _, rfl, hc2, hy2, BF2, (fun z => by cases z), s2, rfl⟩
      | false =>
        obtain ⟨e, cl⟩ := hof rfl
        subst e
        refine ⟨_, by show meas B cs' + 0 < meas B cs' + 1; omega, cs', ys', false, _, _, _, _, _, _, _, rfl, hc2, hy2, BF2, (fun _ i a b ha hb => cl i a b ?_ ha hb), s2, rfl⟩
        rw [List.length_map, hpl]
        exact (List.getElem?_eq_some_iff.mp ha).1
end
end K57
set_option Elab.async false
set_option linter.all false
set_option maxRecDepth 100000
set_option maxHeartbeats 4000000

/-! Walks: the best flow. -/
namespace K57
open PySem PySem.Spec PyProof.Rows L2
local macro_rules | `(tactic| walk_at "k57g") => `(tactic| repeat (first | refine ⟨_, rfl, ?_⟩ | refine ⟨_, _, rfl, rfl, ?_⟩ | refine ⟨_, _, rfl, rfl, _, rfl, ?_⟩))
local macro_rules | `(tactic| walk_at "k57len") => `(tactic| (intro h; first | (obtain ⟨e, _⟩ := h; subst e; rfl) | (obtain ⟨_, e, _⟩ := h; subst e; rfl) | (obtain ⟨_, _, e, _⟩ := h; subst e; rfl) | (obtain ⟨_, _, _, e, _⟩ := h; subst e; rfl) | (obtain ⟨_, _, _, _, e, _⟩ := h; subst e; rfl) | (obtain ⟨_, _, _, _, _, e, _⟩ := h; subst e; rfl) | (obtain ⟨_, _, _, _, _, _, e, _⟩ := h; subst e; rfl) | (obtain ⟨_, _, _, _, _, _, _, e, _⟩ := h; subst e; rfl) | (obtain ⟨_, _, _, _, _, _, _, _, e, _⟩ := h; subst e; rfl)))

section
variable {P : Program} {w : World} {K : PySem.W.Frag} {mg : Str → Option Value} {base : Heap}
theorem way_at {ys : Ways} {v : Nat} {r : Option Nat} (h : ys[v]? = some r) : (ys.map wayV)[v]? = some (wayV r) := by
  rw [List.getElem?_map, h]
  rfl
def spFlow (K : PySem.W.Frag) : Sp := fun vs H Q _ => ∃ (af : Addr) (ws : List Int) (many : Nat), vs = [.ref af, .int ((2 * ws.length + 2 : Nat) : Int), .int (many : Int)] ∧ ArcL K H af (arcsOf ws) ∧ ws.length ≤ 16 ∧ many ≤ 1000 ∧
  ∀ (gf : Addr) (f : List Bool) (H' : Hp), Same H H' → H gf = none → H' gf = some (.lst (flowV f)) → f.length = (arcsOf ws).length → Best ws f many → Q (.ref gf) H'
theorem ok_best_flow (T : Txt K mg) : OKf P w K mg base 2 "best_flow" ["arcs", "nodes", "many"] (spFlow K) := by
  refine T.f_best_flow.F.ok sc_best_flow (fun vs H Q E => by clear T; walk_at "k57len") (fun cdv A outer s H vs Q E hr h => ?_)
  obtain ⟨af, ws, many, rfl, ha, hl, hm, k⟩ := h
  refine ⟨_, PSs.nox (pss_cons (ps_set (i := 3) sc_best_flow.nd rfl (Or.inl rfl) (pe_op op_rep (pe_lst (pa_cons pe_int pa_nil)) (pe_callB (len_K (K := K)) (by rfl) T.b_len bb_len (pa_cons (pv 0) pa_nil))))
      (pss_cons (ps_for PassesOwn.never rfl (pi_range1 (by rfl) T.b_range (pa_cons (pv 2) pa_nil)) (pg_name (i := 4) sc_best_flow.nd rfl (Or.inl rfl)) (pss_cons (ps_asg (pe_call (ok_least_costs T) (hr.mono (by decide)) rfl T.f_least_costs.g T.f_least_costs.F.kp T.f_least_costs.b .nil pass0 (pa_cons (pv 0) (pa_cons (pv 3) (pa_cons (pv 1) pa_nil)))) (pg_tup rfl (pgs_cons (pg_name (i := 5) sc_best_flow.nd rfl (Or.inl rfl)) (pgs_cons (pg_name (i := 6) sc_best_flow.nd rfl (Or.inl rfl)) pgs_nil))))
      (pss_cons (ps_if (pt_cmpR op_ge (pe_ix (ixl_K (K := K)) (pv 5) pe_int (fun _ _ => rfl)) pe_int (nomark _)) (pss_one (ps_ret (pv 3))) pss_nil)
      (pss_cons (ps_set (i := 7) sc_best_flow.nd rfl (Or.inl rfl) pe_int)
      (pss_one (ps_while PassesOwn.never (pt_cmpR op_ne (pv 7) pe_int (nomark _)) (pss_cons (ps_set (i := 8) sc_best_flow.nd rfl (Or.inl rfl) (pe_ix (ixl_K (K := K)) (pv 6) (pv 7) (fun _ _ => rfl)))
      (pss_cons (ps_asg (pe_ix (ixl_K (K := K)) (pv 0) (pv 8) (fun _ _ => rfl)) (pg_tup rfl (pgs_cons (pg_name (i := 9) sc_best_flow.nd rfl (Or.inl rfl)) (pgs_cons (pg_name (i := 10) sc_best_flow.nd rfl (Or.inl rfl)) (pgs_cons (pg_name (i := 11) sc_best_flow.nd rfl (Or.inl rfl)) pgs_nil)))))
      (pss_cons (ps_set (i := 7) sc_best_flow.nd rfl (Or.inl rfl) (pe_ifExp (pt_cmpR op_eq (pe_ix (ixl_K (K := K)) (pv 3) (pv 8) (fun _ _ => rfl)) pe_int (nomark _)) (pv 9) (pv 10)))
      (pss_one (ps_asg (pe_op op_sub pe_int (pe_ix (ixl_K (K := K)) (pv 3) (pv 8) (fun _ _ => rfl))) (pg_sub (pv 3) (pv 8) set_list))))))))))))
      (pss_one (ps_ret (pv 3))))), ?_⟩
  have few := arcs_few hl
  obtain ⟨ps, hps, hpa⟩ := ha
  have hpl := Paired.len hpa
  -- flow = [0] * len(arcs)
  refine ⟨(by show 1 ≤ sizeLine; decide), fun p1 n1 => ?_⟩
  have t1 := same_upd (o := HO.lst [.int 0]) n1
  refine ⟨_, rfl, af, _, rfl, .inl (SqL.of (t1 _ _ hps)), p1, _, _, rfl, rfl, upd_same, by omega, by rw [List.length_map]; omega, line_of (by simp; omega), fun gf ng => ?_⟩
  rw [flat_rep, show (((ps.map V.ref).length : Nat) : Int).toNat = (arcsOf ws).length by rw [List.length_map, hpl]; simp]
  have t2 := same_upd (o := HO.lst (List.replicate (arcsOf ws).length (V.int 0))) ng
  have s0 := t1.trans t2
  have hng : H gf = none := t1.free ng
  have hg0 : (upd (upd H p1 (.lst [.int 0])) gf (.lst (List.replicate (arcsOf ws).length (V.int 0)))) gf = some (.lst (flowV (List.replicate (arcsOf ws).length false))) := by
    rw [upd_same]
    simp [flowV]
  generalize upd (upd H p1 (.lst [.int 0])) gf (.lst (List.replicate (arcsOf ws).length (V.int 0))) = H0 at s0 hg0 ⊢
  -- for lap in range(many)
  refine ⟨_, rfl, _, rfl, by omega, by omega, ?_⟩
  rw [show ((many : Int)).toNat = many by omega]
  refine for_range (lo := 0) (n := many) (fun i σ H' => ∃ (f : List Bool) (v4 v5 v6 v7 v8 v9 v10 v11 : Option V), σ = [some (.ref af), some (.int ((2 * ws.length + 2 : Nat) : Int)), some (.int (many : Int)), some (.ref gf), v4, v5, v6, v7, v8, v9, v10, v11] ∧
      H' gf = some (.lst (flowV f)) ∧ Flow ws f i ∧ Same H H')
    ⟨_, none, none, none, none, none, none, none, none, rfl, hg0, flow_start ws, s0⟩ ?_ ?_
  · rintro i σ H1 hi ⟨f, v4, v5, v6, v7, v8, v9, v10, v11, rfl, hg1, F1, s1⟩
    -- costs, ways = least_costs(arcs, flow, nodes)
    refine ⟨_, rfl, _, rfl, _, rfl, af, gf, ws, f, rfl, ⟨ps, s1 _ _ hps, Paired.mapP hpa fun p a h => sameT s1 h⟩, hg1, F1.len, hl, (by obtain ⟨π, h, _⟩ := F1.feas; exact ⟨π, h⟩), ?_⟩
    intro p c y cs ys H2 s2 nc ny hp2 hc2 hy2 L
    have s12 := s1.trans s2
    have hg2 := s2 _ _ hg1
    obtain ⟨π0, fe0, B0⟩ := L.ex
    refine ⟨p, _, rfl, SqT.of hp2, rfl, _, _, rfl, _, _, rfl, rfl, ?_⟩
    -- if costs[1] >= 0: return flow
    have c1 := cost_at (cs := cs) (v := 1) (by rw [B0.lc]; omega)
    refine ⟨_, rfl, c, _, _, _, rfl, rfl, SqL.of hc2, atI_nat c1, _, _, rfl, rfl, _, rfl, ?_⟩
    refine ite2 (fun h => ?_) (fun h => ?_)
    · have h : 0 ≤ cost cs 1 := of_decide_eq_true h
      exact ⟨_, rfl, k gf f H2 s12 hng hg2 F1.len (best_stop (by omega) (by omega) F1 L h)⟩
    · have h : cost cs 1 < 0 := by
        have h : ¬ 0 ≤ cost cs 1 := fun z => h (decide_eq_true z)
        omega
      obtain ⟨π, q0, q1, bk, hw⟩ := walk_start (by omega) L h
      clear B0 fe0
      have ng2 : gf ≠ y := ne_of_none hg1 ny
      -- while node != 0
      refine ⟨fun m σ H' => ∃ (v : Nat) (g : List Bool) (L : List Nat) (v8 v9 v10 v11 : Option V), σ = [some (.ref af), some (.int ((2 * ws.length + 2 : Nat) : Int)), some (.int (many : Int)), some (.ref gf), some (.int ((0 : Int) + (i : Int))), some (.ref c), some (.ref y), some (.int (v : Int)), v8, v9, v10, v11] ∧
        H' gf = some (.lst (flowV g)) ∧ H' y = some (.lst (ys.map wayV)) ∧ Same H H' ∧ Back (arcsOf ws) f ys π v g ∧ Way (arcsOf ws) f ys v L ∧ m = L.length, ?_, ?_⟩
      · obtain ⟨L0, W0, _⟩ := bk.way
        exact ⟨_, 1, f, L0, _, _, _, _, rfl, hg2, hy2, s12, bk, W0, rfl⟩
      · rintro m σ H3 ⟨v, g, L0, v8, v9, v10, v11, rfl, hg3, hy3, s3, bk3, W0, rfl⟩
        refine ⟨_, rfl, rfl, _, rfl, ?_⟩
        refine ite2 (fun h => ?_) (fun h => ?_)
        · have v0 : v ≠ 0 := by
            rintro rfl
            exact absurd h (by decide)
          cases W0 with
          | nil => exact absurd rfl v0
          | @cons _ kk a b L2 _ hk hai hbi hga w2 =>
            refine ⟨_, fun σ' H' h => h, ?_⟩
            have hif : kk < (arcsOf ws).length := (List.getElem?_eq_some_iff.mp hai).1
            -- k = ways[node]
            refine ⟨_, rfl, _, rfl, y, _, _, _, rfl, rfl, SqL.of hy3, atI_nat (way_at hk), ?_⟩
            -- first, last, cost = arcs[k]
            obtain ⟨p, hpi, hap⟩ := Paired.at hpa hai
            have hap3 := sameT s3 hap
            refine ⟨_, rfl, _, rfl, af, _, _, _, rfl, rfl, SqL.of (s3 _ _ hps), atI_nat (by rw [List.getElem?_map, hpi]; rfl), ?_⟩
            refine ⟨p, _, rfl, hap3, rfl, _, _, rfl, _, _, rfl, _, _, rfl, rfl, ?_⟩
            obtain ⟨a', b', hai', hbi', hga', tight⟩ := hw v kk hk
            rw [hai] at hai'
            rw [hbi] at hbi'
            cases hai'
            cases hbi'
            obtain ⟨hgk, bk4⟩ := bk3.turn v0 hk hai hbi tight
            have hgv : (flowV g)[kk]? = some (.int (if b then 1 else 0)) := by simp [flowV, hgk]
            -- node = first if flow[k] == 0 else last
            dsimp only
            refine if_two (!b) (fun x H4 => x = .int ((resid a b).1 : Int) ∧ H4 = H3) (fun N hn => ?_) (fun e N hn => ?_) (fun e N hn => ?_) ?_
            · refine ⟨_, rfl, _, rfl, gf, _, _, _, rfl, rfl, SqL.of hg3, atI_nat hgv, ?_⟩
              refine ⟨rfl, _, rfl, ?_⟩
              cases b <;> exact hn
            · cases b with
              | true => cases e
              | false => exact ⟨_, rfl, hn _ _ ⟨rfl, rfl⟩⟩
            · cases b with
              | false => cases e
              | true => exact ⟨_, rfl, hn _ _ ⟨rfl, rfl⟩⟩
            rintro _ _ ⟨rfl, rfl⟩
            -- flow[k] = 1 - flow[k]
            refine ⟨_, rfl, _, rfl, gf, _, _, _, rfl, rfl, SqL.of hg3, atI_nat hgv, _, _, rfl, rfl, ?_⟩
            refine ⟨_, rfl, _, rfl, gf, _, _, _, rfl, rfl, hg3, ixN_at (by rw [flowV, List.length_map, bk3.len, F1.len]; exact hif), ?_⟩
            refine ⟨L2.length, Nat.lt_succ_self _, (resid a b).1, g.set kk (!b), L2, _, _, _, _, rfl, ?_, ?_, same_new s3 hng, bk4, w2, rfl⟩
            · rw [upd_same, flowV, flowV, List.map_set]
              cases b <;> rfl
            · rw [upd_ne (Ne.symm ng2)]
              exact hy3
        · have v0 : v = 0 := by
            cases v with
            | zero => rfl
            | succ v => exact absurd (by rfl) h
          subst v0
          exact ⟨g, _, _, _, _, _, _, _, _, rfl, hg3, walk_end F1 q0 q1 bk3, s3⟩
  · rintro σ H1 ⟨f, v4, v5, v6, v7, v8, v9, v10, v11, rfl, hg1, F1, s1⟩
    exact ⟨_, rfl, k gf f H1 s1 hng hg1 F1.len (best_end F1)⟩
end
end K57
set_option Elab.async false
set_option linter.all false
set_option maxRecDepth 100000
set_option maxHeartbeats 4000000

/-! Walks: the lot of ways. -/
namespace K57
open PySem PySem.Spec PyProof.Rows L2
local macro_rules | `(tactic| walk_at "k57g") => `(tactic| repeat (first | refine ⟨_, rfl, ?_⟩ | refine ⟨_, _, rfl, rfl, ?_⟩ | refine ⟨_, _, rfl, rfl, _, rfl, ?_⟩))
local macro_rules | `(tactic| walk_at "k57len") => `(tactic| (intro h; first | (obtain ⟨e, _⟩ := h; subst e; rfl) | (obtain ⟨_, e, _⟩ := h; subst e; rfl) | (obtain ⟨_, _, e, _⟩ := h; subst e; rfl) | (obtain ⟨_, _, _, e, _⟩ := h; subst e; rfl) | (obtain ⟨_, _, _, _, e, _⟩ := h; subst e; rfl) | (obtain ⟨_, _, _, _, _, e, _⟩ := h; subst e; rfl) | (obtain ⟨_, _, _, _, _, _, e, _⟩ := h; subst e; rfl) | (obtain ⟨_, _, _, _, _, _, _, e, _⟩ := h; subst e; rfl) | (obtain ⟨_, _, _, _, _, _, _, _, e, _⟩ := h; subst e; rfl)))

theorem u1 {n : Nat} (h : n + 64 < cLine) : n + 1 < cLine := by omega
theorem used_nil : ∀ as : List Arc, used as [] = []
  | [] => rfl
  | _ :: _ => rfl
theorem used_take : ∀ (as : List Arc) (f : List Bool) (i : Nat) (a : Arc) (b : Bool), as[i]? = some a → f[i]? = some b → used (as.take (i + 1)) (f.take (i + 1)) = used (as.take i) (f.take i) ++ (if b then [a] else [])
  | [], _, _, _, _, h, _ => by simp at h
  | _ :: _, [], _, _, _, _, h => by simp at h
  | x :: as, y :: f, 0, a, b, h, h' => by
    simp at h h'
    subst h h'
    cases y <;> simp [used]
  | x :: as, y :: f, i + 1, a, b, h, h' => by
    have ih := used_take as f i a b (by simpa using h) (by simpa using h')
    simp only [List.take_succ_cons, used, ih]
    cases y <;> simp
theorem used_pre (as : List Arc) (f : List Bool) (i : Nat) : List.Sublist (used (as.take i) (f.take i)) (used as f) := by
  induction as generalizing f i with
  | nil => cases i <;> simp [used]
  | cons a as ih =>
    cases f with
    | nil => cases i <;> simp [used]
    | cons b f =>
      cases i with
      | zero => simp [used]
      | succ i =>
        simp only [List.take_succ_cons, used]
        cases b with
        | true => exact (ih f i).cons_cons a
        | false => exact ih f i
theorem fst_snoc (U : List Arc) (a : Arc) : fst_ (U ++ [a]) = fst_ U ++ (if a.1 = 0 then [(a.2.1 - 2) / 2] else []) := by
  unfold fst_
  rw [List.filterMap_append]
  congr 1
  by_cases h : a.1 = 0 <;> simp [h]
/-- what the dict of nexts holds after some arcs -/
def Nexts (U : List Arc) (kvs : List (Key × V)) : Prop := ∃ g : Nat → Option Nat, (∀ i : Nat, valV kvs (.inl (i : Int)) = (g i).map fun (j : Nat) => V.int (j : Int)) ∧ ∀ i j, g i = some j ↔ ((3 + 2 * i, 2 + 2 * j, 0) : Arc) ∈ U
theorem nexts_nil : Nexts [] [] := ⟨fun _ => none, fun i => rfl, fun i j => by simp⟩
theorem nexts_skip {U : List Arc} {kvs : List (Key × V)} {a : Arc} (h : Nexts U kvs) (ha : ∀ i j, a ≠ ((3 + 2 * i, 2 + 2 * j, 0) : Arc)) : Nexts (U ++ [a]) kvs := by
  obtain ⟨g, h1, h2⟩ := h
  refine ⟨g, h1, fun i j => ?_⟩
  rw [h2, List.mem_append, List.mem_singleton]
  exact ⟨.inl, fun h => h.elim id fun z => absurd z.symm (ha i j)⟩
theorem nexts_put {U : List Arc} {kvs : List (Key × V)} {p q : Nat} (h : Nexts U kvs) (one : ∀ j, ((3 + 2 * p, 2 + 2 * j, 0) : Arc) ∈ U → j = q) : Nexts (U ++ [(3 + 2 * p, 2 + 2 * q, 0)]) (putK kvs (.inl (p : Int)) (.int (q : Int))) := by
  obtain ⟨g, h1, h2⟩ := h
  refine ⟨fun i => if i = p then some q else g i, fun i => ?_, fun i j => ?_⟩
  · rw [valV_put]
    by_cases e : i = p
    · subst e
      simp
    · show _ = ((if i = p then some q else g i) : Option Nat).map fun (j : Nat) => V.int (j : Int)
      rw [if_neg (by intro z; injection z with z; omega), if_neg e]
      exact h1 i
  · rw [List.mem_append, List.mem_singleton]
    by_cases e : i = p
    · subst e
      simp only [if_true, Option.some.injEq, Prod.mk.injEq]
      constructor
      · rintro rfl
        simp
      · rintro (h | ⟨_, h, _⟩)
        · exact (one j h).symm
        · omega
    · simp only [if_neg e, h2, Prod.mk.injEq]
      exact ⟨.inl, fun h => h.elim id fun z => absurd z.1 (by omega)⟩
theorem nexts_nx {w : List Int} {U : List Arc} {p : Nat} (u : UF w U p) {kvs : List (Key × V)} (h : Nexts U kvs) (i : Nat) : valV kvs (.inl (i : Int)) = (nx U i).map fun (j : Nat) => V.int (j : Int) := by
  obtain ⟨g, h1, h2⟩ := h
  have : g i = nx U i := by
    apply Option.ext
    intro j
    rw [h2, u.nx_iff]
  rw [h1, this]
section
variable {P : Program} {w : World} {K : PySem.W.Frag} {mg : Str → Option Value} {base : Heap}
def spLot (K : PySem.W.Frag) : Sp := fun vs H Q _ => ∃ (a : Addr) (ws : List Int) (many : Nat), vs = [.ref a, .int (many : Int), .bl true] ∧ Wt K H a ws ∧ ws.length ≤ 16 ∧ many ≤ 1000 ∧
  ∀ (p : Addr) (rows : List (List Int)) (H' : Hp), Same H H' → Rt K H' p rows → (rows.map List.length).sum = shp many (Ln ws) → rows.length ≤ 400 → Q (.ref p) H'
theorem ok_lot_of (T : Txt K mg) : OKf P w K mg base 3 "lot_of" ["word", "many", "is_rising"] (spLot K) := by
  refine T.f_lot_of.F.ok sc_lot_of (fun vs H Q E => by clear T; walk_at "k57len") (fun cdv A outer s H vs Q E hr h => ?_)
  obtain ⟨a, ws, many, rfl, ha, hl, hm, k⟩ := h
  refine ⟨_, PSs.nox (pss_cons (ps_set (i := 3) sc_lot_of.nd rfl (Or.inl rfl) (pe_call (ok_arcs_of T) (hr.mono (by decide)) rfl T.f_arcs_of.g T.f_arcs_of.F.kp T.f_arcs_of.b .nil pass0 (pa_cons (pv 0) (pa_cons (pv 2) pa_nil))))
      (pss_cons (ps_par3 (i := 4) (j := 5) (l := 6) rfl sc_lot_of.nd rfl rfl rfl (by decide) (by decide) (by decide) rfl rfl rfl (pa_cons (pe_call (ok_best_flow T) (hr.mono (by decide)) rfl T.f_best_flow.g T.f_best_flow.F.kp T.f_best_flow.b .nil pass0 (pa_cons (pv 3) (pa_cons (pe_op op_add (pe_op op_mul pe_int (pe_callB (len_K (K := K)) (by rfl) T.b_len bb_len (pa_cons (pv 0) pa_nil))) pe_int) (pa_cons (pv 1) pa_nil)))) (pa_cons pe_dnewK (pa_cons (pe_lst pa_nil) pa_nil))) (by rfl))
      (pss_cons (ps_for PassesOwn.never rfl (pi_enum (by rfl) T.b_enumerate (pa_cons (pv 3) pa_nil)) (pg_tup rfl (pgs_cons (pg_name (i := 7) sc_lot_of.nd rfl (Or.inl rfl)) (pgs_cons (pg_tup rfl (pgs_cons (pg_name (i := 8) sc_lot_of.nd rfl (Or.inl rfl)) (pgs_cons (pg_name (i := 9) sc_lot_of.nd rfl (Or.inl rfl)) (pgs_cons (pg_name (i := 10) sc_lot_of.nd rfl (Or.inl rfl)) pgs_nil)))) pgs_nil))) (pss_one (ps_if (PW.pt (pw_and (pt_cmpR op_eq (pe_ix (ixl_K (K := K)) (pv 4) (pv 7) (fun _ _ => rfl)) pe_int (nomark _)) (pw_and1 (pt_cmpR op_eq (pv 8) pe_int (nomark _))))) (pss_one (ps_expr (pe_bm PySem.F.plainAttrs_list PySem.F.slot_list_append PySem.F.type_list_append mt_append (pv 6) (pa_cons (pe_op op_fdiv (pe_op op_sub (pv 9) pe_int) pe_int) pa_nil)))) (pss_one (ps_if (PW.pt (pw_and (pt_cmpR op_eq (pe_ix (ixl_K (K := K)) (pv 4) (pv 7) (fun _ _ => rfl)) pe_int (nomark _)) (pw_and (pt_cmpR op_eq (pv 10) pe_int (nomark _)) (pw_and1 (pt_cmpR op_ne (pv 9) pe_int (nomark _)))))) (pss_one (ps_asg (pe_op op_fdiv (pe_op op_sub (pv 9) pe_int) pe_int) (pg_sub (pv 5) (pe_op op_fdiv (pe_op op_sub (pv 8) pe_int) pe_int) (set_dict (u1 hr.units))))) pss_nil)))))
      (pss_cons (ps_set (i := 11) sc_lot_of.nd rfl (Or.inl rfl) (pe_lst pa_nil))
      (pss_cons (ps_for PassesOwn.never rfl (pil_K (K := K) (pv 6)) (pg_name (i := 12) sc_lot_of.nd rfl (Or.inl rfl)) (pss_cons (ps_set (i := 13) sc_lot_of.nd rfl (Or.inl rfl) (pe_lst (pa_cons (pv 12) pa_nil)))
      (pss_cons (ps_while PassesOwn.never (pt_cmp (pc_din (u1 hr.units) (pe_ix (ixl_K (K := K)) (pv 13) (pe_un un_neg pe_int) (fun _ _ => rfl)) (pv 5))) (pss_one (ps_expr (pe_bm PySem.F.plainAttrs_list PySem.F.slot_list_append PySem.F.type_list_append mt_append (pv 13) (pa_cons (pe_dget (u1 hr.units) (pv 5) (pe_ix (ixl_K (K := K)) (pv 13) (pe_un un_neg pe_int) (fun _ _ => rfl)) (fun _ _ => rfl)) pa_nil)))))
      (pss_one (ps_expr (pe_bm PySem.F.plainAttrs_list PySem.F.slot_list_append PySem.F.type_list_append mt_append (pv 11) (pa_cons (pe_callTy (tuple_K (K := K)) (by rfl) T.b_tuple bb_tuple (pa_cons (pv 13) pa_nil)) pa_nil)))))))
      (pss_one (ps_ret (pe_callTy (tuple_K (K := K)) (by rfl) T.b_tuple bb_tuple (pa_cons (pv 11) pa_nil))))))))), ?_⟩
  have few := arcs_few hl
  -- arcs = arcs_of(word, is_rising)
  refine ⟨_, rfl, _, rfl, a, ws, rfl, ha, hl, fun af H1 s1 naf hA1 => ?_⟩
  replace hA1 : ArcL K H1 af (arcsOf ws) := hA1
  have ha1 := sameT s1 ha
  -- flow = best_flow(arcs, 2 * len(word) + 2, many)
  refine ⟨_, rfl, _, rfl, a, _, rfl, .inr ha1, _, _, rfl, rfl, .inl ⟨by decide, by decide⟩, _, _, rfl, rfl, _, rfl, ?_⟩
  refine ⟨af, ws, many, by simp, hA1, hl, hm, fun gf f H2 s2 ngf hg2 hfl B => ?_⟩
  -- nexts, firsts = {}, []
  refine fun d nd => ⟨(by show 0 ≤ sizeLine; decide), fun r nr => ⟨_, _, _, rfl, ?_⟩⟩
  have t1 := same_upd (o := HO.dK []) nd
  have t2 := same_upd (o := HO.lst []) nr
  have s12 := s1.trans s2
  have s3 := s12.trans (t1.trans t2)
  have hA3 := ArcL.same (s2.trans (t1.trans t2)) hA1
  have hg3 := (t1.trans t2) _ _ hg2
  have hd3 := t2 _ _ (upd_same (H := H2) (a := d) (o := HO.dK []))
  have hr3 := upd_same (H := upd H2 d (.dK [])) (a := r) (o := HO.lst [])
  have hdn : H d = none := s12.free nd
  have hrn : H r = none := (s12.trans t1).free nr
  have hdr : d ≠ r := ne_of_none upd_same nr
  have hgd : gf ≠ d := ne_of_none hg2 nd
  have hgr : gf ≠ r := ne_of_none (t1 _ _ hg2) nr
  have hgn : H gf = none := s1.free ngf
  have afn : H af = none := naf
  have afd : af ≠ d := by
    obtain ⟨ps, h, _⟩ := ArcL.same s2 hA1
    exact ne_of_none h nd
  have afr : af ≠ r := by
    obtain ⟨ps, h, _⟩ := ArcL.same (s2.trans t1) hA1
    exact ne_of_none h nr
  generalize upd (upd H2 d (HO.dK [])) r (HO.lst []) = H3 at s3 hA3 hg3 hd3 hr3 ⊢
  clear t1 t2 hA1 ha1 hg2 nd nr s12 s1 s2 naf ngf
  obtain ⟨ps, hps, hpa⟩ := hA3
  have hpl := Paired.len hpa
  obtain ⟨p, hp, F, _⟩ := B.ex
  have U := F.uf
  -- for k, (first, last, cost) in enumerate(arcs)
  refine ⟨_, rfl, af, _, rfl, SqL.of hps, ?_⟩
  refine for_it (walk_enum (K := K) (a := af) (xs := ps.map V.ref)) (fun j σ H' => ∃ (kvs : List (Key × V)) (v7 v8 v9 v10 : Option V), σ = [some (.ref a), some (.int (many : Int)), some (.bl true), some (.ref af), some (.ref gf), some (.ref d), some (.ref r), v7, v8, v9, v10, none, none, none] ∧
      H' gf = some (.lst (flowV f)) ∧ H' af = some (.lst (ps.map V.ref)) ∧ Paired (fun p a => SqT K H' p (arcV a)) ps (arcsOf ws) ∧ H' d = some (.dK kvs) ∧ H' r = some (.lst ((fst_ (used ((arcsOf ws).take j) (f.take j))).map fun (i : Nat) => V.int (i : Int))) ∧ Nexts (used ((arcsOf ws).take j) (f.take j)) kvs ∧ kvs.length ≤ j ∧ Same H H')
    ⟨[], none, none, none, none, rfl, hg3, hps, hpa, hd3, by simpa [used, fst_] using hr3, by simpa [used] using nexts_nil, Nat.le_refl _, s3⟩
    (fun i σ H' _ ⟨_, _, _, _, _, _, _, h, _⟩ => SqL.of h) ?_ ?_
  · rintro i z σ H4 H4' hi ⟨kvs, v7, v8, v9, v10, rfl, hg4, hps4, hpa4, hd4, hr4, N4, hk4, s4⟩ ⟨t, x, q, rfl, nt, rfl, hx, hq⟩
    cases hx
    obtain ⟨pa, hpi, rfl⟩ := map_some hq
    obtain ⟨c, hai, hap⟩ := Paired.at' hpa4 hpi
    have hil : i < (arcsOf ws).length := (List.getElem?_eq_some_iff.mp hai).1
    have hif : i < f.length := by omega
    have hbi : f[i]? = some f[i] := List.getElem?_eq_getElem hif
    generalize f[i] = b at hbi
    have hbv : (flowV f)[i]? = some (.int (if b then 1 else 0)) := by simp [flowV, hbi]
    have s5 := same_upd (o := HO.tup [.int (i : Int), .ref pa]) nt
    have hT := upd_same (H := H4) (a := t) (o := HO.tup [.int (i : Int), .ref pa])
    have s45 := s4.trans s5
    have hg5 := s5 _ _ hg4
    have hps5 := s5 _ _ hps4
    have hpa5 := Paired.mapP hpa4 fun p a h => sameT (K := K) s5 h
    have hd5 := s5 _ _ hd4
    have hr5 := s5 _ _ hr4
    have hap5 := sameT s5 hap
    generalize upd H4 t (HO.tup [.int (i : Int), .ref pa]) = H5 at s5 hT s45 hg5 hps5 hpa5 hd5 hr5 hap5 ⊢
    refine ⟨t, _, rfl, SqT.of hT, rfl, _, _, rfl, _, _, rfl, ⟨pa, _, rfl, hap5, rfl, _, _, rfl, _, _, rfl, _, _, rfl, rfl, rfl, ?_⟩⟩
    clear hT hap hap5 nt hpi hd4 hr4 hg4 hps4 hpa4 s4 s5
    have sub := used_pre (arcsOf ws) f (i + 1)
    have step := used_take (arcsOf ws) f i c b hai hbi
    have fl : (fst_ (used ((arcsOf ws).take i) (f.take i))).length ≤ i := by
      refine Nat.le_trans (List.length_filterMap_le _ _) (Nat.le_trans (used_sub _ _).length_le ?_)
      rw [List.length_take]
      omega
    -- nothing changes
    have skip : ∀ (v7 v8 v9 v10 : Option V), fst_ (used ((arcsOf ws).take (i + 1)) (f.take (i + 1))) = fst_ (used ((arcsOf ws).take i) (f.take i)) → Nexts (used ((arcsOf ws).take (i + 1)) (f.take (i + 1))) kvs →
        ∃ (kvs : List (Key × V)) (w7 w8 w9 w10 : Option V), [some (.ref a), some (.int (many : Int)), some (.bl true), some (.ref af), some (.ref gf), some (.ref d), some (.ref r), v7, v8, v9, v10, none, none, none] = [some (.ref a), some (.int (many : Int)), some (.bl true), some (.ref af), some (.ref gf), some (.ref d), some (.ref r), w7, w8, w9, w10, none, none, none] ∧
          H5 gf = some (.lst (flowV f)) ∧ H5 af = some (.lst (ps.map V.ref)) ∧ Paired (fun p a => SqT K H5 p (arcV a)) ps (arcsOf ws) ∧ H5 d = some (.dK kvs) ∧ H5 r = some (.lst ((fst_ (used ((arcsOf ws).take (i + 1)) (f.take (i + 1)))).map fun (i : Nat) => V.int (i : Int))) ∧ Nexts (used ((arcsOf ws).take (i + 1)) (f.take (i + 1))) kvs ∧ kvs.length ≤ i + 1 ∧ Same H H5 :=
      fun v7 v8 v9 v10 e1 e2 => ⟨kvs, v7, v8, v9, v10, rfl, hg5, hps5, hpa5, hd5, by rw [e1]; exact hr5, e2, by omega, s45⟩
    cases b with
    | false =>
      have e : used ((arcsOf ws).take (i + 1)) (f.take (i + 1)) = used ((arcsOf ws).take i) (f.take i) := by rw [step]; simp
      refine ⟨_, rfl, _, rfl, gf, _, _, _, rfl, rfl, SqL.of hg5, atI_nat hbv, rfl, _, rfl, ?_⟩
      refine iteF (iteF ?_)
      refine ⟨_, rfl, _, rfl, gf, _, _, _, rfl, rfl, SqL.of hg5, atI_nat hbv, rfl, _, rfl, ?_⟩
      refine iteF (iteF ?_)
      exact skip _ _ _ _ (by rw [e]) (by rw [e]; exact N4)
    | true =>
      rw [if_pos rfl] at step
      refine ⟨_, rfl, _, rfl, gf, _, _, _, rfl, rfl, SqL.of hg5, atI_nat hbv, rfl, _, rfl, ?_⟩
      refine iteT ?_
      refine ⟨_, rfl, rfl, _, rfl, ?_⟩
      have hc := mem_arcsTo.mp (List.mem_of_getElem? hai)
      cases hc with
      | @src j hj =>
        refine iteT ?_
        refine ⟨_, rfl, .inl ⟨rfl, _, SqL.of hr5⟩, _, rfl, _, _, rfl, rfl, _, _, rfl, rfl, ⟨by decide, by decide⟩, r, _, _, rfl, rfl, hr5, line_lt (by rw [List.length_map]; omega), ?_⟩
        refine ⟨kvs, _, _, _, _, rfl, ?_, ?_, Paired.mapP hpa5 fun p a h => sqT_upd hr5 trivial h, ?_, ?_, ?_, by omega, same_new s45 hrn⟩
        · rw [upd_ne hgr]; exact hg5
        · rw [upd_ne afr]; exact hps5
        · rw [upd_ne hdr]; exact hd5
        · rw [upd_same, step, fst_snoc]
          simp only [if_true, List.map_append, List.map_cons, List.map_nil]
          congr 5
          omega
        · rw [step]
          exact nexts_skip N4 fun i j z => by injection z with z; omega
      | @mid j hj =>
        rw [decide_eq_false (by intro z; injection z with z; omega)]
        refine iteF ?_
        refine ⟨_, rfl, _, rfl, gf, _, _, _, rfl, rfl, SqL.of hg5, atI_nat hbv, rfl, _, rfl, ?_⟩
        refine iteT ?_
        refine ⟨_, rfl, rfl, _, rfl, ?_⟩
        refine iteF (iteF ?_)
        refine skip _ _ _ _ ?_ ?_
        · rw [step, fst_snoc, if_neg (by simp), List.append_nil]
        · rw [step]
          exact nexts_skip N4 fun i j z => by injection z with z; omega
      | @snk j hj =>
        rw [decide_eq_false (by intro z; injection z with z; omega)]
        refine iteF ?_
        refine ⟨_, rfl, _, rfl, gf, _, _, _, rfl, rfl, SqL.of hg5, atI_nat hbv, rfl, _, rfl, ?_⟩
        refine iteT ?_
        refine ⟨_, rfl, rfl, _, rfl, ?_⟩
        refine iteT ?_
        refine ⟨_, rfl, rfl, _, rfl, ?_⟩
        refine iteF ?_
        refine skip _ _ _ _ ?_ ?_
        · rw [step, fst_snoc, if_neg (by simp), List.append_nil]
        · rw [step]
          exact nexts_skip N4 fun i j z => by injection z with z z2; injection z2 with z2; omega
      | @nxt j l hj hjl hlw hle =>
        rw [decide_eq_false (by intro z; injection z with z; omega)]
        refine iteF ?_
        refine ⟨_, rfl, _, rfl, gf, _, _, _, rfl, rfl, SqL.of hg5, atI_nat hbv, rfl, _, rfl, ?_⟩
        refine iteT ?_
        refine ⟨_, rfl, rfl, _, rfl, ?_⟩
        refine iteT ?_
        refine ⟨_, rfl, rfl, _, rfl, ?_⟩
        rw [decide_eq_false (by intro z; injection z with z; have z : ((2 + 2 * l : Nat) : Int) = 1 := z; omega)]
        refine iteT ?_
        refine ⟨_, rfl, _, _, rfl, rfl, _, _, rfl, rfl, ⟨by decide, by decide⟩, ?_⟩
        refine ⟨_, rfl, _, rfl, _, _, rfl, rfl, _, _, rfl, rfl, ⟨by decide, by decide⟩, ?_⟩
        have e1 : (((3 + 2 * j : Nat) : Int) - 3) / 2 = (j : Int) := by omega
        have e2 : (((2 + 2 * l : Nat) : Int) - 2) / 2 = (l : Int) := by omega
        dsimp only
        rw [e1, e2]
        refine ⟨d, _, rfl, DPut.k (k := .inl (j : Int)) hd5 (line_lt (by omega)), ?_⟩
        refine ⟨_, _, _, _, _, rfl, ?_, ?_, Paired.mapP hpa5 fun p a h => sqT_upd hd5 trivial h, upd_same, ?_, ?_, Nat.le_trans (length_putK _ _ _) (by omega), same_new s45 hdn⟩
        · rw [upd_ne hgd]; exact hg5
        · rw [upd_ne afd]; exact hps5
        · rw [upd_ne hdr.symm, step, fst_snoc, if_neg (by simp), List.append_nil]; exact hr5
        · rw [step]
          refine nexts_put N4 fun j' hj' => ?_
          have := U.out_one (sub.subset (by rw [step]; exact List.mem_append_left _ hj')) (sub.subset (by rw [step]; exact List.mem_append_right _ (List.mem_singleton.mpr rfl))) rfl rfl
          have := congrArg (fun a : Arc => a.2.1) this
          dsimp only at this
          omega
  · rintro σ H4 ⟨kvs, v7, v8, v9, v10, rfl, hg4, hps4, hpa4, hd4, hr4, N4, hk4, s4⟩
    have e : (List.map V.ref ps).length = (arcsOf ws).length := by rw [List.length_map, hpl]
    rw [e, List.take_length, ← hfl, List.take_length] at hr4 N4
    rw [e] at hk4
    have tot := lot_total B
    have nxx := nexts_nx U N4
    have flt : (fst_ (used (arcsOf ws) f)).length ≤ 400 := Nat.le_trans (List.length_filterMap_le _ _) (Nat.le_trans (used_sub _ _).length_le few)
    generalize used (arcsOf ws) f = U0 at *
    -- found = []
    refine ⟨(by show 0 ≤ sizeLine; decide), fun o no => ?_⟩
    have s5 := same_upd (o := HO.lst []) no
    have ho5 := upd_same (H := H4) (a := o) (o := HO.lst [])
    have s45 := s4.trans s5
    have hr5 := s5 _ _ hr4
    have hd5 := s5 _ _ hd4
    have hon : H o = none := s4.free no
    have hor : r ≠ o := ne_of_none hr4 no
    have hod : d ≠ o := ne_of_none hd4 no
    generalize upd H4 o (HO.lst []) = H5 at s5 ho5 s45 hr5 hd5 ⊢
    clear hg4 hps4 hpa4 hd4 hr4 s4 s5 no
    -- for at in firsts
    refine ⟨_, rfl, r, rfl, ⟨_, SqL.of hr5⟩, ?_⟩
    refine for_it (walk_list (K := K) (a := r) (xs := (fst_ U0).map fun (i : Nat) => V.int (i : Int))) (fun i σ H' => ∃ (rows : List (List Int)) (qs : List Addr) (v12 v13 : Option V), σ = [some (.ref a), some (.int (many : Int)), some (.bl true), some (.ref af), some (.ref gf), some (.ref d), some (.ref r), v7, v8, v9, v10, some (.ref o), v12, v13] ∧
        H' r = some (.lst ((fst_ U0).map fun (i : Nat) => V.int (i : Int))) ∧ H' d = some (.dK kvs) ∧ H' o = some (.lst (qs.map V.ref)) ∧ Paired (fun q row => Wt K H' q row) qs rows ∧ rows.map List.length = ((fst_ U0).take i).map (lenAt ws U0) ∧ Same H H')
      ⟨[], [], none, none, rfl, hr5, hd5, ho5, .nil, by simp, s45⟩ (fun i σ H' _ ⟨_, _, _, _, _, h, _⟩ => SqL.of h) ?_ ?_
    · rintro i z σ H6 H6' hi ⟨rows, qs, v12, v13, rfl, hr6, hd6, ho6, hq6, hl6, s6⟩ ⟨rfl, hz⟩
      obtain ⟨x, hxi, rfl⟩ := map_some hz
      have hxw := U.fst_lt (List.mem_of_getElem? hxi)
      -- row = [at]
      refine ⟨_, rfl, (by show 1 ≤ sizeLine; decide), fun u nu => ?_⟩
      have s7 := same_upd (o := HO.lst [.int (x : Int)]) nu
      have hu7 := upd_same (H := H6') (a := u) (o := HO.lst [.int (x : Int)])
      have s67 := s6.trans s7
      have hr7 := s7 _ _ hr6
      have hd7 := s7 _ _ hd6
      have ho7 := s7 _ _ ho6
      have hq7 := Paired.mapP hq6 fun p a h => sameT (K := K) s7 h
      have hun : H u = none := s6.free nu
      have hur : r ≠ u := ne_of_none hr6 nu
      have hud : d ≠ u := ne_of_none hd6 nu
      have huo : o ≠ u := ne_of_none ho6 nu
      generalize upd H6' u (HO.lst [.int (x : Int)]) = H7 at s7 hu7 s67 hr7 hd7 ho7 hq7 ⊢
      clear hr6 hd6 ho6 hq6 s6 s7 nu
      -- while row[-1] in nexts
      refine ⟨fun m σ H' => ∃ (pre : List Nat) (v : Nat), σ = [some (.ref a), some (.int (many : Int)), some (.bl true), some (.ref af), some (.ref gf), some (.ref d), some (.ref r), v7, v8, v9, v10, some (.ref o), some (.int (x : Int)), some (.ref u)] ∧
        H' u = some (.lst ((pre.map fun (i : Nat) => V.int (i : Int)) ++ [.int (v : Int)])) ∧ v < ws.length ∧ pre.length ≤ v ∧ lenAt ws U0 x = pre.length + lenAt ws U0 v ∧
        H' r = some (.lst ((fst_ U0).map fun (i : Nat) => V.int (i : Int))) ∧ H' d = some (.dK kvs) ∧ H' o = some (.lst (qs.map V.ref)) ∧ Paired (fun q row => Wt K H' q row) qs rows ∧ Same H H' ∧ m = ws.length - v,
        ⟨_, [], x, rfl, hu7, hxw, Nat.zero_le _, by simp, hr7, hd7, ho7, hq7, s67, rfl⟩, ?_⟩
      rintro m σ H8 ⟨pre, v, rfl, hu8, hv, hpl8, hlen, hr8, hd8, ho8, hq8, s8, rfl⟩
      refine ⟨_, rfl, _, rfl, u, _, _, _, rfl, rfl, SqL.of hu8, atI_last _ _, _, rfl, d, _, rfl, DGet.k (k := .inl (v : Int)) hd8, _, rfl, ?_⟩
      rw [nxx v]
      have hle := U.lenAt_eq hv
      cases hn : nx U0 v with
      | none =>
        refine iteF ?_
        rw [hn] at hle
        dsimp only at hle
        -- found.append(tuple(row))
        refine ⟨_, rfl, .inl ⟨rfl, _, SqL.of ho8⟩, _, rfl, u, _, rfl, .inl ⟨SqL.of hu8, fun t nt => ?_⟩⟩
        have s9 := same_upd (o := HO.tup ((pre.map fun (i : Nat) => V.int (i : Int)) ++ [.int (v : Int)])) nt
        have hil : i < 400 := by
          have := hi
          rw [List.length_map] at this
          omega
        have hql : qs.length ≤ 400 := by
          have e1 := Paired.len hq8
          have e2 := congrArg List.length hl6
          rw [List.length_map, List.length_map, List.length_take] at e2
          omega
        refine ⟨o, _, _, rfl, rfl, s9 _ _ ho8, line_lt (by rw [List.length_map]; omega), ?_⟩
        have ho9 := s9 _ _ ho8
        refine ⟨rows ++ [(pre ++ [v]).map fun (i : Nat) => (i : Int)], qs ++ [t], _, _, rfl, ?_, ?_, ?_, ?_, ?_, same_new (s8.trans s9) hon⟩
        · rw [upd_ne hor]; exact s9 _ _ hr8
        · rw [upd_ne hod]; exact s9 _ _ hd8
        · rw [upd_same, List.map_append]; rfl
        · refine Paired.snoc (Paired.mapP hq8 fun p a h => sqT_upd ho9 trivial (sameT s9 h)) (sqT_upd ho9 trivial (SqT.of ?_))
          rw [upd_same]
          simp
        · rw [List.map_append, hl6, List.take_succ, hxi, List.map_append]
          simp [hlen, hle]
      | some j =>
        refine iteT ⟨_, fun σ' H' h => h, ?_⟩
        rw [hn] at hle
        dsimp only at hle
        have hj := U.nx_lt hn
        -- row.append(nexts[row[-1]])
        refine ⟨_, rfl, .inl ⟨rfl, _, SqL.of hu8⟩, _, rfl, _, rfl, _, rfl, u, _, _, _, rfl, rfl, SqL.of hu8, atI_last _ _, d, .int (j : Int), rfl, ?_, ?_⟩
        · have g := DGet.k (k := .inl (v : Int)) hd8
          rw [nxx v, hn] at g
          exact g
        · refine ⟨u, _, _, rfl, rfl, hu8, line_lt (by simp; omega), ?_⟩
          refine ⟨_, ?_, pre ++ [v], j, rfl, ?_, hj.2, by simp; omega, ?_, ?_, ?_, ?_, Paired.mapP hq8 fun p a h => sqT_upd hu8 trivial h, same_new s8 hun, rfl⟩
          · show ws.length - j < ws.length - v
            omega
          · rw [upd_same, List.map_append]; rfl
          · rw [hlen, hle]; simp; omega
          · rw [upd_ne hur]; exact hr8
          · rw [upd_ne hud]; exact hd8
          · rw [upd_ne huo]; exact ho8
    · rintro σ H6 ⟨rows, qs, v12, v13, rfl, hr6, hd6, ho6, hq6, hl6, s6⟩
      rw [List.length_map, List.take_length] at hl6
      refine ⟨_, rfl, o, _, rfl, .inl ⟨SqL.of ho6, fun t nt => ?_⟩⟩
      have s7 := same_upd (o := HO.tup (qs.map V.ref)) nt
      refine k t rows _ (s6.trans s7) ⟨qs, SqT.of upd_same, Paired.mapP hq6 fun p a h => sameT s7 h⟩ (by rw [hl6]; exact tot) ?_
      have e2 := congrArg List.length hl6
      rw [List.length_map, List.length_map] at e2
      omega
end
end K57
set_option Elab.async false
set_option linter.all false
set_option maxRecDepth 100000
set_option maxHeartbeats 4000000

/-! The live word as it lies in the heap. -/
namespace K57
open PySem PySem.Spec PyProof.Rows L2
/-! ### a dict of names -/
abbrev Dc := List (Str × Nat)
def kvD (D : Dc) : List (Key × V) := D.map fun x => (Sum.inr x.1, V.int (x.2 : Int))
def dGet (D : Dc) (n : Str) : Option Nat := (D.find? fun x => decide (x.1 = n)).map (·.2)
def dPut (D : Dc) (n : Str) (m : Nat) : Dc := if (D.any fun x => decide (x.1 = n)) then D.map fun x => if x.1 = n then (x.1, m) else x else D ++ [(n, m)]
def dDrop (D : Dc) (n : Str) : Dc := D.filter fun x => decide (x.1 ≠ n)
theorem valV_kvD (n : Str) : ∀ D : Dc, valV (kvD D) (.inr n) = (dGet D n).map fun (m : Nat) => V.int (m : Int)
  | [] => rfl
  | x :: D => by
    show valV ((Sum.inr x.1, V.int (x.2 : Int)) :: kvD D) (.inr n) = _
    by_cases h : x.1 = n
    · rw [valV_pos (by rw [h])]
      unfold dGet
      rw [List.find?_cons_of_pos (by simp [h])]
      rfl
    · rw [valV_neg (by intro z; injection z with z; exact h z), valV_kvD n D]
      unfold dGet
      rw [List.find?_cons_of_neg (by simp [h])]
theorem put_kvD (D : Dc) (n : Str) (m : Nat) : putK (kvD D) (.inr n) (.int (m : Int)) = kvD (dPut D n m) := by
  have e : ((kvD D).any fun kv => decide (kv.1 = Sum.inr n)) = (D.any fun x => decide (x.1 = n)) := by
    unfold kvD
    rw [List.any_map]
    congr 1
    funext x
    simp
  unfold putK dPut
  rw [e]
  split
  · unfold kvD
    rw [List.map_map, List.map_map]
    apply List.map_congr_left
    intro x _
    by_cases h : x.1 = n <;> simp [h]
  · unfold kvD
    rw [List.map_append]
    rfl
theorem drop_kvD (D : Dc) (n : Str) : dropK (kvD D) (.inr n) = kvD (dDrop D n) := by
  unfold dropK dDrop kvD
  rw [List.filter_map]
  congr 1
  apply List.filter_congr
  intro x _
  simp
theorem keys_kvD (D : Dc) : (kvD D).map (·.1) = (D.map (·.1)).map Sum.inr := by
  unfold kvD
  rw [List.map_map, List.map_map]
  rfl
theorem dGet_put (D : Dc) (n x : Str) (m : Nat) : dGet (dPut D n m) x = if x = n then some m else dGet D x := by
  have h := valV_put (kvD D) (.inr n) (.inr x) (.int (m : Int))
  rw [put_kvD, valV_kvD, valV_kvD] at h
  by_cases e : x = n
  · rw [if_pos (by rw [e])] at h
    rw [if_pos e]
    cases g : dGet (dPut D n m) x with
    | none => rw [g] at h; cases h
    | some y =>
      rw [g] at h
      injection h with h
      injection h with h
      rw [show y = m by omega]
  · rw [if_neg (by intro z; injection z with z; exact e z)] at h
    rw [if_neg e]
    cases g : dGet (dPut D n m) x with
    | none =>
      rw [g] at h
      cases g2 : dGet D x with
      | none => rfl
      | some y => rw [g2] at h; cases h
    | some y =>
      rw [g] at h
      cases g2 : dGet D x with
      | none => rw [g2] at h; cases h
      | some z =>
        rw [g2] at h
        injection h with h
        injection h with h
        rw [show y = z by omega]
theorem dGet_mem {D : Dc} {n : Str} {m : Nat} (h : dGet D n = some m) : (n, m) ∈ D := by
  obtain ⟨x, h1, h2⟩ := Option.map_eq_some_iff.mp h
  have h3 := List.find?_some h1
  have h4 := List.mem_of_find?_eq_some h1
  obtain ⟨a, b⟩ := x
  simp at h3 h2
  subst h2 h3
  exact h4
theorem dGet_none {D : Dc} {n : Str} (h : dGet D n = none) : n ∉ D.map (·.1) := by
  intro hn
  obtain ⟨x, hx, rfl⟩ := List.mem_map.mp hn
  have := List.find?_eq_none.mp (Option.map_eq_none_iff.mp h) x hx
  simp at this
theorem dGet_of {D : Dc} (nd : (D.map (·.1)).Nodup) {n : Str} {m : Nat} (h : (n, m) ∈ D) : dGet D n = some m := by
  cases g : dGet D n with
  | none => exact absurd (List.mem_map.mpr ⟨_, h, rfl⟩) (dGet_none g)
  | some k =>
    have h2 := dGet_mem g
    clear g
    induction D with
    | nil => cases h
    | cons x D ih =>
      rw [List.map_cons, List.nodup_cons] at nd
      rcases List.mem_cons.mp h with e | e <;> rcases List.mem_cons.mp h2 with e' | e'
      · rw [← e] at e'
        injection e' with _ e'
        rw [e']
      · exact absurd (List.mem_map.mpr ⟨_, e', by rw [← e]⟩) nd.1
      · exact absurd (List.mem_map.mpr ⟨_, e, by rw [← e']⟩) nd.1
      · exact ih nd.2 e e'
/-- what a dict of names holds -/
structure DOk (N : Str → Prop) (D : Dc) : Prop where
  nd : (D.map (·.1)).Nodup
  nm : ∀ x ∈ D, N x.1 ∧ x.2 ≤ 16
theorem dPut_names (D : Dc) (n : Str) (m : Nat) : (dPut D n m).map (·.1) = if n ∈ D.map (·.1) then D.map (·.1) else D.map (·.1) ++ [n] := by
  have e : (D.any fun x => decide (x.1 = n)) = decide (n ∈ D.map (·.1)) := by
    rw [Bool.eq_iff_iff]
    simp only [List.any_eq_true, decide_eq_true_eq, List.mem_map]
  unfold dPut
  rw [e]
  by_cases h : n ∈ D.map (·.1)
  · rw [if_pos (decide_eq_true h), if_pos h, List.map_map]
    apply List.map_congr_left
    intro x _
    by_cases h : x.1 = n <;> simp [h]
  · rw [if_neg (by simpa using h), if_neg h, List.map_append]
    rfl
theorem dPut_mem {D : Dc} {n : Str} {m : Nat} {x : Str × Nat} (h : x ∈ dPut D n m) : x = (n, m) ∨ x ∈ D := by
  unfold dPut at h
  split at h
  · obtain ⟨y, hy, rfl⟩ := List.mem_map.mp h
    by_cases e : y.1 = n
    · rw [if_pos e, e]; exact .inl rfl
    · rw [if_neg e]; exact .inr hy
  · rcases List.mem_append.mp h with h | h
    · exact .inr h
    · exact .inl (List.mem_singleton.mp h)
theorem DOk.nil {N : Str → Prop} : DOk N [] := ⟨.nil, by simp⟩
theorem DOk.put {N : Str → Prop} {D : Dc} {n : Str} {m : Nat} (o : DOk N D) (hn : N n) (hm : m ≤ 16) : DOk N (dPut D n m) := by
  refine ⟨?_, fun x hx => ?_⟩
  · rw [dPut_names]
    split
    · exact o.nd
    · rename_i h
      exact nd_snoc o.nd h
  · rcases dPut_mem hx with rfl | hx
    · exact ⟨hn, hm⟩
    · exact o.nm x hx
theorem DOk.drop {N : Str → Prop} {D : Dc} {n : Str} (o : DOk N D) : DOk N (dDrop D n) :=
  ⟨o.nd.sublist (List.Sublist.map _ List.filter_sublist), fun x hx => o.nm x (List.mem_filter.mp hx).1⟩
theorem dPut_len (D : Dc) (n : Str) (m : Nat) : (dPut D n m).length ≤ D.length + 1 := by
  unfold dPut
  split
  · rw [List.length_map]; omega
  · rw [List.length_append]; exact Nat.le_refl _
theorem dDrop_len (D : Dc) (n : Str) : (dDrop D n).length ≤ D.length := List.length_filter_le _ _
/-! ### an attribute as a target -/
def gAtt (K : PySem.W.Frag) (ta : TE) (f : Str) : TG := fun v σ H Q => ta σ H fun x H1 => ∃ a C dx fs, x = .ref a ∧ H1 a = some (.ins C dx fs) ∧ Cls K C ∧ NoAttr K C f ∧ fs.length < 1000 ∧ Q σ (upd H1 a (.ins C dx (putF f v fs)))
theorem pg_att {X : Cx} {o : Expr} {f : Str} {pos : Pos} {ta : TE} (ho : PE X o ta) : PG X (.Attribute o f pos) (gAtt X.K ta f) := by
  refine ⟨fun pins s σ H v u Q I r h => ?_⟩
  rw [assign_Attribute]
  refine wpAny_bind (wpAny_holding (thn (ho.run pins s σ H _ I h) fun ov s1 ⟨x, H1, I1, r1, a, C, dx, fs, ex, ea, c, n, l, q⟩ => ?_))
  subst ex
  obtain rfl : ov = Value.ref a := r1
  refine wpAny_bind (wpAny_standAt (wpAny_bind (wpAny_holding (setattr_ok I1 ea c n l r fun s3 I3 => ?_))))
  exact wpAny_release ⟨σ, _, I3, q⟩
theorem Paired.split {α β : Type} {F : α → β → Prop} : ∀ {l : List α} {m m' : List β}, Paired F l (m ++ m') → ∃ l1 l2, l = l1 ++ l2 ∧ Paired F l1 m ∧ Paired F l2 m'
  | l, [], _, h => ⟨[], l, rfl, .nil, h⟩
  | _, _ :: m, _, .cons h t => by
    obtain ⟨l1, l2, e, h1, h2⟩ := Paired.split (m := m) t
    exact ⟨_ :: l1, l2, by rw [e]; rfl, .cons h h1, h2⟩
/-! ### what changes -/
/-- what never changes once it lies there -/
def Sol : HO → Prop
  | .tup _ => True
  | .frz _ _ => True
  | .ext _ => True
  | .own _ => True
  | .xd _ => True
  | _ => False
/-- all but D stays, what never changes stays -/
structure Chg (K : PySem.W.Frag) (D : List Addr) (H H' : Hp) : Prop where
  keep : ∀ b o, b ∉ D → H b = some o → H' b = some o
  sol : ∀ b o, Sol o → H b = some o → H' b = some o
/-- what may change -/
def Mov : HO → Prop
  | .lst _ => True
  | .dK _ => True
  | .ins _ _ _ => True
  | .tbl _ => True
  | _ => False
theorem mov_sol {o : HO} (m : Mov o) (s : Sol o) : False := by cases o <;> first | exact m | exact s
section
variable {K : PySem.W.Frag} {D D' : List Addr} {H H1 H2 : Hp}
theorem Chg.seq (c : Chg K D H H1) (a : Addr) (xs : List V) (h : SqT K H a xs) : SqT K H1 a xs := by
  rcases h with (h | ⟨o, h⟩) | h
  · exact .inl (.inl (c.sol _ _ trivial h))
  · exact .inl (.inr ⟨o, c.sol _ _ trivial h⟩)
  · exact .inr h
theorem Chg.of (e : Same H H1) : Chg K D H H1 := ⟨fun b o _ h => e b o h, fun b o _ h => e b o h⟩
theorem Chg.refl (D : List Addr) (H : Hp) : Chg K D H H := .of (Same.refl H)
theorem Chg.trans (a : Chg K D H H1) (b : Chg K D' H1 H2) (h : ∀ x ∈ D', x ∈ D ∨ H x = none) : Chg K D H H2 :=
  ⟨fun c o hc e => b.keep c o (fun z => (h c z).elim hc fun n => by rw [n] at e; cases e) (a.keep c o hc e), fun c o s q => b.sol c o s (a.sol c o s q)⟩
theorem Chg.then (a : Chg K D H H1) (b : Same H1 H2) : Chg K D H H2 := a.trans (D' := []) (.of b) (by simp)
theorem Chg.upd {l : Addr} {u o : HO} (hl : H l = some u) (hu : Mov u) (hD : l ∈ D) : Chg K D H (L2.upd H l o) :=
  ⟨fun b v hb e => by rw [upd_ne (show b ≠ l by rintro rfl; exact hb hD)]; exact e, fun b v s e => by rw [upd_ne (show b ≠ l by rintro rfl; rw [hl] at e; cases e; exact mov_sol hu s)]; exact e⟩
theorem Chg.more (a : Chg K D H H1) (h : ∀ x ∈ D, x ∈ D' ∨ H x = none) : Chg K D' H H1 :=
  ⟨fun b o hb e => a.keep b o (fun z => (h b z).elim hb fun n => by rw [n] at e; cases e) e, a.sol⟩
theorem Chg.wt {a : Addr} {ws : List Int} (c : Chg K D H H1) (h : Wt K H a ws) : Wt K H1 a ws := c.seq _ _ h
theorem Chg.rt {a : Addr} {rows : List (List Int)} (c : Chg K D H H1) (h : Rt K H a rows) : Rt K H1 a rows := by
  obtain ⟨ps, h1, h2⟩ := h
  exact ⟨ps, c.seq _ _ h1, Paired.mapP h2 fun p r h => c.seq _ _ h⟩
theorem Chg.free {l : Addr} (c : Chg K D H H1) (hD : l ∉ D) (h : H1 l = none) : H l = none := by
  cases e : H l with
  | none => rfl
  | some o => rw [c.keep l o hD e] at h; cases h
end
/-! ### the live word -/
abbrev LWc (K : PySem.W.Frag) : Addr := He.ga K "LiveWord"
def flds (e b W L f g s d a : V) : List (Str × V) := [("e", e), ("begun", b), ("word", W), ("lines", L), ("filling", f), ("standing", g), ("states", s), ("done", d), ("later", a)]
abbrev St1 := List Int × Dc
def StAt (K : PySem.W.Frag) (H : Hp) (q : Addr) (t : Addr × St1) : Prop := ∃ wa, SqT K H q [.ref wa, .ref t.1] ∧ Wt K H wa t.2.1 ∧ H t.1 = some (.dK (kvD t.2.2))
structure Raw (K : PySem.W.Frag) (H : Hp) (p dx sa da aa : Addr) (qs dqs lqs : List Addr) (T : List (Addr × St1)) (dn la : List Deed) (e b W L f g : V) : Prop where
  o : H p = some (.ins (LWc K) dx (flds e b W L f g (.ref sa) (.ref da) (.ref aa)))
  s : H sa = some (.lst (qs.map V.ref))
  d : H da = some (.lst (dqs.map V.ref))
  a : H aa = some (.lst (lqs.map V.ref))
  ss : Paired (fun q t => StAt K H q t) qs T
  dd : Paired (fun q d => SqT K H q (Deed.v d)) dqs dn
  ll : Paired (fun q d => SqT K H q (Deed.v d)) lqs la
  nd : (p :: sa :: da :: aa :: T.map (·.1)).Nodup
theorem paired_mem {α β : Type} {F G : α → β → Prop} : ∀ {l : List α} {m : List β}, Paired F l m → (∀ a b, b ∈ m → F a b → G a b) → Paired G l m
  | _, _, .nil, _ => .nil
  | _, _, .cons h t, f => .cons (f _ _ (List.mem_cons_self ..) h) (paired_mem t fun a b hb => f a b (List.mem_cons_of_mem _ hb))
section
variable {K : PySem.W.Frag} {H H' : Hp} {p dx sa da aa : Addr} {qs dqs lqs : List Addr} {T : List (Addr × St1)} {dn la : List Deed} {e b W L f g : V}
abbrev Foot (p sa da aa : Addr) (T : List (Addr × St1)) : List Addr := p :: sa :: da :: aa :: T.map (·.1)
theorem Raw.move (R : Raw K H p dx sa da aa qs dqs lqs T dn la e b W L f g) (k : ∀ x ∈ Foot p sa da aa T, ∀ o, H x = some o → H' x = some o) (q : ∀ a xs, SqT K H a xs → SqT K H' a xs) : Raw K H' p dx sa da aa qs dqs lqs T dn la e b W L f g where
  o := k p (by simp) _ R.o
  s := k sa (by simp) _ R.s
  d := k da (by simp) _ R.d
  a := k aa (by simp) _ R.a
  ss := paired_mem R.ss fun z t ht ⟨wa, h1, h2, h3⟩ => ⟨wa, q _ _ h1, q _ _ h2, k _ (by simp only [Foot, List.mem_cons, List.mem_map]; exact .inr (.inr (.inr (.inr ⟨t, ht, rfl⟩)))) _ h3⟩
  dd := Paired.mapP R.dd fun _ _ h => q _ _ h
  ll := Paired.mapP R.ll fun _ _ h => q _ _ h
  nd := R.nd
theorem Raw.same (R : Raw K H p dx sa da aa qs dqs lqs T dn la e b W L f g) (s : Same H H') : Raw K H' p dx sa da aa qs dqs lqs T dn la e b W L f g :=
  R.move (fun x _ o h => s x o h) fun _ _ h => sameT s h
theorem Raw.chg {D : List Addr} (R : Raw K H p dx sa da aa qs dqs lqs T dn la e b W L f g) (c : Chg K D H H') (n : ∀ x ∈ Foot p sa da aa T, x ∉ D) : Raw K H' p dx sa da aa qs dqs lqs T dn la e b W L f g :=
  R.move (fun x hx o h => c.keep x o (n x hx) h) c.seq
theorem nd_facts {p sa da aa : Addr} {T : List (Addr × St1)} (h : (p :: sa :: da :: aa :: T.map (·.1)).Nodup) : p ≠ sa ∧ p ≠ da ∧ p ≠ aa ∧ sa ≠ da ∧ sa ≠ aa ∧ da ≠ aa ∧ (∀ t ∈ T, t.1 ≠ p ∧ t.1 ≠ sa ∧ t.1 ≠ da ∧ t.1 ≠ aa) ∧ (T.map (·.1)).Nodup := by
  simp only [List.nodup_cons, List.mem_cons, List.mem_map, not_or] at h
  obtain ⟨⟨h1, h2, h3, h4⟩, ⟨h5, h6, h7⟩, ⟨h8, h9⟩, h10, h11⟩ := h
  exact ⟨h1, h2, h3, h5, h6, h8, fun t ht => ⟨fun z => h4 ⟨t, ht, z⟩, fun z => h7 ⟨t, ht, z⟩, fun z => h9 ⟨t, ht, z⟩, fun z => h10 ⟨t, ht, z⟩⟩, h11⟩
/-- the object's own dict is written -/
theorem Raw.setO (R : Raw K H p dx sa da aa qs dqs lqs T dn la e b W L f g) (e' b' W' L' f' g' : V) : Raw K (upd H p (.ins (LWc K) dx (flds e' b' W' L' f' g' (.ref sa) (.ref da) (.ref aa)))) p dx sa da aa qs dqs lqs T dn la e' b' W' L' f' g' := by
  obtain ⟨n1, n2, n3, n4, n5, n6, n7, n8⟩ := nd_facts R.nd
  have q : ∀ {a : Addr} {xs : List V}, SqT K H a xs → SqT K (upd H p (.ins (LWc K) dx (flds e' b' W' L' f' g' (.ref sa) (.ref da) (.ref aa)))) a xs := fun h => sqT_upd R.o trivial h
  exact ⟨upd_same, by rw [upd_ne n1.symm]; exact R.s, by rw [upd_ne n2.symm]; exact R.d, by rw [upd_ne n3.symm]; exact R.a,
    paired_mem R.ss fun z t ht ⟨wa, h1, h2, h3⟩ => ⟨wa, q h1, q h2, by rw [upd_ne (n7 t ht).1]; exact h3⟩, Paired.mapP R.dd fun _ _ h => q h, Paired.mapP R.ll fun _ _ h => q h, R.nd⟩
/-- .. its later deeds are another list -/
theorem Raw.setA (R : Raw K H p dx sa da aa qs dqs lqs T dn la e b W L f g) {aa' : Addr} {lqs' : List Addr} {la' : List Deed} (ha : H aa' = some (.lst (lqs'.map V.ref))) (hl : Paired (fun q d => SqT K H q (Deed.v d)) lqs' la') (hn : aa' ∉ Foot p sa da aa T) :
    Raw K (upd H p (.ins (LWc K) dx (flds e b W L f g (.ref sa) (.ref da) (.ref aa')))) p dx sa da aa' qs dqs lqs' T dn la' e b W L f g := by
  obtain ⟨n1, n2, n3, n4, n5, n6, n7, n8⟩ := nd_facts R.nd
  simp only [Foot, List.mem_cons, List.mem_map, not_or] at hn
  obtain ⟨m1, m2, m3, m4, m5⟩ := hn
  have q : ∀ {a : Addr} {xs : List V}, SqT K H a xs → SqT K (upd H p (.ins (LWc K) dx (flds e b W L f g (.ref sa) (.ref da) (.ref aa')))) a xs := fun h => sqT_upd R.o trivial h
  refine ⟨upd_same, by rw [upd_ne n1.symm]; exact R.s, by rw [upd_ne n2.symm]; exact R.d, by rw [upd_ne m1]; exact ha,
    paired_mem R.ss fun z t ht ⟨wa, h1, h2, h3⟩ => ⟨wa, q h1, q h2, by rw [upd_ne (n7 t ht).1]; exact h3⟩, Paired.mapP R.dd fun _ _ h => q h, Paired.mapP hl fun _ _ h => q h, ?_⟩
  have h := R.nd
  simp only [List.nodup_cons, List.mem_cons, List.mem_map, not_or] at h ⊢
  obtain ⟨⟨h1, h2, h3, h4⟩, ⟨h5, h6, h7⟩, ⟨h8, h9⟩, h10, h11⟩ := h
  exact ⟨⟨h1, h2, fun z => m1 z.symm, h4⟩, ⟨h5, fun z => m2 z.symm, h7⟩, ⟨fun z => m3 z.symm, h9⟩, m5, h11⟩
/-- the list of states is written -/
theorem Raw.setS (R : Raw K H p dx sa da aa qs dqs lqs T dn la e b W L f g) {qs' : List Addr} {T' : List (Addr × St1)} (hs : Paired (fun q t => StAt K H q t) qs' T') (hn : (p :: sa :: da :: aa :: T'.map (·.1)).Nodup) :
    Raw K (upd H sa (.lst (qs'.map V.ref))) p dx sa da aa qs' dqs lqs T' dn la e b W L f g := by
  obtain ⟨n1, n2, n3, n4, n5, n6, _, _⟩ := nd_facts R.nd
  obtain ⟨_, _, _, _, _, _, n7, n8⟩ := nd_facts hn
  have q : ∀ {a : Addr} {xs : List V}, SqT K H a xs → SqT K (upd H sa (.lst (qs'.map V.ref))) a xs := fun h => sqT_upd R.s trivial h
  exact ⟨by rw [upd_ne n1]; exact R.o, upd_same, by rw [upd_ne n4.symm]; exact R.d, by rw [upd_ne n5.symm]; exact R.a,
    paired_mem hs fun z t ht ⟨wa, h1, h2, h3⟩ => ⟨wa, q h1, q h2, by rw [upd_ne (n7 t ht).2.1]; exact h3⟩, Paired.mapP R.dd fun _ _ h => q h, Paired.mapP R.ll fun _ _ h => q h, hn⟩
theorem Raw.setD (R : Raw K H p dx sa da aa qs dqs lqs T dn la e b W L f g) {dqs' : List Addr} {dn' : List Deed} (hd : Paired (fun q d => SqT K H q (Deed.v d)) dqs' dn') :
    Raw K (upd H da (.lst (dqs'.map V.ref))) p dx sa da aa qs dqs' lqs T dn' la e b W L f g := by
  obtain ⟨n1, n2, n3, n4, n5, n6, n7, n8⟩ := nd_facts R.nd
  have q : ∀ {a : Addr} {xs : List V}, SqT K H a xs → SqT K (upd H da (.lst (dqs'.map V.ref))) a xs := fun h => sqT_upd R.d trivial h
  exact ⟨by rw [upd_ne n2]; exact R.o, by rw [upd_ne n4]; exact R.s, upd_same, by rw [upd_ne n6.symm]; exact R.a,
    paired_mem R.ss fun z t ht ⟨wa, h1, h2, h3⟩ => ⟨wa, q h1, q h2, by rw [upd_ne (n7 t ht).2.2.1]; exact h3⟩, Paired.mapP hd fun _ _ h => q h, Paired.mapP R.ll fun _ _ h => q h, R.nd⟩
theorem Raw.setL (R : Raw K H p dx sa da aa qs dqs lqs T dn la e b W L f g) {lqs' : List Addr} {la' : List Deed} (hd : Paired (fun q d => SqT K H q (Deed.v d)) lqs' la') :
    Raw K (upd H aa (.lst (lqs'.map V.ref))) p dx sa da aa qs dqs lqs' T dn la' e b W L f g := by
  obtain ⟨n1, n2, n3, n4, n5, n6, n7, n8⟩ := nd_facts R.nd
  have q : ∀ {a : Addr} {xs : List V}, SqT K H a xs → SqT K (upd H aa (.lst (lqs'.map V.ref))) a xs := fun h => sqT_upd R.a trivial h
  exact ⟨by rw [upd_ne n3]; exact R.o, by rw [upd_ne n5]; exact R.s, by rw [upd_ne n6]; exact R.d, upd_same,
    paired_mem R.ss fun z t ht ⟨wa, h1, h2, h3⟩ => ⟨wa, q h1, q h2, by rw [upd_ne (n7 t ht).2.2.2]; exact h3⟩, Paired.mapP R.dd fun _ _ h => q h, Paired.mapP hd fun _ _ h => q h, R.nd⟩
/-- the last state's dict is written -/
theorem Raw.setK {T0 : List (Addr × St1)} {da0 : Addr} {w : List Int} {D : Dc} (R : Raw K H p dx sa da aa qs dqs lqs (T0 ++ [(da0, w, D)]) dn la e b W L f g) (D' : Dc) :
    Raw K (upd H da0 (.dK (kvD D'))) p dx sa da aa qs dqs lqs (T0 ++ [(da0, w, D')]) dn la e b W L f g := by
  obtain ⟨n1, n2, n3, n4, n5, n6, n7, n8⟩ := nd_facts R.nd
  obtain ⟨m1, m2, m3, m4⟩ := n7 (da0, w, D) (by simp)
  have hd : H da0 = some (.dK (kvD D)) := by
    obtain ⟨q, _, wa, _, _, h⟩ := Paired.at (i := T0.length) (y := (da0, w, D)) R.ss (by simp)
    exact h
  have q : ∀ {a : Addr} {xs : List V}, SqT K H a xs → SqT K (upd H da0 (.dK (kvD D'))) a xs := fun h => sqT_upd hd trivial h
  refine ⟨by rw [upd_ne m1.symm]; exact R.o, by rw [upd_ne m2.symm]; exact R.s, by rw [upd_ne m3.symm]; exact R.d, by rw [upd_ne m4.symm]; exact R.a, ?_, Paired.mapP R.dd fun _ _ h => q h, Paired.mapP R.ll fun _ _ h => q h, ?_⟩
  · obtain ⟨q1, q2, rfl, h1, h2⟩ := Paired.split R.ss
    cases h2 with
    | cons h2 t2 =>
      cases t2
      obtain ⟨wa, z1, z2, z3⟩ := h2
      refine Paired.app (paired_mem h1 fun z t ht ⟨wa, h1, h2, h3⟩ => ⟨wa, q h1, q h2, ?_⟩) (.cons ⟨wa, q z1, q z2, upd_same⟩ .nil)
      rw [upd_ne ?_]
      · exact h3
      · rw [List.map_append, List.nodup_append] at n8
        exact n8.2.2 t.1 (List.mem_map.mpr ⟨t, ht, rfl⟩) da0 (by simp)
  · simpa using R.nd
end
end K57
set_option Elab.async false
set_option linter.all false
set_option maxRecDepth 100000
set_option maxHeartbeats 4000000

/-! Walks: the live word's methods that raise nothing. -/
namespace K57
open PySem PySem.Spec PyProof.Rows L2
local macro_rules | `(tactic| walk_at "k57g") => `(tactic| repeat (first | refine ⟨_, rfl, ?_⟩ | refine ⟨_, _, rfl, rfl, ?_⟩ | refine ⟨_, _, rfl, rfl, _, rfl, ?_⟩))
local macro_rules | `(tactic| walk_at "k57len") => `(tactic| (intro h; first | (obtain ⟨e, _⟩ := h; subst e; rfl) | (obtain ⟨_, e, _⟩ := h; subst e; rfl) | (obtain ⟨_, _, e, _⟩ := h; subst e; rfl) | (obtain ⟨_, _, _, e, _⟩ := h; subst e; rfl) | (obtain ⟨_, _, _, _, e, _⟩ := h; subst e; rfl) | (obtain ⟨_, _, _, _, _, e, _⟩ := h; subst e; rfl) | (obtain ⟨_, _, _, _, _, _, e, _⟩ := h; subst e; rfl) | (obtain ⟨_, _, _, _, _, _, _, e, _⟩ := h; subst e; rfl) | (obtain ⟨_, _, _, _, _, _, _, _, e, _⟩ := h; subst e; rfl) | ((repeat (obtain ⟨_, h⟩ := h)); subst_vars; rfl)))

theorem putF_word (v e b W L f g s d a : V) : putF "word" v (flds e b W L f g s d a) = flds e b v L f g s d a := by rfl
theorem putF_lines (v e b W L f g s d a : V) : putF "lines" v (flds e b W L f g s d a) = flds e b W v f g s d a := by rfl
theorem putF_filling (v e b W L f g s d a : V) : putF "filling" v (flds e b W L f g s d a) = flds e b W L v g s d a := by rfl
theorem putF_standing (v e b W L f g s d a : V) : putF "standing" v (flds e b W L f g s d a) = flds e b W L f v s d a := by rfl
theorem putF_later (v e b W L f g s d a : V) : putF "later" v (flds e b W L f g s d a) = flds e b W L f g s d v := by rfl
theorem last_st {K : PySem.W.Frag} {H : Hp} {qs : List Addr} {T0 : List (Addr × St1)} {t : Addr × St1} (h : Paired (fun q t => StAt K H q t) qs (T0 ++ [t])) : ∃ q0 q, qs = q0 ++ [q] ∧ Paired (fun q t => StAt K H q t) q0 T0 ∧ StAt K H q t := by
  obtain ⟨q1, q2, rfl, h1, h2⟩ := Paired.split h
  cases h2 with
  | cons h2 t2 =>
    cases t2
    exact ⟨q1, _, rfl, h1, h2⟩
theorem one_of_map {T1 : List (Addr × St1)} {s : St1} (h : T1.map (·.2) = [s]) : ∃ t0, T1 = [(t0, s)] := by
  match T1, h with
  | [x], h =>
    obtain ⟨y, z⟩ := x
    simp at h
    exact ⟨y, by rw [h]⟩
theorem atI_last' {q0 : List Addr} {q : Addr} : atI ((q0 ++ [q]).map V.ref) (-1) = some (V.ref q) := by
  rw [List.map_append]
  exact atI_last _ _
section
variable {P : Program} {w : World} {K : PySem.W.Frag} {mg : Str → Option Value} {base : Heap}
def spSettle (K : PySem.W.Frag) : Sp := fun vs H Q _ => ∃ (p dx sa da aa : Addr) (qs dqs lqs : List Addr) (T0 : List (Addr × St1)) (t : Addr) (w : List Int) (D : Dc) (dn la : List Deed) (e b W L f g : V), vs = [.ref p] ∧ Raw K H p dx sa da aa qs dqs lqs (T0 ++ [(t, w, D)]) dn la e b W L f g ∧ w.length ≤ 100 ∧
  ∀ (H' : Hp) (wa ln : Addr) (f' g' : V), Chg K [p] H H' → Raw K H' p dx sa da aa qs dqs lqs (T0 ++ [(t, w, D)]) dn la e b (.ref wa) (.ref ln) f' g' → Wt K H' wa w → Rt K H' ln (Ln w) → Q .non H'
theorem ok_LW_settle (T : Txt K mg) : OKm P w K mg base 3 "settle" ["self"] (spSettle K) := by
  refine T.f_LW_settle.F.ok sc_LW_settle (fun vs H Q E => by clear T; walk_at "k57len") (fun cdv A outer s H vs Q E hr h => ?_)
  obtain ⟨p, dx, sa, da, aa, qs, dqs, lqs, T0, t, w, D, dn, la, e, b, W, L, f, g, rfl, R, hl, k⟩ := h
  refine ⟨_, PSs.nox (pss_cons (ps_fld (pv 0) (pe_ix (ixt_K (K := K)) (pe_ix (ixl_K (K := K)) (pe_fld (pv 0) rfl) (pe_un un_neg pe_int) (fun _ _ => rfl)) pe_int (fun _ _ => rfl)) rfl)
      (pss_cons (ps_asg (pe_call (ok_pushed_of T) (hr.mono (by decide)) rfl T.f_pushed_of.g T.f_pushed_of.F.kp T.f_pushed_of.b .nil pass0 (pa_cons (pe_fld (pv 0) rfl) pa_nil)) (pg_tup rfl (pgs_cons (pg_att (pv 0)) (pgs_cons (pg_att (pv 0)) pgs_nil))))
      (pss_one (ps_fld (pv 0) (pe_callB (len_K (K := K)) (by rfl) T.b_len bb_len (pa_cons (pe_fld (pv 0) rfl) pa_nil)) rfl)))), ?_⟩
  obtain ⟨q0, q, rfl, hq0, wa, hq1, hq2, hq3⟩ := last_st R.ss
  -- self.word = self.states[-1][0]
  refine ⟨_, rfl, p, _, dx, _, _, rfl, R.o, T.cl_LW, T.na_states, rfl, _, rfl, sa, _, _, _, rfl, rfl, SqL.of R.s, atI_last', ?_⟩
  refine ⟨q, _, _, _, rfl, rfl, hq1, rfl, ?_⟩
  refine ⟨_, rfl, p, _, dx, _, rfl, R.o, T.cl_LW, T.na_word, (by show 9 < 1000; decide), ?_⟩
  rw [putF_word]
  have c1 : Chg K [p] H _ := Chg.upd (o := .ins (LWc K) dx (flds e b (.ref wa) L f g (.ref sa) (.ref da) (.ref aa))) R.o trivial (by simp)
  have R1 := R.setO e b (.ref wa) L f g
  have hw1 : Wt K _ wa w := c1.wt hq2
  generalize upd H p (.ins (LWc K) dx (flds e b (.ref wa) L f g (.ref sa) (.ref da) (.ref aa))) = H1 at c1 R1 hw1 ⊢
  -- self.lines, self.filling = pushed_of(self.word)
  refine ⟨_, rfl, p, _, dx, _, _, rfl, R1.o, T.cl_LW, T.na_word, rfl, wa, w, rfl, hw1, hl, fun u ln fl H2 s2 nu hln hu => ?_⟩
  have c2 := c1.then s2
  have R2 := R1.same s2
  have hw2 := sameT s2 hw1
  refine ⟨u, _, rfl, SqT.of hu, rfl, _, _, rfl, ?_⟩
  refine ⟨_, rfl, p, _, dx, _, rfl, R2.o, T.cl_LW, T.na_lines, (by show 9 < 1000; decide), ?_⟩
  rw [putF_lines]
  have d3 : Chg K [p] H2 _ := Chg.upd (o := .ins (LWc K) dx (flds e b (.ref wa) (.ref ln) f g (.ref sa) (.ref da) (.ref aa))) R2.o trivial (by simp)
  have c3 := c2.trans d3 fun x h => .inl h
  have R3 := R2.setO e b (.ref wa) (.ref ln) f g
  have hw3 := d3.wt hw2
  have hl3 := d3.rt hln
  generalize upd H2 p (.ins (LWc K) dx (flds e b (.ref wa) (.ref ln) f g (.ref sa) (.ref da) (.ref aa))) = H3 at d3 c3 R3 hw3 hl3 ⊢
  refine ⟨_, _, rfl, _, rfl, p, _, dx, _, rfl, R3.o, T.cl_LW, T.na_filling, (by show 9 < 1000; decide), ?_⟩
  rw [putF_filling]
  have d4 : Chg K [p] H3 _ := Chg.upd (o := .ins (LWc K) dx (flds e b (.ref wa) (.ref ln) (.ref fl) g (.ref sa) (.ref da) (.ref aa))) R3.o trivial (by simp)
  have c4 := c3.trans d4 fun x h => .inl h
  have R4 := R3.setO e b (.ref wa) (.ref ln) (.ref fl) g
  have hw4 := d4.wt hw3
  have hl4 := d4.rt hl3
  generalize upd H3 p (.ins (LWc K) dx (flds e b (.ref wa) (.ref ln) (.ref fl) g (.ref sa) (.ref da) (.ref aa))) = H4 at d4 c4 R4 hw4 hl4 ⊢
  -- self.standing = len(self.done)
  refine ⟨rfl, _, rfl, p, _, dx, _, _, rfl, R4.o, T.cl_LW, T.na_done, rfl, da, _, rfl, .inl (SqL.of R4.d), ?_⟩
  refine ⟨_, rfl, p, _, dx, _, rfl, R4.o, T.cl_LW, T.na_standing, (by show 9 < 1000; decide), ?_⟩
  rw [putF_standing]
  have d5 : Chg K [p] H4 _ := Chg.upd (o := .ins (LWc K) dx (flds e b (.ref wa) (.ref ln) (.ref fl) (.int ((dqs.map V.ref).length : Nat)) (.ref sa) (.ref da) (.ref aa))) R4.o trivial (by simp)
  exact k _ wa ln _ _ (c4.trans d5 fun x h => .inl h) (R4.setO e b (.ref wa) (.ref ln) (.ref fl) (.int ((dqs.map V.ref).length : Nat))) (d5.wt hw4) (d5.rt hl4)
/-- the live word, its states from the first to the last, its deeds, the deeds to do again -/
def LiveAt (K : PySem.W.Frag) (H : Hp) (p : Addr) (F : List Addr) (S0 : List St1) (w : List Int) (D : Dc) (dn la : List Deed) : Prop :=
  ∃ (dx sa da aa : Addr) (qs dqs lqs : List Addr) (T0 : List (Addr × St1)) (t : Addr) (e b f g : V) (wa ln : Addr),
    Raw K H p dx sa da aa qs dqs lqs (T0 ++ [(t, w, D)]) dn la e b (.ref wa) (.ref ln) f g ∧ F = Foot p sa da aa (T0 ++ [(t, w, D)]) ∧ T0.map (·.2) = S0 ∧ Wt K H wa w ∧ Rt K H ln (Ln w) ∧ Lw w ∧ ∀ s ∈ S0, Lw s.1
theorem LiveAt.same {H H' : Hp} {p : Addr} {F : List Addr} {S0 : List St1} {w : List Int} {D : Dc} {dn la : List Deed} (L : LiveAt K H p F S0 w D dn la) (s : Same H H') : LiveAt K H' p F S0 w D dn la := by
  obtain ⟨dx, sa, da, aa, qs, dqs, lqs, T0, t, e, b, f, g, wa, ln, R, h1, h2, h3, h4, h5⟩ := L
  exact ⟨dx, sa, da, aa, qs, dqs, lqs, T0, t, e, b, f, g, wa, ln, R.same s, h1, h2, sameT s h3, h4.same s, h5⟩
theorem LiveAt.chg {H H' : Hp} {p : Addr} {F G : List Addr} {S0 : List St1} {w : List Int} {D : Dc} {dn la : List Deed} (L : LiveAt K H p F S0 w D dn la) (c : Chg K G H H') (n : ∀ x ∈ F, x ∉ G) : LiveAt K H' p F S0 w D dn la := by
  obtain ⟨dx, sa, da, aa, qs, dqs, lqs, T0, t, e, b, f, g, wa, ln, R, rfl, h2, h3, h4, h5⟩ := L
  exact ⟨dx, sa, da, aa, qs, dqs, lqs, T0, t, e, b, f, g, wa, ln, R.chg c n, rfl, h2, c.wt h3, c.rt h4, h5⟩
theorem fld_step {p C dx : Addr} {H H1 : Hp} {D : Ends} {σ : L2.St} {fs : List (Str × V)} {f : Str} {v : V} (c : Chg K [p] H H1) (o : H1 p = some (.ins C dx fs)) (k : ∀ H2, Chg K [p] H H2 → Chg K [p] H1 H2 → H2 p = some (.ins C dx (putF f v fs)) → D.nx σ H2) : D.nx σ (upd H1 p (.ins C dx (putF f v fs))) := by
  have d : Chg K [p] H1 (upd H1 p (.ins C dx (putF f v fs))) := Chg.upd o trivial (by simp)
  exact k _ (c.trans d fun x h => .inl h) d upd_same
def spInit (K : PySem.W.Frag) : Sp := fun vs H Q _ => ∃ (p dx a : Addr) (e : Int) (w : List Int), vs = [.ref p, .int e, .ref a] ∧ H p = some (.ins (LWc K) dx []) ∧ 2 ≤ e ∧ e ≤ 20 ∧ Wt K H a w ∧ Lw w ∧
  ∀ (H' : Hp) (F : List Addr), Chg K [p] H H' → LiveAt K H' p F [] w [] [] [] → (∀ x ∈ F, x = p ∨ H x = none) → Q .non H'
theorem ok_LW_init (T : Txt K mg) : OKm P w K mg base 5 "__init__" ["self", "e", "word"] (spInit K) := by
  refine T.f_LW_init.F.ok sc_LW_init (fun vs H Q E => by clear T; walk_at "k57len") (fun cdv A outer s H vs Q E hr h => ?_)
  obtain ⟨p, dx, a, e, w, rfl, o, e1, e2, ha, hl, k⟩ := h
  refine ⟨_, PSs.nox (pss_cons (ps_expr (pe_call (ok_need_e T) (hr.mono (by decide)) rfl T.f_need_e.g T.f_need_e.F.kp T.f_need_e.b .nil pass0 (pa_cons (pv 1) pa_nil)))
      (pss_cons (ps_expr (pe_call (ok_need_long_word T) (hr.mono (by decide)) rfl T.f_need_long_word.g T.f_need_long_word.F.kp T.f_need_long_word.b .nil pass0 (pa_cons (pv 2) pa_nil)))
      (pss_cons (ps_fld (pv 0) (pv 1) rfl)
      (pss_cons (ps_fld (pv 0) (pv 2) rfl)
      (pss_cons (ps_fld (pv 0) (pv 2) rfl)
      (pss_cons (ps_fld (pv 0) (pe_tup pa_nil) rfl)
      (pss_cons (ps_fld (pv 0) (pe_tup pa_nil) rfl)
      (pss_cons (ps_fld (pv 0) pe_int rfl)
      (pss_cons (ps_fld (pv 0) (pe_lst (pa_cons (pe_tup (pa_cons (pv 2) (pa_cons pe_dnewK pa_nil))) pa_nil)) rfl)
      (pss_cons (ps_fld (pv 0) (pe_lst pa_nil) rfl)
      (pss_cons (ps_fld (pv 0) (pe_lst pa_nil) rfl)
      (pss_one (ps_expr (pe_meth0 (pv 0) T.cl_LW T.f_LW_settle.m (ok_LW_settle T) (hr.mono (by decide)) T.f_LW_settle.b .nil pass0)))))))))))))), ?_⟩
  refine ⟨_, rfl, e, rfl, e1, e2, ?_⟩
  refine ⟨_, rfl, a, w, rfl, ha, hl, fun H1 s1 => ?_⟩
  have c1 : Chg K [p] H H1 := .of s1
  have o1 := s1 _ _ o
  -- the fields
  refine ⟨_, rfl, _, rfl, p, _, dx, _, rfl, o1, T.cl_LW, T.na_e, (by show 0 < 1000; decide), fld_step c1 o1 fun H2 c2 _ o2 => ?_⟩
  refine ⟨_, rfl, _, rfl, p, _, dx, _, rfl, o2, T.cl_LW, T.na_begun, (by show 1 < 1000; decide), fld_step c2 o2 fun H3 c3 _ o3 => ?_⟩
  refine ⟨_, rfl, _, rfl, p, _, dx, _, rfl, o3, T.cl_LW, T.na_word, (by show 2 < 1000; decide), fld_step c3 o3 fun H4 c4 _ o4 => ?_⟩
  refine ⟨(by show 0 ≤ sizeLine; decide), fun u1 n1 => ⟨_, rfl, p, _, dx, _, rfl, same_upd n1 _ _ o4, T.cl_LW, T.na_lines, (by show 3 < 1000; decide), fld_step (c4.then (same_upd n1)) (same_upd n1 _ _ o4) fun H5 c5 _ o5 => ?_⟩⟩
  refine ⟨(by show 0 ≤ sizeLine; decide), fun u2 n2 => ⟨_, rfl, p, _, dx, _, rfl, same_upd n2 _ _ o5, T.cl_LW, T.na_filling, (by show 4 < 1000; decide), fld_step (c5.then (same_upd n2)) (same_upd n2 _ _ o5) fun H6 c6 _ o6 => ?_⟩⟩
  refine ⟨_, rfl, p, _, dx, _, rfl, o6, T.cl_LW, T.na_standing, (by show 5 < 1000; decide), fld_step c6 o6 fun H7 c7 _ o7 => ?_⟩
  -- self.states = [(word, {})]
  refine ⟨_, rfl, fun t nt => ⟨(by show 2 ≤ sizeLine; decide), fun q nq => ⟨(by show 1 ≤ sizeLine; decide), fun sa ns => ?_⟩⟩⟩
  have t1 := same_upd (o := HO.dK []) nt
  have t2 := same_upd (o := HO.tup [.ref a, .ref t]) nq
  have t3 := same_upd (o := HO.lst [.ref q]) ns
  have t13 := t1.trans (t2.trans t3)
  have c7s := c7.then t13
  have ht8 := (t2.trans t3) _ _ (upd_same (H := H7) (a := t) (o := HO.dK []))
  have hq8 := t3 _ _ (upd_same (H := upd H7 t (.dK [])) (a := q) (o := HO.tup [.ref a, .ref t]))
  have hs8 := upd_same (H := upd (upd H7 t (.dK [])) q (.tup [.ref a, .ref t])) (a := sa) (o := HO.lst [.ref q])
  have ht0 : t ≠ p ∧ H t = none := ⟨(ne_of_none o7 nt).symm, c7.free (by simpa using (ne_of_none o7 nt).symm) nt⟩
  have sp := (ne_of_none ((t1.trans t2) _ _ o7) ns).symm
  have hs0 : sa ≠ p ∧ H sa = none := ⟨sp, (c7.then (t1.trans t2)).free (by simpa using sp) ns⟩
  have hst : sa ≠ t := (ne_of_none (t2 _ _ upd_same) ns).symm
  have o7s := t13 _ _ o7
  generalize upd (upd (upd H7 t (HO.dK [])) q (.tup [.ref a, .ref t])) sa (.lst [.ref q]) = H7s at c7s ht8 hq8 hs8 o7s ⊢
  refine ⟨_, rfl, p, _, dx, _, rfl, o7s, T.cl_LW, T.na_states, (by show 6 < 1000; decide), fld_step c7s o7s fun H8 c8 d8 o8 => ?_⟩
  -- self.done = []
  refine ⟨(by show 0 ≤ sizeLine; decide), fun da nd => ?_⟩
  have t4 := same_upd (o := HO.lst []) nd
  have dp := (ne_of_none o8 nd).symm
  have hd0 : da ≠ p ∧ H da = none := ⟨dp, c8.free (by simpa using dp) nd⟩
  have hds : da ≠ sa := (ne_of_none (d8.keep _ _ (by simpa using hs0.1) hs8) nd).symm
  have hdt : da ≠ t := (ne_of_none (d8.keep _ _ (by simpa using ht0.1) ht8) nd).symm
  refine ⟨_, rfl, p, _, dx, _, rfl, t4 _ _ o8, T.cl_LW, T.na_done, (by show 7 < 1000; decide), fld_step (c8.then t4) (t4 _ _ o8) fun H9 c9 d9 o9 => ?_⟩
  have d89 : Chg K [p] H7s H9 := (d8.then t4).trans d9 fun x h => .inl h
  have hd9 := d9.keep da _ (by simpa using hd0.1) upd_same
  -- self.later = []
  refine ⟨(by show 0 ≤ sizeLine; decide), fun aa na => ?_⟩
  have t5 := same_upd (o := HO.lst []) na
  have ap := (ne_of_none o9 na).symm
  have ha0 : aa ≠ p ∧ H aa = none := ⟨ap, c9.free (by simpa using ap) na⟩
  have has : aa ≠ sa := (ne_of_none (d89.keep _ _ (by simpa using hs0.1) hs8) na).symm
  have hat : aa ≠ t := (ne_of_none (d89.keep _ _ (by simpa using ht0.1) ht8) na).symm
  have had : aa ≠ da := (ne_of_none hd9 na).symm
  refine ⟨_, rfl, p, _, dx, _, rfl, t5 _ _ o9, T.cl_LW, T.na_later, (by show 8 < 1000; decide), fld_step (c9.then t5) (t5 _ _ o9) fun H10 c10 d10 o10 => ?_⟩
  have d810 : Chg K [p] H7s H10 := (d89.then t5).trans d10 fun x h => .inl h
  have hd10 := d10.keep da _ (by simpa using hd0.1) (t5 _ _ hd9)
  have ha10 := d10.keep aa _ (by simpa using ha0.1) upd_same
  have hs10 := d810.keep sa _ (by simpa using hs0.1) hs8
  have ht10 := d810.keep t _ (by simpa using ht0.1) ht8
  have hq10 : SqT K H10 q [.ref a, .ref t] := d810.seq _ _ (SqT.of hq8)
  have R : Raw K H10 p dx sa da aa [q] [] [] ([] ++ [(t, w, [])]) [] [] (.int e) (.ref a) (.ref a) (.ref u1) (.ref u2) (.int 0) :=
    ⟨o10, hs10, hd10, ha10, .cons ⟨a, hq10, c10.wt ha, ht10⟩ .nil, .nil, .nil, by
      simp only [List.nil_append, List.map_cons, List.map_nil, List.nodup_cons, List.mem_cons, List.not_mem_nil, or_false, not_or]
      exact ⟨⟨hs0.1.symm, hd0.1.symm, ha0.1.symm, ht0.1.symm⟩, ⟨hds.symm, has.symm, hst⟩, ⟨had.symm, hdt⟩, hat, by simp⟩⟩
  refine ⟨_, rfl, p, dx, _, rfl, R.o, rfl, p, dx, sa, da, aa, _, _, _, [], t, w, [], _, _, _, _, _, _, _, _, rfl, R, (by have := hl.len; omega), fun H' wa ln f' g' c' R' hw' hln' => ?_⟩
  refine k H' (Foot p sa da aa ([] ++ [(t, w, [])])) (c10.trans c' fun x h => .inl h) ⟨dx, sa, da, aa, _, _, _, [], t, _, _, _, _, wa, ln, R', rfl, rfl, hw', hln', hl, by simp⟩ ?_
  intro x hx
  simp only [Foot, List.nil_append, List.map_cons, List.map_nil, List.mem_cons, List.not_mem_nil, or_false] at hx
  rcases hx with rfl | rfl | rfl | rfl | rfl
  · exact .inl rfl
  · exact .inr hs0.2
  · exact .inr hd0.2
  · exact .inr ha0.2
  · exact .inr ht0.2
def spDeeds (K : PySem.W.Frag) : Sp := fun vs H Q _ => ∃ (p : Addr) (F : List Addr) (S0 : List St1) (w : List Int) (D : Dc) (dn la : List Deed), vs = [.ref p] ∧ LiveAt K H p F S0 w D dn la ∧
  ∀ (l : Addr) (ds : List Addr) (H' : Hp), Same H H' → H l = none → H' l = some (.lst (ds.map V.ref)) → Paired (fun q d => SqT K H' q (Deed.v d)) ds dn → Q (.ref l) H'
theorem ok_LW_deeds (T : Txt K mg) : OKm P w K mg base 1 "deeds" ["self"] (spDeeds K) := by
  refine T.f_LW_deeds.F.ok sc_LW_deeds (fun vs H Q E => by clear T; walk_at "k57len") (fun cdv A outer s H vs Q E hr h => ?_)
  obtain ⟨p, F, S0, w, D, dn, la, rfl, ⟨dx, sa, da, aa, qs, dqs, lqs, T0, t, e, b, f, g, wa, ln, R, _⟩, k⟩ := h
  refine ⟨_, PSs.nox (pss_one (ps_ret (pe_callTy (list_K (K := K)) (by rfl) T.b_list bb_list (pa_cons (pe_fld (pv 0) rfl) pa_nil)))), ?_⟩
  refine ⟨_, rfl, p, _, dx, _, _, rfl, R.o, T.cl_LW, T.na_done, rfl, da, _, rfl, .inl (SqL.of R.d), fun l nl => ?_⟩
  exact k l dqs _ (same_upd nl) nl upd_same (Paired.mapP R.dd fun q d h => sameT (same_upd nl) h)
/-! ### lists of deeds as data -/
def Deed.data : Deed → PyData
  | .push x => .tuple [.str "push", .int x]
  | .pull x => .tuple [.str "pull", .int x]
  | .drop => .tuple [.str "drop"]
  | .shed => .tuple [.str "shed"]
  | .about => .tuple [.str "about"]
  | .swap i => .tuple [.str "swap", .int (i : Int)]
def dDeeds (ds : List Deed) : List PyData := ds.map Deed.data
theorem lay_deeds : ∀ ds : List Deed, PyData.canLayAll0 (dDeeds ds) = true
  | [] => rfl
  | d :: ds => by
    show (PyData.canLay0 d.data && PyData.canLayAll0 (dDeeds ds)) = true
    rw [lay_deeds ds]
    cases d <;> simp [Deed.data, PyData.canLay0, PyData.canLayAll0] <;> decide +kernel
theorem depth_deeds : ∀ ds : List Deed, PyData.depthAll (dDeeds ds) ≤ 2
  | [] => Nat.zero_le _
  | d :: ds => by
    show max d.data.depth (PyData.depthAll (dDeeds ds)) ≤ 2
    refine Nat.max_le.mpr ⟨?_, depth_deeds ds⟩
    cases d <;> simp [Deed.data, PyData.depth, PyData.depthAll]
theorem shaped_deeds (ds : List Deed) : SeqAt.shaped (.list (dDeeds ds)) = true := by
  show (PyData.canLayAll0 (dDeeds ds) && decide (PyData.depthAll (dDeeds ds) + 1 ≤ 64)) = true
  rw [lay_deeds]
  have := depth_deeds ds
  simp
  omega
theorem dp_deeds {H : Hp} {l : Addr} {qs : List Addr} {ds : List Deed} (h : SqL K H l (qs.map V.ref)) (hd : Paired (fun q d => SqT K H q (Deed.v d)) qs ds) : Dp K H (.ref l) (.list (dDeeds ds)) := by
  refine .lst h ?_
  clear h
  induction hd with
  | nil => exact .nil
  | @cons q d _ _ h t ih =>
    refine .cons ?_ ih
    cases d <;> exact .tup h (by repeat (first | exact .nil | refine .cons (by first | exact .str _ | exact .int _) ?_))
theorem eqv_deeds : ∀ ds : List Deed, PyData.eqv (.list (dDeeds ds)) (.list (dInts [])) = ds.isEmpty
  | [] => rfl
  | d :: ds => rfl
def spGoOn (K : PySem.W.Frag) : Sp := fun vs H Q _ => ∃ (p b0 : Addr) (F : List Addr) (S0 : List St1) (w : List Int) (D : Dc) (dn la : List Deed) (d : Deed) (w' : List Int), vs = [.ref p, .ref b0] ∧ LiveAt K H p F S0 w D dn la ∧ SqT K H b0 d.v ∧ d.ok ∧ after w d = some w' ∧ S0.length ≤ 1000 ∧ dn.length ≤ 1000 ∧
  ∀ (H' : Hp) (F' : List Addr), Chg K F H H' → LiveAt K H' p F' (S0 ++ [(w, D)]) w' D (dn ++ [d]) la → (∀ x ∈ F', x ∈ F ∨ H x = none) → Q .non H'
theorem ok_LW_go_on (T : Txt K mg) : OKm P w K mg base 7 "go_on" ["self", "deed"] (spGoOn K) := by
  refine T.f_LW_go_on.F.ok sc_LW_go_on (fun vs H Q E => by clear T; walk_at "k57len") (fun cdv A outer s H vs Q E hr h => ?_)
  obtain ⟨p, b0, F, S0, w, D, dn, la, d, w', rfl, ⟨dx, sa, da, aa, qs, dqs, lqs, T0, t, e, b, f, g, wa, ln, R, rfl, hS0, hw, hln, hlw, hlws⟩, hb, hok, haf, sl, dl, k⟩ := h
  refine ⟨_, PSs.nox (pss_cons (ps_asg (pe_ix (ixl_K (K := K)) (pe_fld (pv 0) rfl) (pe_un un_neg pe_int) (fun _ _ => rfl)) (pg_tup rfl (pgs_cons (pg_name (i := 2) sc_LW_go_on.nd rfl (Or.inl rfl)) (pgs_cons (pg_name (i := 3) sc_LW_go_on.nd rfl (Or.inl rfl)) pgs_nil))))
      (pss_cons (ps_expr (pe_bm PySem.F.plainAttrs_list PySem.F.slot_list_append PySem.F.type_list_append mt_append (pe_fld (pv 0) rfl) (pa_cons (pe_tup (pa_cons (pe_call (ok_after_deed T) (hr.mono (by decide)) rfl T.f_after_deed.g T.f_after_deed.F.kp T.f_after_deed.b .nil pass0 (pa_cons (pv 2) (pa_cons (pv 1) pa_nil))) (pa_cons (pe_callTy call_dictD (by rfl) T.b_dict bb_dict (pa_cons (pv 3) pa_nil)) pa_nil))) pa_nil)))
      (pss_cons (ps_expr (pe_bm PySem.F.plainAttrs_list PySem.F.slot_list_append PySem.F.type_list_append mt_append (pe_fld (pv 0) rfl) (pa_cons (pv 1) pa_nil)))
      (pss_one (ps_expr (pe_meth0 (pv 0) T.cl_LW T.f_LW_settle.m (ok_LW_settle T) (hr.mono (by decide)) T.f_LW_settle.b .nil pass0)))))), ?_⟩
  obtain ⟨q0, q, rfl, hq0, wq, hq1, hq2, hq3⟩ := last_st R.ss
  obtain ⟨n1, n2, n3, n4, n5, n6, n7, n8⟩ := nd_facts R.nd
  -- old, seen = self.states[-1]
  refine ⟨_, rfl, p, _, dx, _, _, rfl, R.o, T.cl_LW, T.na_states, rfl, _, rfl, sa, _, _, _, rfl, rfl, SqL.of R.s, atI_last', ?_⟩
  refine ⟨q, _, rfl, hq1, rfl, _, _, rfl, _, _, rfl, rfl, ?_⟩
  -- self.states.append((after_deed(old, deed), dict(seen)))
  refine ⟨_, rfl, p, _, dx, _, _, rfl, R.o, T.cl_LW, T.na_states, rfl, .inl ⟨rfl, _, SqL.of R.s⟩, ?_⟩
  refine ⟨_, rfl, _, rfl, wq, b0, w, d, w', rfl, hq2, hlw, hb, hok, haf, fun pw H1 s1 hw1 => ?_⟩
  refine ⟨_, rfl, t, kvD D, rfl, .inl (s1 _ _ hq3), fun t2 nt2 => ?_⟩
  refine ⟨(by show 2 ≤ sizeLine; decide), fun q2 nq2 => ?_⟩
  have s2 := same_upd (o := HO.dK (kvD D)) nt2
  have s3 := same_upd (o := HO.tup [.ref pw, .ref t2]) nq2
  have s123 := s1.trans (s2.trans s3)
  have R3 := R.same s123
  have hst3 : StAt K _ q2 (t2, w', D) := ⟨pw, SqT.of upd_same, sameT (s2.trans s3) hw1, s3 _ _ upd_same⟩
  have ht2 : H t2 = none := s1.free nt2
  generalize upd (upd H1 t2 (.dK (kvD D))) q2 (.tup [.ref pw, .ref t2]) = H3 at s3 s123 R3 hst3 ⊢
  have hql : (q0 ++ [q]).length ≤ 1001 := by
    have h1 := Paired.len R.ss
    have h2 := congrArg List.length hS0
    simp at h1 h2 ⊢
    omega
  refine ⟨sa, _, _, rfl, rfl, R3.s, (by rw [List.length_map]; exact line_lt (by omega)), ?_⟩
  have R4 := R3.setS (qs' := (q0 ++ [q]) ++ [q2]) (T' := (T0 ++ [(t, w, D)]) ++ [(t2, w', D)]) (Paired.snoc R3.ss hst3) (by
    have h := R.nd
    have ne : ∀ x ∈ Foot p sa da aa (T0 ++ [(t, w, D)]), x ≠ t2 := by
      intro x hx z
      subst z
      simp only [Foot, List.mem_cons] at hx
      rcases hx with rfl | rfl | rfl | rfl | hx
      · have := R.o; rw [ht2] at this; cases this
      · have := R.s; rw [ht2] at this; cases this
      · have := R.d; rw [ht2] at this; cases this
      · have := R.a; rw [ht2] at this; cases this
      · obtain ⟨t', h1, h2⟩ := List.mem_map.mp hx
        obtain ⟨i, hi⟩ := List.getElem?_of_mem h1
        obtain ⟨_, _, _, _, _, z⟩ := Paired.at R.ss hi
        rw [h2, ht2] at z
        cases z
    rw [List.map_append]
    show (Foot p sa da aa (T0 ++ [(t, w, D)]) ++ [t2]).Nodup
    exact nd_snoc h fun z => ne _ z rfl)
  have d4 : Chg K (Foot p sa da aa (T0 ++ [(t, w, D)])) H3 _ := Chg.upd (o := .lst (((q0 ++ [q]) ++ [q2]).map V.ref)) R3.s trivial (by simp)
  have c4 := Chg.trans (D := Foot p sa da aa (T0 ++ [(t, w, D)])) (.of s123) d4 fun x h => .inl h
  have e4 : (((q0 ++ [q]) ++ [q2]).map V.ref) = (q0 ++ [q]).map V.ref ++ [V.ref q2] := by simp
  rw [e4] at R4 d4 c4
  generalize upd H3 sa (.lst ((q0 ++ [q]).map V.ref ++ [V.ref q2])) = H4 at R4 d4 c4 ⊢
  -- self.done.append(deed)
  refine ⟨_, rfl, p, _, dx, _, _, rfl, R4.o, T.cl_LW, T.na_done, rfl, .inl ⟨rfl, _, SqL.of R4.d⟩, _, rfl, ?_⟩
  refine ⟨da, _, _, rfl, rfl, R4.d, (by rw [List.length_map, Paired.len R.dd]; exact line_lt (by omega)), ?_⟩
  have R5 := R4.setD (dqs' := dqs ++ [b0]) (dn' := dn ++ [d]) (Paired.snoc R4.dd (c4.seq _ _ hb))
  have d5 : Chg K (Foot p sa da aa (T0 ++ [(t, w, D)])) H4 _ := Chg.upd (o := .lst ((dqs ++ [b0]).map V.ref)) R4.d trivial (by simp)
  have c5 := c4.trans d5 fun x h => .inl h
  have e5 : (dqs ++ [b0]).map V.ref = dqs.map V.ref ++ [V.ref b0] := by simp
  rw [e5] at R5 d5 c5
  generalize upd H4 da (.lst (dqs.map V.ref ++ [V.ref b0])) = H5 at R5 d5 c5 ⊢
  -- self.settle()
  have hlw' := after_lw hok haf hlw
  refine ⟨_, rfl, p, dx, _, rfl, R5.o, rfl, p, dx, sa, da, aa, _, _, _, _, t2, w', D, _, _, _, _, _, _, _, _, rfl, R5, (by have := hlw'.len; omega), fun H' wa' ln' f' g' c' R' hw' hln' => ?_⟩
  refine k H' (Foot p sa da aa ((T0 ++ [(t, w, D)]) ++ [(t2, w', D)])) (c5.trans c' fun x h => .inl (by simp at h; subst h; simp)) ⟨dx, sa, da, aa, _, _, _, _, t2, _, _, _, _, wa', ln', R', rfl, by rw [List.map_append, hS0]; rfl, hw', hln', hlw', ?_⟩ ?_
  · intro s hs
    rcases List.mem_append.mp hs with hs | hs
    · exact hlws s hs
    · rw [List.mem_singleton.mp hs]; exact hlw
  · intro x hx
    have : x ∈ Foot p sa da aa (T0 ++ [(t, w, D)]) ++ [t2] := by simpa [Foot] using hx
    rcases List.mem_append.mp this with h | h
    · exact .inl h
    · rw [List.mem_singleton.mp h]; exact .inr ht2
def spDo (K : PySem.W.Frag) : Sp := fun vs H Q _ => ∃ (p b0 : Addr) (F : List Addr) (S0 : List St1) (w : List Int) (D : Dc) (dn la : List Deed) (d : Deed) (w' : List Int), vs = [.ref p, .ref b0] ∧ LiveAt K H p F S0 w D dn la ∧ SqT K H b0 d.v ∧ d.ok ∧ after w d = some w' ∧ S0.length ≤ 1000 ∧ dn.length ≤ 1000 ∧
  ∀ (H' : Hp) (F' : List Addr), Chg K F H H' → LiveAt K H' p F' (S0 ++ [(w, D)]) w' D (dn ++ [d]) [] → (∀ x ∈ F', x ∈ F ∨ H x = none) → Q .non H'
theorem ok_LW_do (T : Txt K mg) : OKm P w K mg base 8 "do" ["self", "deed"] (spDo K) := by
  refine T.f_LW_do.F.ok sc_LW_do (fun vs H Q E => by clear T; walk_at "k57len") (fun cdv A outer s H vs Q E hr h => ?_)
  obtain ⟨p, b0, F, S0, w, D, dn, la, d, w', rfl, hL, hb, hok, haf, sl, dl, k⟩ := h
  refine ⟨_, PSs.nox (pss_cons (ps_if (pt_not (pt_val (pe_call (ok_is_deed T) (hr.mono (by decide)) rfl T.f_is_deed.g T.f_is_deed.F.kp T.f_is_deed.b .nil pass0 (pa_cons (pv 1) pa_nil)))) (pss_one ps_never) pss_nil)
      (pss_cons (ps_expr (pe_meth (pv 0) T.cl_LW T.f_LW_go_on.m (ok_LW_go_on T) (hr.mono (by decide)) T.f_LW_go_on.b .nil pass0 (pa_cons (pv 1) pa_nil)))
      (pss_one (ps_fld (pv 0) (pe_lst pa_nil) rfl)))), ?_⟩
  refine ⟨_, rfl, b0, d, rfl, hb, hok, fun H1 s1 => ⟨_, rfl, ?_⟩⟩
  refine iteF ?_
  have hL1 := hL.same s1
  have hp : ∃ C dx fs, H1 p = some (.ins C dx fs) ∧ C = LWc K ∧ fs.lookup ("go_on" : Str) = none := by
    obtain ⟨dx, sa, da, aa, qs, dqs, lqs, T0, t, e, b, f, g, wa, ln, R, _⟩ := hL1
    exact ⟨_, _, _, R.o, rfl, rfl⟩
  obtain ⟨C, dx, fs, o, rfl, lk⟩ := hp
  refine ⟨_, rfl, p, dx, _, rfl, o, lk, _, rfl, ?_⟩
  refine ⟨p, b0, F, S0, w, D, dn, la, d, w', rfl, hL1, sameT s1 hb, hok, haf, sl, dl, fun H2 F2 c2 hL2 hF2 => ?_⟩
  obtain ⟨dx, sa, da, aa, qs, dqs, lqs, T0, t, e, b, f, g, wa, ln, R, rfl, hS0, hw, hln, hlw, hlws⟩ := hL2
  -- self.later = []
  refine ⟨(by show 0 ≤ sizeLine; decide), fun aa' na => ?_⟩
  have s3 := same_upd (o := HO.lst []) na
  have R3 := R.same s3
  have fr : ∀ x ∈ Foot p sa da aa (T0 ++ [(t, w', D)]), x ≠ aa' := by
    intro x hx z
    subst z
    simp only [Foot, List.mem_cons] at hx
    rcases hx with rfl | rfl | rfl | rfl | hx
    · have := R.o; rw [na] at this; cases this
    · have := R.s; rw [na] at this; cases this
    · have := R.d; rw [na] at this; cases this
    · have := R.a; rw [na] at this; cases this
    · obtain ⟨t', h1, h2⟩ := List.mem_map.mp hx
      obtain ⟨i, hi⟩ := List.getElem?_of_mem h1
      obtain ⟨_, _, _, _, _, z⟩ := Paired.at R.ss hi
      rw [h2, na] at z
      cases z
  have R4 := R3.setA (aa' := aa') (lqs' := []) (la' := []) upd_same .nil (fun z => fr _ z rfl)
  refine ⟨_, rfl, p, _, dx, _, rfl, R3.o, T.cl_LW, T.na_later, (by show 9 < 1000; decide), ?_⟩
  rw [putF_later]
  have hpF : p ∈ F := by
    rcases hF2 p (by simp) with h | h
    · exact h
    · rw [o] at h; cases h
  have hna : H1 aa' = none ∨ aa' ∈ F := by
    by_cases z : aa' ∈ F
    · exact .inr z
    · exact .inl (c2.free z na)
  have d4 : Chg K [p] (upd H2 aa' (.lst [])) _ := Chg.upd (o := .ins (LWc K) dx (flds e b (.ref wa) (.ref ln) f g (.ref sa) (.ref da) (.ref aa'))) R3.o trivial (by simp)
  have c4 : Chg K F H1 _ := (c2.then s3).trans d4 fun x h => .inl (by rw [List.mem_singleton.mp h]; exact hpF)
  refine k _ (Foot p sa da aa' (T0 ++ [(t, w', D)])) ((Chg.of s1).trans c4 fun x h => .inl h) ⟨dx, sa, da, aa', _, _, _, _, t, _, _, _, _, wa, ln, R4, rfl, hS0, d4.wt (sameT s3 hw), d4.rt (hln.same s3), hlw, hlws⟩ ?_
  intro x hx
  simp only [Foot, List.mem_cons] at hx
  have free : ∀ x, H1 x = none → H x = none := fun x h => s1.free h
  have old : ∀ x ∈ Foot p sa da aa (T0 ++ [(t, w', D)]), x ∈ F ∨ H x = none := fun x h => (hF2 x h).imp id (free x)
  rcases hx with rfl | rfl | rfl | rfl | hx
  · exact old _ (by simp)
  · exact old _ (by simp)
  · exact old _ (by simp)
  · exact hna.symm.imp id (free _)
  · exact old _ (by simp only [Foot, List.mem_cons]; exact .inr (.inr (.inr (.inr hx))))
def spUndo (K : PySem.W.Frag) : Sp := fun vs H Q _ => ∃ (p : Addr) (F : List Addr) (S0 : List St1) (w0 : List Int) (D0 : Dc) (w : List Int) (D : Dc) (dn la : List Deed) (d : Deed), vs = [.ref p] ∧ LiveAt K H p F (S0 ++ [(w0, D0)]) w D (dn ++ [d]) la ∧ la.length ≤ 1000 ∧
  ∀ (H' : Hp) (F' : List Addr), Chg K F H H' → LiveAt K H' p F' S0 w0 D0 dn (la ++ [d]) → (∀ x ∈ F', x ∈ F ∨ H x = none) → Q .non H'
theorem ok_LW_undo (T : Txt K mg) : OKm P w K mg base 4 "undo" ["self"] (spUndo K) := by
  refine T.f_LW_undo.F.ok sc_LW_undo (fun vs H Q E => by clear T; walk_at "k57len") (fun cdv A outer s H vs Q E hr h => ?_)
  obtain ⟨p, F, S0, w0, D0, w, D, dn, la, d, rfl, ⟨dx, sa, da, aa, qs, dqs, lqs, TT, t, e, b, f, g, wa, ln, R, rfl, hS0, hw, hln, hlw, hlws⟩, ll, k⟩ := h
  refine ⟨_, PSs.nox (pss_cons (ps_if (pt_cmpR (eqD_K (K := K) hr.units) (pe_fld (pv 0) rfl) (pe_lst pa_nil) (nomark _)) (pss_one ps_never) pss_nil)
      (pss_cons (ps_expr (pe_bm PySem.F.plainAttrs_list PySem.F.slot_list_append PySem.F.type_list_append mt_append (pe_fld (pv 0) rfl) (pa_cons (pe_bm0 PySem.F.plainAttrs_list PySem.F.slot_list_pop PySem.F.type_list_pop mt_pop (pe_fld (pv 0) rfl)) pa_nil)))
      (pss_cons (ps_expr (pe_bm0 PySem.F.plainAttrs_list PySem.F.slot_list_pop PySem.F.type_list_pop mt_pop (pe_fld (pv 0) rfl)))
      (pss_one (ps_expr (pe_meth0 (pv 0) T.cl_LW T.f_LW_settle.m (ok_LW_settle T) (hr.mono (by decide)) T.f_LW_settle.b .nil pass0)))))), ?_⟩
  obtain ⟨T0, T1, rfl, hT0, hT1⟩ := List.map_eq_append_iff.mp hS0
  obtain ⟨t0, rfl⟩ := one_of_map hT1
  -- if self.done == []
  refine ⟨_, rfl, p, _, dx, _, _, rfl, R.o, T.cl_LW, T.na_done, rfl, (by show 0 ≤ sizeLine; decide), fun n nn => ?_⟩
  have s1 := same_upd (o := HO.lst []) nn
  have R1 := R.same s1
  refine ⟨_, _, dp_deeds (SqL.of R1.d) R1.dd, dp_nil (SqL.of upd_same), shaped_deeds _, shaped_list _, _, rfl, ?_⟩
  rw [eqv_deeds]
  rw [show (dn ++ [d]).isEmpty = false by cases dn <;> rfl]
  refine iteF ?_
  generalize upd H n (.lst []) = H1 at s1 R1 ⊢
  -- self.later.append(self.done.pop())
  obtain ⟨dqs0, dq, rfl, hd0, hd1⟩ : ∃ q0 q, dqs = q0 ++ [q] ∧ Paired (fun q d => SqT K H1 q (Deed.v d)) q0 dn ∧ SqT K H1 q d.v := by
    obtain ⟨q1, q2, rfl, h1, h2⟩ := Paired.split R1.dd
    cases h2 with
    | cons h2 t2 =>
      cases t2
      exact ⟨q1, _, rfl, h1, h2⟩
  refine ⟨_, rfl, p, _, dx, _, _, rfl, R1.o, T.cl_LW, T.na_later, rfl, .inl ⟨rfl, _, SqL.of R1.a⟩, _, rfl, p, _, dx, _, _, rfl, R1.o, T.cl_LW, T.na_done, rfl, .inl ⟨rfl, _, SqL.of R1.d⟩, ?_⟩
  refine ⟨da, _, .ref dq, rfl, rfl, R1.d, (by simp), ?_⟩
  have R2 := R1.setD (dqs' := dqs0) hd0
  have d2 : Chg K [da] H1 _ := Chg.upd (o := .lst (dqs0.map V.ref)) R1.d trivial (by simp)
  rw [show ((dqs0 ++ [dq]).map V.ref).dropLast = dqs0.map V.ref by simp]
  generalize upd H1 da (.lst (dqs0.map V.ref)) = H2 at R2 d2 ⊢
  refine ⟨aa, _, _, rfl, rfl, R2.a, (by rw [List.length_map, Paired.len R2.ll]; exact line_lt (by omega)), ?_⟩
  have R3 := R2.setL (lqs' := lqs ++ [dq]) (la' := la ++ [d]) (Paired.snoc R2.ll (d2.seq _ _ hd1))
  have d3 : Chg K [aa] H2 _ := Chg.upd (o := .lst ((lqs ++ [dq]).map V.ref)) R2.a trivial (by simp)
  rw [show (lqs ++ [dq]).map V.ref = lqs.map V.ref ++ [V.ref dq] by simp] at R3 d3
  generalize upd H2 aa (.lst (lqs.map V.ref ++ [V.ref dq])) = H3 at R3 d3 ⊢
  -- self.states.pop()
  obtain ⟨q0, q, rfl, hq0, _⟩ := last_st R3.ss
  refine ⟨_, rfl, p, _, dx, _, _, rfl, R3.o, T.cl_LW, T.na_states, rfl, .inl ⟨rfl, _, SqL.of R3.s⟩, ?_⟩
  refine ⟨sa, _, .ref q, rfl, rfl, R3.s, (by simp), ?_⟩
  have nd0 : (p :: sa :: da :: aa :: (T0 ++ [(t0, w0, D0)]).map (·.1)).Nodup := by
    have h := R3.nd
    rw [List.map_append (l₁ := T0 ++ [(t0, w0, D0)])] at h
    exact h.sublist (((((List.sublist_append_left _ _).cons_cons _).cons_cons _).cons_cons _).cons_cons _)
  have R4 := R3.setS (qs' := q0) hq0 nd0
  have d4 : Chg K [sa] H3 _ := Chg.upd (o := .lst (q0.map V.ref)) R3.s trivial (by simp)
  rw [show ((q0 ++ [q]).map V.ref).dropLast = q0.map V.ref by simp]
  generalize upd H3 sa (.lst (q0.map V.ref)) = H4 at R4 d4 ⊢
  have hm0 : Lw w0 := hlws (w0, D0) (by simp)
  -- self.settle()
  refine ⟨_, rfl, p, dx, _, rfl, R4.o, rfl, p, dx, sa, da, aa, _, _, _, _, t0, w0, D0, _, _, _, _, _, _, _, _, rfl, R4, (by have := hm0.len; omega), fun H' wa' ln' f' g' c' R' hw' hln' => ?_⟩
  have cc : Chg K (Foot p sa da aa ((T0 ++ [(t0, w0, D0)]) ++ [(t, w, D)])) H H' := by
    have c1 : Chg K (Foot p sa da aa ((T0 ++ [(t0, w0, D0)]) ++ [(t, w, D)])) H H1 := .of s1
    exact (((c1.trans d2 fun x h => .inl (by simp at h; simp [h])).trans d3 fun x h => .inl (by simp at h; simp [h])).trans d4 fun x h => .inl (by simp at h; simp [h])).trans c' fun x h => .inl (by simp at h; simp [h])
  refine k H' (Foot p sa da aa (T0 ++ [(t0, w0, D0)])) cc ⟨dx, sa, da, aa, _, _, _, T0, t0, _, _, _, _, wa', ln', R', rfl, hT0, hw', hln', hm0, fun s hs => hlws s (List.mem_append_left _ hs)⟩ ?_
  intro x hx
  refine .inl ?_
  simp only [Foot, List.mem_cons, List.map_append, List.mem_append] at hx ⊢
  rcases hx with h | h | h | h | h
  · exact .inl h
  · exact .inr (.inl h)
  · exact .inr (.inr (.inl h))
  · exact .inr (.inr (.inr (.inl h)))
  · exact .inr (.inr (.inr (.inr (.inl h))))
def spRedo (K : PySem.W.Frag) : Sp := fun vs H Q _ => ∃ (p : Addr) (F : List Addr) (S0 : List St1) (w : List Int) (D : Dc) (dn la : List Deed) (d : Deed) (w' : List Int), vs = [.ref p] ∧ LiveAt K H p F S0 w D dn (la ++ [d]) ∧ d.ok ∧ after w d = some w' ∧ S0.length ≤ 1000 ∧ dn.length ≤ 1000 ∧
  ∀ (H' : Hp) (F' : List Addr), Chg K F H H' → LiveAt K H' p F' (S0 ++ [(w, D)]) w' D (dn ++ [d]) la → (∀ x ∈ F', x ∈ F ∨ H x = none) → Q .non H'
theorem ok_LW_redo (T : Txt K mg) : OKm P w K mg base 8 "redo" ["self"] (spRedo K) := by
  refine T.f_LW_redo.F.ok sc_LW_redo (fun vs H Q E => by clear T; walk_at "k57len") (fun cdv A outer s H vs Q E hr h => ?_)
  obtain ⟨p, F, S0, w, D, dn, la, d, w', rfl, hL, hok, haf, sl, dl, k⟩ := h
  refine ⟨_, PSs.nox (pss_cons (ps_if (pt_cmpR (eqD_K (K := K) hr.units) (pe_fld (pv 0) rfl) (pe_lst pa_nil) (nomark _)) (pss_one ps_never) pss_nil)
      (pss_cons (ps_expr (pe_meth (pv 0) T.cl_LW T.f_LW_go_on.m (ok_LW_go_on T) (hr.mono (by decide)) T.f_LW_go_on.b .nil pass0 (pa_cons (pe_ix (ixl_K (K := K)) (pe_fld (pv 0) rfl) (pe_un un_neg pe_int) (fun _ _ => rfl)) pa_nil)))
      (pss_one (ps_expr (pe_bm0 PySem.F.plainAttrs_list PySem.F.slot_list_pop PySem.F.type_list_pop mt_pop (pe_fld (pv 0) rfl)))))), ?_⟩
  obtain ⟨dx, sa, da, aa, qs, dqs, lqs, T0, t, e, b, f, g, wa, ln, R, hF, hrest⟩ := id hL
  -- if self.later == []
  refine ⟨_, rfl, p, _, dx, _, _, rfl, R.o, T.cl_LW, T.na_later, rfl, (by show 0 ≤ sizeLine; decide), fun n nn => ?_⟩
  have s1 := same_upd (o := HO.lst []) nn
  have R1 := R.same s1
  refine ⟨_, _, dp_deeds (SqL.of R1.a) R1.ll, dp_nil (SqL.of upd_same), shaped_deeds _, shaped_list _, _, rfl, ?_⟩
  rw [eqv_deeds]
  rw [show (la ++ [d]).isEmpty = false by cases la <;> rfl]
  refine iteF ?_
  have hL1 := hL.same s1
  generalize upd H n (.lst []) = H1 at s1 R1 hL1 ⊢
  -- self.go_on(self.later[-1])
  obtain ⟨lqs0, lq, rfl, hl0, hl1⟩ : ∃ q0 q, lqs = q0 ++ [q] ∧ Paired (fun q d => SqT K H1 q (Deed.v d)) q0 la ∧ SqT K H1 q d.v := by
    obtain ⟨q1, q2, rfl, h1, h2⟩ := Paired.split R1.ll
    cases h2 with
    | cons h2 t2 =>
      cases t2
      exact ⟨q1, _, rfl, h1, h2⟩
  refine ⟨_, rfl, p, dx, _, rfl, R1.o, rfl, _, rfl, p, _, dx, _, _, rfl, R1.o, T.cl_LW, T.na_later, rfl, _, rfl, aa, _, _, _, rfl, rfl, SqL.of R1.a, atI_last', ?_⟩
  refine ⟨p, lq, F, S0, w, D, dn, la ++ [d], d, w', rfl, hL1, hl1, hok, haf, sl, dl, fun H2 F2 c2 hL2 hF2 => ?_⟩
  obtain ⟨dx2, sa2, da2, aa2, qs2, dqs2, lqs2, T2, t2, e2, b2, f2, g2, wa2, ln2, R2, rfl, hS2, hw2, hln2, hlw2, hlws2⟩ := hL2
  -- self.later.pop()
  obtain ⟨l0, l1, rfl, hl2, hl3⟩ : ∃ q0 q, lqs2 = q0 ++ [q] ∧ Paired (fun q d => SqT K H2 q (Deed.v d)) q0 la ∧ SqT K H2 q d.v := by
    obtain ⟨q1, q2, rfl, h1, h2⟩ := Paired.split R2.ll
    cases h2 with
    | cons h2 t2 =>
      cases t2
      exact ⟨q1, _, rfl, h1, h2⟩
  refine ⟨_, rfl, p, _, dx2, _, _, rfl, R2.o, T.cl_LW, T.na_later, rfl, .inl ⟨rfl, _, SqL.of R2.a⟩, ?_⟩
  refine ⟨aa2, _, .ref l1, rfl, rfl, R2.a, (by simp), ?_⟩
  have R3 := R2.setL (lqs' := l0) hl2
  have d3 : Chg K [aa2] H2 _ := Chg.upd (o := .lst (l0.map V.ref)) R2.a trivial (by simp)
  rw [show ((l0 ++ [l1]).map V.ref).dropLast = l0.map V.ref by simp]
  refine k _ _ ((Chg.of s1).trans (c2.trans d3 fun x h => hF2 x (by rw [List.mem_singleton.mp h]; simp)) fun x h => .inl h) ⟨dx2, sa2, da2, aa2, _, _, _, T2, t2, _, _, _, _, wa2, ln2, R3, rfl, hS2, d3.wt hw2, d3.rt hln2, hlw2, hlws2⟩ ?_
  exact fun x hx => (hF2 x hx).imp id fun h => s1.free h
end
end K57
set_option Elab.async false
set_option linter.all false
set_option maxRecDepth 100000
set_option maxHeartbeats 4000000

/-! Walks: what is watched. -/
namespace K57
open PySem PySem.Spec PyProof.Rows L2
local macro_rules | `(tactic| walk_at "k57g") => `(tactic| repeat (first | refine ⟨_, rfl, ?_⟩ | refine ⟨_, _, rfl, rfl, ?_⟩ | refine ⟨_, _, rfl, rfl, _, rfl, ?_⟩))
local macro_rules | `(tactic| walk_at "k57len") => `(tactic| (intro h; first | (obtain ⟨e, _⟩ := h; subst e; rfl) | (obtain ⟨_, e, _⟩ := h; subst e; rfl) | (obtain ⟨_, _, e, _⟩ := h; subst e; rfl) | (obtain ⟨_, _, _, e, _⟩ := h; subst e; rfl) | (obtain ⟨_, _, _, _, e, _⟩ := h; subst e; rfl) | (obtain ⟨_, _, _, _, _, e, _⟩ := h; subst e; rfl) | (obtain ⟨_, _, _, _, _, _, e, _⟩ := h; subst e; rfl) | (obtain ⟨_, _, _, _, _, _, _, e, _⟩ := h; subst e; rfl) | (obtain ⟨_, _, _, _, _, _, _, _, e, _⟩ := h; subst e; rfl) | ((repeat (obtain ⟨_, h⟩ := h)); subst_vars; rfl)))

theorem Paired.ofIx {α β : Type} {F : α → β → Prop} : ∀ {l : List α} {m : List β}, l.length = m.length → (∀ (i : Nat) (x : α) (y : β), l[i]? = some x → m[i]? = some y → F x y) → Paired F l m
  | [], [], _, _ => .nil
  | _ :: _, [], h, _ => by simp at h
  | [], _ :: _, h, _ => by simp at h
  | a :: l, b :: m, h, k => .cons (k 0 a b rfl rfl) (Paired.ofIx (by simpa using h) fun i x y h1 h2 => k (i + 1) x y (by simpa using h1) (by simpa using h2))
theorem Paired.ofRange {α β : Type} {F : α → β → Prop} {G : Nat → β → Prop} {xs : List α} {ys : List β} (h : Paired G (List.range xs.length) ys) (k : ∀ i x y, xs[i]? = some x → G i y → F x y) : Paired F xs ys := by
  refine Paired.ofIx (by rw [← Paired.len h, List.length_range]) fun i x y h1 h2 => ?_
  obtain ⟨j, hj, hG⟩ := Paired.at h h2
  have hi := (List.getElem?_eq_some_iff.mp h1).1
  rw [List.getElem?_range hi] at hj
  cases hj
  exact k i x y h1 hG
theorem mergeK_nd {κ : Type} [DecidableEq κ] : ∀ (kvs more : List (κ × V)), ((kvs ++ more).map (·.1)).Nodup → more.foldl (fun acc kv => putK acc kv.1 kv.2) kvs = kvs ++ more
  | kvs, [], _ => by simp
  | kvs, p :: more, h => by
    have hp : valV kvs p.1 = none := by
      cases e : valV kvs p.1 with
      | none => rfl
      | some v =>
        have h1 := valV_in e
        rw [List.map_append, List.nodup_append] at h
        exact absurd rfl (h.2.2 _ h1 p.1 (by simp))
    rw [List.foldl_cons, putK_new p.2 hp, mergeK_nd]
    · simp
    · simpa using h
theorem merge_nd {kvs : List (Key × V)} (h : (kvs.map (·.1)).Nodup) : mergeK [] kvs = kvs := by
  have := mergeK_nd [] kvs (by simpa using h)
  simpa [mergeK] using this
/-- a dict of pairs -/
abbrev Due := Str × Nat × Nat
def DT (K : PySem.W.Frag) (H : Hp) (kvs : List (Key × V)) (E : List Due) : Prop := Paired (fun (kv : Key × V) (e : Due) => kv.1 = .inr e.1 ∧ ∃ q, kv.2 = .ref q ∧ SqT K H q [.int (e.2.1 : Int), .int (e.2.2 : Int)]) kvs E
theorem DT.seq {K : PySem.W.Frag} {H H' : Hp} {kvs : List (Key × V)} {E : List Due} (h : DT K H kvs E) (s : ∀ a xs, SqT K H a xs → SqT K H' a xs) : DT K H' kvs E :=
  Paired.mapP h fun _ _ ⟨h1, q, h2, h3⟩ => ⟨h1, q, h2, s _ _ h3⟩
theorem DT.keys {K : PySem.W.Frag} {H : Hp} {kvs : List (Key × V)} {E : List Due} (h : DT K H kvs E) : kvs.map (·.1) = (E.map (·.1)).map Sum.inr := by
  induction h with
  | nil => rfl
  | cons h t ih => rw [List.map_cons, List.map_cons, List.map_cons, ih, h.1]
/-- the pairs (name, (many, so many)) of a comprehension become a dict -/
theorem dt_of {K : PySem.W.Frag} {H : Hp} {ys : List V} {E : List Due} (h : Paired (fun (e : Due) (y : V) => ∃ t q, y = .ref t ∧ SqT K H t [.str e.1, .ref q] ∧ SqT K H q [.int (e.2.1 : Int), .int (e.2.2 : Int)]) E ys) :
    ∃ (ps : List Addr) (kvs : List (Key × V)), ys = ps.map V.ref ∧ Paired (fun p kv => SqT K H p [kV kv.1, kv.2]) ps kvs ∧ DT K H kvs E := by
  induction h with
  | nil => exact ⟨[], [], rfl, .nil, .nil⟩
  | @cons e y _ _ h t ih =>
    obtain ⟨ps, kvs, rfl, h1, h2⟩ := ih
    obtain ⟨t, q, rfl, h3, h4⟩ := h
    exact ⟨t :: ps, (.inr e.1, .ref q) :: kvs, rfl, .cons h3 h1, .cons ⟨rfl, q, rfl, h4⟩ h2⟩
def dv (D : Dc) (n : Str) : Nat := (dGet D n).getD 0
def dueOf (w : List Int) (D : Dc) (n : Str) : Due := (n, dv D n, shp (dv D n) (Ln w))
theorem dv_of {D : Dc} {n : Str} (h : n ∈ D.map (·.1)) : dGet D n = some (dv D n) := by
  cases e : dGet D n with
  | none => exact absurd h (dGet_none e)
  | some m => unfold dv; rw [e]; rfl
theorem sum_lens (m : Nat) (rows : List (List Int)) : ((lens rows).take m).sum = (shp m rows : Int) := by
  unfold shp lens
  rw [← List.map_take]
  generalize rows.take m = r
  induction r with
  | nil => rfl
  | cons a r ih => simp only [List.map_cons, List.sum_cons, ih]; omega
theorem str_get {ss : List Str} {i : Nat} {x : V} (h : (ss.map V.str)[i]? = some x) : ∃ n, ss[i]? = some n ∧ x = .str n := by
  rw [List.getElem?_map] at h
  obtain ⟨n, h1, rfl⟩ := Option.map_eq_some_iff.mp h
  exact ⟨n, h1, rfl⟩
section
variable {P : Program} {w : World} {K : PySem.W.Frag} {mg : Str → Option Value} {base : Heap}
def spWatched (K : PySem.W.Frag) (N : Str → Prop) : Sp := fun vs H Q _ => ∃ (p : Addr) (F : List Addr) (S0 : List St1) (w : List Int) (D : Dc) (dn la : List Deed), vs = [.ref p] ∧ LiveAt K H p F S0 w D dn la ∧ DOk N D ∧ D.length < 64 ∧
  ∀ (d : Addr) (kvs : List (Key × V)) (ss : List Str) (H' : Hp), Same H H' → H d = none → H' d = some (.dK kvs) → ss.Perm (D.map (·.1)) → sortedS ss = true → DT K H' kvs (ss.map (dueOf w D)) → Q (.ref d) H'
theorem ok_LW_watched {N : Str → Prop} (T : Txt K mg) : OKm P w K mg base 2 "watched" ["self"] (spWatched K N) := by
  refine T.f_LW_watched.F.ok sc_LW_watched (fun vs H Q E => by clear T; walk_at "k57len") (fun cdv A outer s H vs Q E hr h => ?_)
  obtain ⟨p, F, S0, w, D, dn, la, rfl, ⟨dx, sa, da, aa, qs, dqs, lqs, T0, t, e, b, f, g, wa, ln, R, rfl, hS0, hw, hln, hlw, hlws⟩, hD, h64, k⟩ := h
  refine ⟨_, PSs.nox (pss_cons (ps_asg (pe_tup (pa_cons (pe_ix (ixt_K (K := K)) (pe_ix (ixl_K (K := K)) (pe_fld (pv 0) rfl) (pe_un un_neg pe_int) (fun _ _ => rfl)) pe_int (fun _ _ => rfl)) (pa_cons (pe_call (ok_lengths_of T) (hr.mono (by decide)) rfl T.f_lengths_of.g T.f_lengths_of.F.kp T.f_lengths_of.b .nil pass0 (pa_cons (pe_fld (pv 0) rfl) pa_nil)) pa_nil))) (pg_tup rfl (pgs_cons (pg_name (i := 1) sc_LW_watched.nd rfl (Or.inr rfl)) (pgs_cons (pg_name (i := 2) sc_LW_watched.nd rfl (Or.inr rfl)) pgs_nil))))
      (pss_one (ps_ret (pe_callTy (call_dictP rfl) (by rfl) T.b_dict bb_dict (pa_cons (pe_lc (own := [("name", 3)]) (g := gName 3) (by rfl) sc_LW_watched.nd (pil_K (K := K) (pe_callB (call_sortedD rfl) (by rfl) T.b_sorted bb_sorted (pa_cons (pv 1) pa_nil))) (blkOk_by (N := ["self", "seen", "shape", "name"]) (sc := defScope s_LW_watched) (by decide +kernel)) (fun _ _ _ _ _ => pg_name (i := 3) sc_LW_watched.nd rfl (Or.inl rfl)) (fun _ _ _ _ _ => pts_nil) (fun _ _ _ _ _ => (pe_tup (pa_cons (pv 3) (pa_cons (pe_tup (pa_cons (pe_dget (u1 hr.units) (pv 1) (pv 3) (fun _ _ => rfl)) (pa_cons (pe_callB (k57_sumT (K := K)) (by rfl) T.b_sum bb_sum (pa_cons (pe_slice (slt_K (K := K)) (pv 2) po_none (po_some (pe_dget (u1 hr.units) (pv 1) (pv 3) (fun _ _ => rfl)))) pa_nil)) pa_nil))) pa_nil))))) pa_nil))))), ?_⟩
  obtain ⟨q0, q, rfl, hq0, wq, hq1, hq2, hq3⟩ := last_st R.ss
  -- seen, shape = (self.states[-1][1], lengths_of(self.lines))
  refine ⟨_, rfl, p, _, dx, _, _, rfl, R.o, T.cl_LW, T.na_states, rfl, _, rfl, sa, _, _, _, rfl, rfl, SqL.of R.s, atI_last', ?_⟩
  refine ⟨q, _, _, _, rfl, rfl, hq1, rfl, ?_⟩
  have hrl := rows_Ln w
  refine ⟨_, rfl, p, _, dx, _, _, rfl, R.o, T.cl_LW, T.na_lines, rfl, ln, Ln w, rfl, hln, (by have := hlw.len; omega), fun sh H1 s1 nsh hsh => ?_⟩
  refine ⟨(by show 2 ≤ sizeLine; decide), fun u nu => ⟨u, _, rfl, SqT.of upd_same, rfl, _, _, rfl, _, _, rfl, rfl, ?_⟩⟩
  have s2 := same_upd (o := HO.tup [.ref t, .ref sh]) nu
  have s12 := s1.trans s2
  have hsh2 : Wt K _ sh (lens (Ln w)) := sameT s2 hsh
  have ht2 := s12 _ _ hq3
  dsimp only at ht2
  generalize upd H1 u (.tup [.ref t, .ref sh]) = H2 at s2 s12 hsh2 ht2 ⊢
  -- sorted(seen)
  refine ⟨_, rfl, t, kvD D, D.map (·.1), rfl, .inl ht2, keys_kvD D, (by rw [List.length_map]; exact h64), fun ss l hpm hss nl => ?_⟩
  have s3 := same_upd (o := HO.lst (ss.map V.str)) nl
  have hl3 := upd_same (H := H2) (a := l) (o := HO.lst (ss.map V.str))
  have s13 := s12.trans s3
  have hsh3 := sameT s3 hsh2
  have ht3 := s3 _ _ ht2
  generalize upd H2 l (.lst (ss.map V.str)) = H3 at s3 hl3 s13 hsh3 ht3 ⊢
  have hlen : ss.length ≤ 64 := by rw [hpm.length_eq, List.length_map]; omega
  refine ⟨l, rfl, ⟨_, SqL.of hl3⟩, fun M nM => ?_⟩
  refine lcrm (walk_list (K := K) (a := l) (xs := ss.map V.str)) (by simp; omega) nM
    (fun i y H' => ∃ t q n, ss[i]? = some n ∧ y = .ref t ∧ t ≠ M ∧ q ≠ M ∧ SqT K H' t [.str n, .ref q] ∧ SqT K H' q [.int (dv D n : Int), .int (shp (dv D n) (Ln w) : Int)])
    (fun i y H1 H2 ⟨t, q, n, h1, h2, h3, h4, h5, h6⟩ bt => ⟨t, q, n, h1, h2, h3, h4, sqT_but bt h3 h5, sqT_but bt h4 h6⟩) (fun H s => s.seq (SqL.of hl3)) yAt_same (fun i z H4 H4' ys N hi s4 hM hy hN => ?_) (fun H4 ys s4 e pr => ?_)
  · obtain ⟨rfl, hz⟩ := hy
    obtain ⟨n, hn, rfl⟩ := str_get hz
    have hnD : n ∈ D.map (·.1) := hpm.mem_iff.mp (List.mem_of_getElem? hn)
    have hg : valV (kvD D) (.inr n) = some (.int (dv D n : Int)) := by rw [valV_kvD, dv_of hnD]; rfl
    have ht4 := s4 _ _ ht3
    have hsh4 := sameT s4 hsh3
    refine ⟨rfl, _, rfl, _, rfl, _, rfl, t, _, rfl, hg ▸ DGet.k (k := .inr n) ht4, ?_⟩
    refine ⟨_, rfl, ?_⟩
    unfold tNoPart
    refine ⟨_, rfl, _, rfl, t, _, rfl, hg ▸ DGet.k (k := .inr n) ht4, _, rfl, ?_⟩
    refine slA hsh4 fun c H5 s5 hc => ?_
    rw [cut_pre, ← List.map_take] at hc
    refine ⟨c, _, rfl, hc, ?_⟩
    rw [sum_lens]
    refine ⟨(by show 2 ≤ sizeLine; decide), fun q nq => ⟨(by show 2 ≤ sizeLine; decide), fun t2 nt2 => ?_⟩⟩
    have s6 := same_upd (o := HO.tup [.int (dv D n : Int), .int (shp (dv D n) (Ln w) : Int)]) nq
    have s7 := same_upd (o := HO.tup [.str n, .ref q]) nt2
    have m5 := s5 _ _ hM
    have m6 := s6 _ _ m5
    exact hN _ _ (s5.trans (s6.trans s7)) ⟨t2, q, n, hn, rfl, (ne_of_none m6 nt2).symm, (ne_of_none m5 nq).symm, SqT.of upd_same, SqT.of (s7 _ _ upd_same)⟩
  · rw [List.length_map] at pr
    obtain ⟨ps, kvs, rfl, h1, h2⟩ := dt_of (E := ss.map (dueOf w D)) (Paired.ofRange (xs := ss.map (dueOf w D)) (by rw [List.length_map]; exact pr) fun i x y hx hG => by
      obtain ⟨n, hn, rfl⟩ := Option.map_eq_some_iff.mp (by rw [← List.getElem?_map]; exact hx)
      obtain ⟨t, q, n', hn', h2, _, _, h5, h6⟩ := hG
      rw [hn] at hn'
      cases hn'
      exact ⟨t, q, h2, h5, h6⟩)
    have hk := h2.keys
    have he : (ss.map (dueOf w D)).map (·.1) = ss := by rw [List.map_map]; exact List.map_id _
    rw [he] at hk
    have hnd : (kvs.map (·.1)).Nodup := by
      rw [hk]
      exact (hpm.nodup_iff.mpr hD.nd).map (f := Sum.inr) (fun a b h z => h (by injection z))
    refine ⟨M, ps, kvs, rfl, SqL.of e, h1, fun d nd => ?_⟩
    rw [merge_nd hnd]
    have s5 := s4.trans (same_upd (o := HO.dK kvs) nd)
    exact k d kvs ss _ (s13.trans s5) ((s13.trans s4).free nd) upd_same hpm hss (h2.seq fun a xs h => sameT (same_upd nd) h)
end
end K57
set_option Elab.async false
set_option linter.all false
set_option maxRecDepth 100000
set_option maxHeartbeats 4000000

/-! Exceptions held as values: a caught one is kept, asked for its class, its field read. -/
namespace K57
open PySem PySem.Spec PyProof.Rows L2
/-- an exception of an own class, as it lies in the heap once it was caught -/
def EX (C : Addr) (d : Option Addr) (a : Addr) : HO := .ext fun h => ∃ (oe : Obj) (vs : Array Value), h.get? a = some oe ∧ Zc (.ref C) d oe ∧ oe.data = .fields vs
theorem ex_ok {P : Program} {w : World} {H : Hp} {h : Heap} {a C : Addr} {d : Option Addr} {oe : Obj} {vs : Array Value} (e : h.get? a = some oe) (z : Zc (.ref C) d oe) (f : oe.data = .fields vs) : ObjOk P w H h a (EX C d a) :=
  ⟨⟨oe, vs, e, z, f⟩, ⟨oe, e⟩, fun _ _ ⟨o, v, q, r⟩ k => ⟨o, v, k o q, r⟩⟩
section
variable {X : Cx} {pins : List (Addr × Obj)} {σ : L2.St} {H : Hp} {s : Shared}
/-- what is new since the entry, and known, is told of from now on -/
theorem tell {a : Addr} {o : HO} (I : Inv X pins σ H s) (n0 : X.s_0.heap.get? a = none) (hn : H a = none) (nL : a ≠ X.env.locals) (nC : ∀ x c, X.env.cells.lookup x = some c → c ≠ a) (nP : ∀ p ∈ X.pn ++ pins, p.1 ≠ a)
    (new : ObjOk X.prog X.w (upd H a o) s.heap a o) : Inv X pins σ (upd H a o) s := by
  have ne0 : ∀ {b : Addr} {u : Obj}, X.s_0.heap.get? b = some u → b ≠ a := fun e z => by rw [z, n0] at e; cases e
  have neH : ∀ {b : Addr} {u : HO}, H b = some u → b ≠ a := fun e => ne_of_none e hn
  have U : Un X.fs X.ex X.H_0 (upd H a o) X.s_0.heap s.heap :=
    { keep := I.base.keep, slot := I.base.slot, there := I.base.there
      free := fun b u e n x => (upd_ne (ne0 e)).trans (I.base.free b u e n x)
      tups := fun b xs e => by have q := I.base.tups b xs e; rw [upd_ne (neH q)]; exact q
      frzs := fun b u xs e => by have q := I.base.frzs b u xs e; rw [upd_ne (neH q)]; exact q
      tbls := fun b ps e => by obtain ⟨m, q⟩ := I.base.tbls b ps e; exact ⟨m, by rw [upd_ne (neH q)]; exact q⟩ }
  have hk : HOk X.prog X.w (upd H a o) s.heap := fun b u e => by
    by_cases hb : b = a
    · rw [hb, upd_same] at e
      cases e
      rw [hb]
      exact new
    · rw [upd_ne hb] at e
      exact (I.hok b u e).stay (fun _ _ _ q => q) (fun c q => (upd_ne (neH q)).trans q) (fun c xs q => (upd_ne (neH q)).trans q)
  have hp : ∀ p ∈ X.pn ++ pins, s.heap.get? p.1 = some p.2 ∧ upd H a o p.1 = none ∧ p.1 ≠ X.env.locals ∧ p.1 ∉ X.fs ∧ ∀ v, p.2.data ≠ .cell v := fun p hm => by
    obtain ⟨e1, e2, e3⟩ := I.pin p hm
    exact ⟨e1, (upd_ne (nP p hm)).trans e2, e3⟩
  exact ⟨I.ok, I.os, I.bare, U, I.loc, I.cell, (upd_ne nL.symm).trans I.free, fun x c e => (upd_ne (nC x c e)).trans (I.freeC x c e), hp, hk, I.len⟩
end
/-- what the clause wishes: any exception of the named class; behind the suite its object is told of, its name gone -/
def wKeep (K : PySem.W.Frag) (c : Value) (i n : Nat) (ts : Addr → Addr → Option Addr → TS) (D : Ends) : WX := fun cls d σ H => σ.length = n →
  ∃ C, cls = .ref C ∧ PySem.W.exmOne K cls c = some true ∧ ∀ a, H a = none → ts a C d { nx := fun σ' H' => H' a = none → D.nx (σ'.set i none) (upd H' a (EX C d a)), rt := fun _ _ => False, bk := fun _ _ => False, ct := fun _ _ => False } (σ.set i (some (.ref a))) H
section
variable {X : Cx} {x n : Str} {c : Value} {i : Nat} {body suite : List Stmt} {b₀ : Stmt} {np pos pos' : Pos} {tb : WX → TS} {ts : Addr → Addr → Option Addr → TS}
theorem ps_try_keep (hs : X.stack = X.env :: X.outer) (hf : X.env.frame = some X.env.locals) (hN : X.N.Nodup) (hi : X.N[i]? = some n) (hln : X.env.kindOf n = some .local) (hc : Names X x c) (hex : X.ex = [])
    (hb : ∀ (W : WX) (pn : List (Addr × Obj)) (xe : Value → Shared → Prop), Takes (X.tr pn xe) W → PassesOwn (model X.prog X.w) X.A X.env xe → PSs (X.tr pn xe) body (tb W))
    (hsu : ∀ (a C : Addr) (oe : Obj) (d : Option Addr) (pn : List (Addr × Obj)), PSs (X.suite a ((a, oe) :: pn)) (b₀ :: suite) (ts a C d)) :
    PS X (.Try body [.ExceptHandler (some (.Name x np)) (some n) (b₀ :: suite) pos'] [] [] pos) (fun D σ H => tb (wKeep X.K c i X.N.length ts D) D σ H) := by
  refine ⟨fun pins s σ H D I h => wpAny_Try_except ?_⟩
  have ok := I.ok
  have hfr : X.A.frames = some (X.env :: X.outer) := ok.frames.trans (congrArg some hs)
  let XX : Value → Shared → Prop := fun e s₁ => wpAny (model X.prog X.w) X.A (noteFrame e X.env) (fun _ s₂ => wpAny (model X.prog X.w) X.A (setFlight e none) (fun _ s₃ => wpAny (model X.prog X.w) X.A (handleBy e X.env [.ExceptHandler (some (.Name x np)) (some n) (b₀ :: suite) pos']) (SP X pins D) X.xe s₃) X.xe s₂) X.xe s₁
  have catch_ : Takes (X.tr (X.pn ++ pins) XX) (wKeep X.K c i X.N.length ts D) := by
    rintro _ s' ⟨a, B, sI, pins', σ', H', cls, d, rfl, J', nb, up, sky, na, os, ag, hW⟩
    obtain ⟨C, rfl, hm, hy⟩ := hW J'.len
    have J : Inv X pins σ' H' sI := J'.ofTry ok
    have sk : Sky B (X.env :: X.outer) a (Zc (.ref C) d) X.env.locals s'.heap := by rw [← hs]; exact sky
    have Ba : B.get? a = none := by
      rcases sk with z | z | z
      · exact z.2.1
      · exact z.2.1
      · exact z.2.1
    show wpAny (model X.prog X.w) X.A (noteFrame (.ref a) X.env) _ _ _
    refine Sky.land Zc.steady hfr hf sk fun h3 f3 u3 => ?_
    have J3 : Inv X pins σ' H' { s' with heap := h3 } := J.landed nb f3.1 (up.trans u3) os ag
    obtain ⟨o3, v3, e3, z3, d3⟩ := f3.there
    have nFr : a ∉ frs (X.env :: X.outer) := fun hm => by
      obtain ⟨_, o', e', q⟩ := f3.2.2.1.mem hm
      rw [e3] at e'
      cases e'
      exact q _ d3
    have inFr : ∀ {e : Env} {L : Addr}, e ∈ X.env :: X.outer → e.frame = some L → L ∈ frs (X.env :: X.outer) := fun he q => List.mem_filterMap.mpr ⟨_, he, q⟩
    have nL : a ≠ X.env.locals := fun z => nFr (by rw [z]; exact inFr List.mem_cons_self hf)
    have nF : a ∉ X.fs := fun hm => by
      obtain ⟨e, he, q⟩ := List.mem_filterMap.mp hm
      exact nFr (inFr (List.mem_cons_of_mem _ he) q)
    have nI : sI.heap.get? a = none := by
      cases e : sI.heap.get? a with
      | none => rfl
      | some o => exact absurd (nb a o e (by rw [hs]; exact nFr)) (by rw [Ba]; exact fun z => nomatch z)
    have n0 : X.s_0.heap.get? a = none := by
      cases e : X.s_0.heap.get? a with
      | none => rfl
      | some o =>
        obtain ⟨o', q⟩ := J.base.there a o e (by rw [hex]; exact fun z => nomatch z)
        rw [nI] at q
        cases q
    have nC : ∀ y c, X.env.cells.lookup y = some c → c ≠ a := fun y c e z => by
      obtain ⟨_, o, q, _⟩ := J.cell y c e
      rw [z, nI] at q
      cases q
    have nP : ∀ p ∈ X.pn ++ pins, p.1 ≠ a := fun p hp z => by
      have q := (J.pin p hp).1
      rw [z, nI] at q
      cases q
    have S3 := J3.suite e3 d3 na nL nF
    refine wpAny_handleBy_cons (codeAny_handlers_test ?_) (fun z => nomatch z)
    have lt : PySem.W.Looks (model X.prog X.w) h3 (typeOf (.ref a)) (.ref C) := fun A Q E s k q => wpAny_typeOf_ref (k _ _ e3) (z3.1.symm ▸ q)
    have lm := PySem.W.exm_one (M := model X.prog X.w) (J3.kIn) lt hm
    have name_ : ∀ {Q E : Value → Shared → Prop}, Q c { s' with heap := h3 } → wpAny (model X.prog X.w) (X.A.mark (some (.ref a))) (eval (.Name x np) X.env) Q E { s' with heap := h3 } := fun {Q E} q => by
      rcases hc with ⟨g1, g2, g3 | ⟨g3, g4, g5⟩⟩
      · exact ld_glob (X := X.suite a ((a, o3) :: (X.pn ++ pins))) S3 g1 g3 q g2
      · exact ld_blt (X := X.suite a ((a, o3) :: (X.pn ++ pins))) S3 g1 g3 g4 q g5 g2
    refine name_ (lm.here (codeAny_handlers_suite_as (HandSPX.lands_againZ f3 fun h4 f4 u4 => ?_)))
    have J4 : Inv X pins σ' H' { s' with heap := h4 } := J.landed nb f4.1 ((up.trans u3).trans u4) os ag
    obtain ⟨o4, v4, e4, z4, d4⟩ := f4.there
    have S4 := J4.suite e4 d4 na nL nF
    refine store_ok (X := X.suite a ((a, o4) :: (X.pn ++ pins))) (v := .ref a) S4 hN hi (.inl hln) rfl (fun s5 S5 => ?_) (.inr hln)
    refine wpAny_mono ((hsu a C o4 d (X.pn ++ pins)).run [] s5 _ H' _ S5 (hy a na)) (fun fl s6 hsp => ?_) (fun _ _ z => nomatch z)
    cases fl with
    | next =>
      obtain ⟨σ6, H6, S6, q6⟩ := hsp
      obtain ⟨p1, p2, _⟩ := S6.pin (a, o4) (List.mem_append_left _ List.mem_cons_self)
      have J6 : Inv X pins σ6 H6 s6 := S6.unsuite ok
      exact gone_ok (tell J6 n0 p2 nL nC nP (ex_ok p1 z4 d4)) hN hi hln fun s7 J7 => ⟨_, _, J7, q6 p2⟩
    | brk => obtain ⟨_, _, _, q⟩ := hsp; exact q.elim
    | cont => obtain ⟨_, _, _, q⟩ := hsp; exact q.elim
    | ret u => obtain ⟨_, _, _, _, _, q⟩ := hsp; exact q.elim
  refine wpAny_mono ((hb _ (X.pn ++ pins) XX catch_ PassesOwn.looking).run [] s σ H D (I.toTry XX) h) (fun fl s1 hsp => ?_) (fun _ _ z => z)
  cases fl with
  | next => obtain ⟨σ1, H1, J1, q⟩ := hsp; exact wpAny_execs_nil ⟨σ1, H1, J1.ofTry ok, q⟩
  | brk => obtain ⟨σ1, H1, J1, q⟩ := hsp; exact ⟨σ1, H1, J1.ofTry ok, q⟩
  | cont => obtain ⟨σ1, H1, J1, q⟩ := hsp; exact ⟨σ1, H1, J1.ofTry ok, q⟩
  | ret u => obtain ⟨v, σ1, H1, J1, r, q⟩ := hsp; exact ⟨v, σ1, H1, J1.ofTry ok, r, q⟩
end
/-! ### isinstance(e, C), e.f of what was told of -/
section
variable {X : Cx}
theorem at_ex {P : Program} {w : World} {H : Hp} {h : Heap} {a C : Addr} {d : Option Addr} (hok : HOk P w H h) (e : H a = some (EX C d a)) : ∃ (oe : Obj) (vs : Array Value), h.get? a = some oe ∧ Zc (.ref C) d oe ∧ oe.data = .fields vs := by
  have q : ObjOk P w H h a (EX C d a) := hok a _ e
  exact q.1
/-- isinstance(e, D): e of the very class D, or of another -/
def rIsX (K : PySem.W.Frag) : List V → Hp → VK → Prop := fun xs H Q => ∃ (a C D : Addr) (d : Option Addr) (b : Bool), xs = [.ref a, .ref D] ∧ H a = some (EX C d a) ∧ (∀ dd, d = some dd → ∃ fs, H dd = some (.xd fs)) ∧ L2.ExcC K C ∧ PySem.W.kitOne K (.ref C) (.ref D) = some b ∧ Q (.bl b) H
theorem call_isX : CallR X (.builtin "isinstance") (rIsX X.K) := by
  intro pins s σ H xs us Q I r h
  obtain ⟨a, C, D, d, b, rfl, ha, hd, T, e, q⟩ := h
  cases r with
  | cons r1 rr =>
    cases rr with
    | cons r2 rr =>
      cases rr
      cases r1
      cases r2
      obtain ⟨oe, vs, e1, e2, e3⟩ := at_ex I.hok ha
      obtain ⟨cd, hcl, _⟩ := PySem.W.any_some T.hd
      have fin : ∀ {od : Option Obj}, PySem.W.InstAt s.heap a oe C od → wpAny (model X.prog X.w) X.A (call (.builtin "isinstance") [.ref a, .ref D]) (EP X pins σ Q) X.xe s := fun {od} J =>
        PySem.W.kia_one (PySem.W.kitx_exc (by rw [hcl]; rfl) T.hg T.hk T.hs T.ha T.hn T.ht T.hm) I.kIn J e (fun z => nomatch z) fun tk => ⟨.bl b, H, I.tok tk, rfl, q⟩
      have nc : PySem.W.notCls oe = true := by unfold PySem.W.notCls; rw [e3]
      cases d with
      | none => exact fin (od := none) ⟨e1, e2.1, nc, by rw [e2.2]; trivial⟩
      | some dd =>
        obtain ⟨fs, hx⟩ := hd dd rfl
        have hx' : ObjOk X.prog X.w H s.heap dd (.xd fs) := I.hok dd _ hx
        obtain ⟨mA, hns, _⟩ := hx'
        obtain ⟨od, ho, _⟩ := lookIn_ns hns
        exact fin (od := some od) ⟨e1, e2.1, nc, by rw [e2.2]; exact ho⟩
/-- e.f -/
def tXv (K : PySem.W.Frag) (f : Str) (te : TE) : TE := fun σ H Q => te σ H fun x H1 => ∃ (a C dd : Addr) (fs : List (Str × V)) (v : V), x = .ref a ∧ H1 a = some (EX C (some dd) a) ∧ H1 dd = some (.xd fs) ∧ XfC K C ∧ PySem.W.findIn K (.ref C) f = some none ∧ fs.lookup f = some v ∧ Q v H1
theorem pe_xv {e : Expr} {te : TE} {pos : Pos} {f : Str} (he : PE X e te) (hb : attributeBase e f X.env (eval e X.env) = eval e X.env := by rfl) : PE X (.Attribute e f pos) (tXv X.K f te) := by
  refine ⟨fun pins s σ H Q I h => attr_of hb (thn (he.run pins s σ H _ I h) fun u s1 hh => ?_)⟩
  obtain ⟨x, H1, I1, rx, a, C, dd, fs, v, rfl, ha, hx, T, hno, hl, q⟩ := hh
  cases rx
  obtain ⟨oe, vs, e1, e2, e3⟩ := at_ex I1.hok ha
  have hx' : ObjOk X.prog X.w H1 s1.heap dd (.xd fs) := I1.hok dd _ hx
  obtain ⟨mA, hns, hr⟩ := hx'
  obtain ⟨od, ho, hlk⟩ := lookIn_ns hns
  obtain ⟨u, hu, ru⟩ := RelO.some_of (v := v) (o := mA f) (hl ▸ hr f)
  have J : PySem.W.InstAt s1.heap a oe C (some od) := ⟨e1, e2.1, by unfold PySem.W.notCls; rw [e3], by rw [e2.2]; exact ho⟩
  exact HandSPX.exc_get I1.kIn J T.ga T.gg T.exC (PySem.W.findObj_own T.hdC hno rfl (by rw [hlk, hu])) (handed_of ru) ⟨v, H1, I1.tok _, ru, q⟩
end
end K57
set_option Elab.async false
set_option linter.all false
set_option maxRecDepth 100000
set_option maxHeartbeats 4000000

/-! An own error's __init__ that says super().__init__(text), then self.f = y. -/
namespace K57
open PySem PySem.Spec PySem.Calls PyProof.Rows L2
open PySem.W (ksEnv ksFn)
/-- what the written part says of such a class, at C, and of its __init__, at fI -/
structure NeTxt (P : Program) (K : PySem.W.Frag) (mg : Str → Option Value) (C fI cc cda : Addr) (fd : FuncData) (qual : Str) (st : Stmt) (f : Str) : Prop where
  T : OexC K C
  iC : PySem.W.findIn K (.ref C) "__init__" = some (some (.ref fI))
  tI : PySem.W.typeIn K (.ref fI) = some (.type "function")
  fn : ∃ (oc : Value) (od : Option Addr) (dV kV doc pm : Value) (an : Option Addr) (ct : Value) (osl : Array (Option Value)),
    fd = ksFn "__init__" qual (defArgs st) (defBody st) (defScope st) dV kV doc pm an (.ref cda) ct cc ∧ K.lookup fI = some ⟨oc, od, .func fd, osl⟩
  cd : PySem.W.codeIn K (.ref cda) qual = true
  cell : ∃ (cl : Value) (cld : Option Addr) (csl : Array (Option Value)), K.lookup cc = some ⟨cl, cld, .cell (some (.ref C)), csl⟩
  code : ∃ (ccl : Value) (cdd : Option Addr) (vs : Array Value) (ccs : Array (Option Value)) (file : Str) (tf : Tok), K.lookup cda = some ⟨ccl, cdd, .fields vs, ccs⟩ ∧ vs[2]? = some (.str file tf) ∧ ((P.main.file : Str) == file) = true
  sup : PySem.W.ks_superIn K C C "__init__" = some (some (.builtin "ValueError.__init__"))
  opq : PySem.W.nsIn K cStatics "thirdparty.any" = some none
  hB : PySem.W.subIn K (.ref C) (.type "ValueError") = some true
  mro : PySem.W.mroIn K C (.ref C) = some true
  nsup : mg "super" = none
  htop : (P.main.scope.names.lookup ("super" : Str)).isSome = false
  noN : PySem.W.findIn K (.ref C) f = some none
/-- ValueError.__init__ bound to x, called -/
theorem bound_init {P : Program} {w : World} {A : Around} {E : Value → Shared → Prop} {s : Shared} {u x C t0 : Addr} {rest : List Value} {Q : Value → Shared → Prop} {nm q : Str} {N : Addr} {bs bm : List Value} {hdct : Bool} {sn : List Str} {sub : List Value} {ab : Bool} {col : Option Bool} {dd : Option Addr} {k0 k1 k2 k3 k5 : Option Value}
    (hC : s.heap.get? C = some (excClassObj nm q C N bs bm hdct sn sub ab col dd k0 k1 k2 k3 k5 "ValueError.__new__")) (he : s.heap.get? x = some (PySem.W.excObj C t0 none .none)) (hu : s.heap.get? u = some (PySem.W.kxs_mw "ValueError.__init__" x)) (hz : rest.length ≤ sizeLine)
    (h : ∀ (h' : Heap) (t1 : Addr), (∀ b o, b ≠ x → s.heap.get? b = some o → h'.get? b = some o) → h'.get? x = some (PySem.W.excObj C t1 none .none) → Q .none { s with heap := h' }) : wpAny (model P w) A (call (.ref u) rest) Q E s := by
  obtain ⟨hh, g, d, tk, os⟩ := s
  refine wpAny_call (codeAny_of_tree ?_)
  show wpAny _ A.in1 (callAny (.ref u) ⟨rest, []⟩) _ _ _
  simp only [callAny]
  refine wpAny_bind (wpAny_load hu ?_)
  simp only [PySem.W.kxs_mw, show (Value.type "method-wrapper" == Value.type "method" || Value.type "method-wrapper" == Value.type "builtin_function_or_method" || Value.type "method-wrapper" == Value.type "method-wrapper") = true by decide, if_true]
  refine PySem.W.KFB.if_so (by decide) (wpAny_bind (PySem.W.check_bound_init F.excBase_ValueError.toExcCallFacts hC he rfl (wpAny_bind (wpAny_pure (wpAny_pure ?_)))))
  exact ⟨plainId_quiet F.excBase_ValueError.init.plain _, codeAny_builtin F.excBase_ValueError.initEntry (PySem.W.exc_init_tree (cls := .ref C) (t0 := t0) (dv := none) (c2 := .none) (c3 := .none) (b4 := .bool false) he hz fun h' k e1 _ => h h' _ k e1)⟩
/-- the context of such a body -/
def cxS (P : Program) (w : World) (K : PySem.W.Frag) (mg : Str → Option Value) (base : Heap) (N : List Str) (qual : Str) (scope : Scope) (f cda cc : Addr) (A : Around) (outer : List Env) (s : Shared) (H : Hp) : Cx where
  prog := P
  w := w
  K := K
  mg := mg
  base := base
  A := A.deeper (ksEnv qual scope s.heap.objs.size f (.ref cda) cc)
  N := N
  s_0 := s
  H_0 := H
  env := ksEnv qual scope s.heap.objs.size f (.ref cda) cc
  outer := outer
  stack := ksEnv qual scope s.heap.objs.size f (.ref cda) cc :: outer
  ex := []
  fn := fun _ => false
  calm := true
  pn := []
  xe := fun _ _ => False
section
variable {P : Program} {w : World} {K : PySem.W.Frag} {mg : Str → Option Value} {base : Heap} {A : Around} {outer : List Env} {s : Shared} {H : Hp} {C fI cc cda : Addr} {fd : FuncData} {qual : Str} {st : Stmt} {f n1 : Str}
/-- its scope: self and one parameter, both local; __class__ free; no cell -/
structure NeS (sc : Scope) (n1 : Str) : Prop where
  kind : sc.kind = .function
  co : sc.isCoroutine = false
  gen : sc.isGenerator = false
  l0 : sc.names.lookup ("self" : Str) = some .local
  l1 : sc.names.lookup n1 = some .local
  ne : ("self" : Str) ≠ n1
  nocell : ∀ y ∈ sc.names, y.2 ≠ .cell
  free : ∀ y ∈ sc.names, y.2 = .free → y.1 = "__class__"
  sup : sc.names.lookup ("super" : Str) = some .globalImplicit
  cls : sc.names.lookup ("__class__" : Str) = some .free
theorem ne_start {us0 us1 : Value} {v0 v1 : V} {h1 : Heap} {tk : Nat} (S : NeS (defScope st) n1) (T : NeTxt P K mg C fI cc cda fd qual st f) (hd : A.handled = none) (e0 : Env0 P w K mg base A outer s H) (r0 : RelV v0 us0) (r1 : RelV v1 us1)
    (hns : h1.Ns s.heap.objs.size fun x => [(("self" : Str), us0), (n1, us1)].reverse.lookup x) (kp : ∀ b o, s.heap.get? b = some o → h1.get? b = some o) :
    Inv (cxS P w K mg base ["self", n1] qual (defScope st) fI cda cc A outer s H) [] [some v0, some v1] H { s with heap := h1, toks := tk } := by
  have noA : ∀ b : Addr, b ∉ (cxS P w K mg base ["self", n1] qual (defScope st) fI cda cc A outer s H).ex := fun b z => nomatch (show b ∈ ([] : List Addr) from z)
  obtain ⟨cl, cld, csl, hcell⟩ := T.cell
  have hb := e0.mod.kin _ _ hcell
  have hcc := e0.bs _ _ hb
  have look : ∀ {y : Str} {c : Addr}, (cxS P w K mg base ["self", n1] qual (defScope st) fI cda cc A outer s H).env.cells.lookup y = some c → y = "__class__" ∧ c = cc := fun {y c} e => by
    have e' : List.lookup y [(("__class__" : Str), cc)] = some c := e
    simp only [List.lookup] at e'
    split at e'
    · rename_i q
      exact ⟨by simpa using q, (Option.some.inj e').symm⟩
    · cases e'
  have ok : (cxS P w K mg base ["self", n1] qual (defScope st) fI cda cc A outer s H).Ok := by
    refine ⟨e0.mod, S.kind, rfl, rfl, Nat.le_refl _, fun y z c h1 h2 => (look h1).1.trans (look h2).1.symm, fun y hy => ?_, fun y c z _ => ?_, fun _ => hd, Around.frames_deeper e0.frames, .inr ⟨rfl, rfl⟩, fun b z => absurd z (noA b), e0.bs, e0.bsz, fun b _ _ => noA b, fun b z => absurd z (noA b), e0.funs, e0.frf⟩
    · have hy : (defScope st).names.lookup y = some .cell ∨ (defScope st).names.lookup y = some .free := hy
      rcases hy with hy | hy
      · exact absurd rfl (S.nocell _ (PySem.mem_of_lookup hy))
      · rw [show y = "__class__" from S.free _ (PySem.mem_of_lookup hy) rfl]
        exact ⟨cc, rfl⟩
    · cases (show false = true from z)
  refine ⟨ok, rfl, e0.bare, Un.kept kp, ⟨_, hns, fun i y v e1 e2 e3 => ?_⟩, fun y c e => ?_, e0.hok.fresh (Nat.le_refl _), fun y c e => ?_, (fun p hp => nomatch (show p ∈ ([] : List (Addr × Obj)) from hp)), e0.hok.kept kp, rfl⟩
  · match i, e1, e2 with
    | 0, e1, e2 =>
      cases Option.some.inj e1
      cases Option.some.inj (Option.some.inj e2)
      refine ⟨us0, r0, .inl ⟨S.l0, ?_⟩⟩
      have q : (n1 == ("self" : Str)) = false := by simpa using fun z : n1 = "self" => S.ne z.symm
      have q2 : (("self" : Str) == n1) = false := by simpa using S.ne
      show List.lookup ("self" : Str) [(n1, us1), (("self" : Str), us0)] = some us0
      simp [List.lookup, q2]
    | 1, e1, e2 =>
      cases Option.some.inj e1
      cases Option.some.inj (Option.some.inj e2)
      refine ⟨us1, r1, .inl ⟨S.l1, ?_⟩⟩
      show List.lookup n1 [(n1, us1), (("self" : Str), us0)] = some us1
      simp [List.lookup]
    | i + 2, e1, e2 => cases e1
  · rw [(look e).2]
    exact ⟨_, _, kp _ _ hcc.1, rfl⟩
  · rw [(look e).2]
    exact hcc.2
/-- super().__init__(text) -/
theorem ne_super {s1 : Shared} {H1 : Hp} {x : Addr} {v1 : V} {msg : Str} {j : Nat} {p0 p1 p2 p3 p4 p5 : Pos} {body : List Stmt} {Q : PySem.Flow → Shared → Prop} {E : Value → Shared → Prop} (T : NeTxt P K mg C fI cc cda fd qual st f) (S : NeS (defScope st) n1)
    (ar : ∃ r, ((defArgs st).posonlyargs ++ (defArgs st).args).head? = some r ∧ r.arg = ("self" : Str))
    (I : Inv (cxS P w K mg base ["self", n1] qual (defScope st) fI cda cc A outer s H) [] [some (.ref x), some v1] H1 s1) (hx : H1 x = some (exo x C none))
    {pl : Sem Bool} (he : ∀ env : Env, eval (.Call (.Attribute (.Call (.Name "super" p0) [] [] p1) "__init__" p2) [.Constant (.str msg) j p3] [] p4) env = (do
      let ov ← attributeBase (.Call (.Name "super" p0) [] [] p1) "__init__" env (eval (.Call (.Name "super" p0) [] [] p1) env)
      standAt p2.atName
      let (f, first) ← holding [ov] (getMethod ov "__init__" pl)
      callWith p4 f first (backTo p4 (starEach [.Constant (.str msg) j p3] env)) []))
    (h : ∀ s2, Inv (cxS P w K mg base ["self", n1] qual (defScope st) fI cda cc A outer s H) [] [some (.ref x), some v1] H1 s2 → Q .next s2) :
    _root_.PySem.wpAt (model P w) (A.deeper (ksEnv qual (defScope st) s.heap.objs.size fI (.ref cda) cc)) (.func body (ksEnv qual (defScope st) s.heap.objs.size fI (.ref cda) cc))
      (exec (.Expr (.Call (.Attribute (.Call (.Name "super" p0) [] [] p1) "__init__" p2) [.Constant (.str msg) j p3] [] p4) p5) (ksEnv qual (defScope st) s.heap.objs.size fI (.ref cda) cc)) Q E s1 := by
  obtain ⟨oc, od, dV, kV, doc, pm, an, ct, osl, hfd, hfI⟩ := T.fn
  obtain ⟨ccl, cdd, vs, ccs, file, tf, hcda, hvs, hfile⟩ := T.code
  obtain ⟨cl, cld, csl, hcell⟩ := T.cell
  obtain ⟨nm, q, N, bs, bm, sn, sub, ab, col, dd, k0, k1, k2, k3, k5, hC, hbm⟩ := T.T.cls
  obtain ⟨r, hr, hra⟩ := ar
  obtain ⟨hh, g, d, tk, os⟩ := s1
  have KX : K.In hh := I.kIn
  obtain ⟨t1, hox⟩ := exo_at I.hok hx
  have hcl : PySem.W.clsIn K C = some { name := nm, bases := bs, mro := .ref C :: bm, ns := N, qualname := q, hasDict := true, slotNames := sn, subclasses := sub, abstract := ab, collection := col, hasDel := false } := by unfold PySem.W.clsIn; rw [hC]
  have xC : x ≠ C := fun z => by
    have q1 := KX _ _ hC
    rw [← z, hox] at q1
    cases q1
  obtain ⟨m, hns, hlk⟩ := I.loc
  have hself : m "self" = some (.ref x) := by
    obtain ⟨u, ru, lu⟩ := hlk 0 "self" (.ref x) rfl rfl (.inl S.l0)
    rcases lu with ⟨_, q⟩ | ⟨z, _⟩
    · cases ru
      exact q
    · rcases z with z | z
      · cases (show (defScope st).names.lookup ("self" : Str) = some .cell from z).symm.trans S.l0
      · cases (show (defScope st).names.lookup ("self" : Str) = some .free from z).symm.trans S.l0
  obtain ⟨mb, hmb, hbb⟩ := I.mod.blt
  have hglob := I.mod.glob.keeps I.bk
  refine PySem.ks_wpAt_Expr_any (PySem.ks_wpAt_MethodCall (PySem.ks_wpAt_super_base (env := ksEnv qual (defScope st) s.heap.objs.size fI (.ref cda) cc) S.sup S.cls rfl rfl (KX _ _ hfI) rfl (by rw [hfd]; exact hr) rfl (KX _ _ hcda) rfl hvs hfile T.htop ?_) (he _)) (by unfold interactive; simp [S.kind])
  refine PySem.W.ks_loadName_global S.kind S.sup (loadGlobal_builtin (env := ksEnv qual (defScope st) s.heap.objs.size fI (.ref cda) cc) hglob T.nsup (hmb.keeps I.bk) ((hbb _ (by decide)).trans (by decide +kernel)) ⟨rfl, ?_⟩)
  refine wpAny_loadName_free S.kind S.cls rfl ⟨_, KX _ _ hcell, rfl⟩ ?_
  rw [hra]
  refine wpAny_loadName_local S.kind S.l0 hns hself ?_
  refine PySem.ks_wpAny_isType_cls (KX _ _ hC) rfl ⟨rfl, PySem.ks_wpAny_call_super (KX _ _ hC) rfl hox rfl (fun c z => by cases z) (PySem.W.looks_mroIn KX T.mro) (fun h2 e2 k2 => ?_)⟩
  have I2 := I.kept (t' := tk) (h' := h2) k2
  have KX2 : K.In h2 := I2.kIn
  have J2 : PySem.W.InstAt h2 x { cls := .ref C, data := .fields #[.ref t1, .none, .none, .none, .bool false, .none] } C none := ⟨k2 _ _ hox, rfl, rfl, trivial⟩
  have hsup : PySem.W.alongIn K "__init__" (((Value.ref C :: bm).dropWhile (· != .ref C)).drop 1) = some (some (.builtin "ValueError.__init__")) := by
    have q := T.sup
    unfold PySem.W.ks_superIn at q
    rw [hcl] at q
    exact q
  refine PySem.W.kxs_getMethod PySem.W.kxs_ValueError e2 (PySem.W.looks_opaque KX2 T.opq) (l₀ := .ref C :: bm) (fun A Q E s k q => wpAny_bind ((PySem.W.looks_clsIn KX2 hcl) A _ E s k (wpAny_pure q))) rfl KX2 hsup (J2.type.andThen (PySem.W.looks_subIn KX2 T.hB)) xC rfl ?_
  have k3 : ∀ b o, h2.get? b = some o → (h2.push (PySem.W.kxs_mw "ValueError.__init__" x)).get? b = some o := fun b o e => Heap.get?_push_of_some _ e
  have hu : (h2.push (PySem.W.kxs_mw "ValueError.__init__" x)).get? h2.objs.size = some (PySem.W.kxs_mw "ValueError.__init__" x) := Heap.get?_push_at rfl rfl
  refine PySem.W.kxs_callWith1 (i := "ValueError.__init__") (x := x) (h₀ := h2) (L := h2.objs.size + 1) (news := [(h2.objs.size, PySem.W.kxs_mw "ValueError.__init__" x)]) (fun p hp => ?_) List.mem_cons_self ?_
  · rw [List.mem_singleton.mp hp]
    exact ⟨hu, by simp, Heap.get?_none_of_le (Nat.le_refl _)⟩
  refine Calls.spliced_cons (x := eval (.Constant (.str msg) j p3) _) (Calls.Constant_str (Calls.spliced_nil ⟨hu, ?_⟩))
  refine bound_init (nm := nm) (q := q) (N := N) (bs := bs) (bm := bm) ((k3 _ _ (k2 _ _ (KX _ _ hC)))) (k3 _ _ (k2 _ _ hox)) hu (by show 1 ≤ sizeLine; rw [sizeLine_eq]; omega) fun h' t2 k4 hx4 => h _ ?_
  have I3 := I2.kept (t' := tk + 1 + 1) k3
  have J := I3.write (t' := tk + 1 + 1) (h' := h') (x := x) (e := x) (o := exo x C none) (by rw [hx]; exact True.intro) (.inl rfl) k4 ⟨_, hx4⟩ (exo_ok hx4)
  have eu : upd H1 x (exo x C none) = H1 := by
    funext b
    by_cases hb : b = x
    · rw [hb, upd_same, hx]
    · rw [upd_ne hb]
  rw [eu] at J
  exact J
/-- what such an __init__ promises -/
def spNe (C : Addr) (f : Str) : Sp := fun vs H Q _ => ∃ (x : Addr) (v : V), vs = [.ref x, v] ∧ H x = some (exo x C none) ∧ ∀ d, H d = none → d ≠ x → Q .non (upd (upd H d (exd d [(f, v)])) x (exo x C (some d)))
theorem ok_ne {k : Nat} {msg : Str} {j : Nat} {p0 p1 p2 p3 p4 p5 q0 q1 q2 q3 : Pos} (T : NeTxt P K mg C fI cc cda fd qual st f) (S : NeS (defScope st) n1)
    (ar : ∃ r, ((defArgs st).posonlyargs ++ (defArgs st).args).head? = some r ∧ r.arg = ("self" : Str))
    {pl : Sem Bool} (he : ∀ env : Env, eval (.Call (.Attribute (.Call (.Name "super" p0) [] [] p1) "__init__" p2) [.Constant (.str msg) j p3] [] p4) env = (do
      let ov ← attributeBase (.Call (.Name "super" p0) [] [] p1) "__init__" env (eval (.Call (.Name "super" p0) [] [] p1) env)
      standAt p2.atName
      let (f, first) ← holding [ov] (getMethod ov "__init__" pl)
      callWith p4 f first (backTo p4 (starEach [.Constant (.str msg) j p3] env)) []))
    (hbody : defBody st = [.Expr (.Call (.Attribute (.Call (.Name "super" p0) [] [] p1) "__init__" p2) [.Constant (.str msg) j p3] [] p4) p5, .Assign [.Attribute (.Name "self" q0) f q1] (.Name n1 q2) q3])
    (hd1 : (n1 == ("__debug__" : Str)) = false) (hd2 : (n1 == ("__classdict__" : Str)) = false) (hsw : ∀ env : Env, swapsWith (.Name n1 q2) (some (.Attribute (.Name "self" q0) f q1)) q3.line env = pure false) :
    FnOk P w K mg base CX0 (k + 1) fI fd ["self", n1] (spNe C f) := by
  refine ⟨fun vs H Q E ⟨x, v, e, _⟩ => by rw [e]; rfl, fun A outer s H args us vs Q E hr e0 hb rv hsp => ?_⟩
  obtain ⟨x, v, rfl, hx, hq⟩ := hsp
  obtain ⟨oc, od, dV, kV, doc, pm, an, ct, osl, hfd, hfI⟩ := T.fn
  have KX : K.In s.heap := e0.mod.kin.keeps fun b o e => (e0.bs b o e).1
  have lim : s.heap.NoLimit := e0.mod.nolimit.keeps fun b o e => (e0.bs b o e).1
  cases rv with
  | @cons _ u0 _ _ r0 rr =>
    cases rr with
    | @cons _ u1 _ _ r1 rr =>
      cases rr
      refine PySem.ks_codeAny_call_defAt (fd := fd) (body := defBody st) (binds := [(("self" : Str), u0), (n1, u1)]) hr.depth (KX _ _ hfI) rfl lim (by rw [hfd]; exact PySem.W.codeRec_of KX T.cd) (by rw [hfd]) hb (by rw [hfd]; exact S.nocell) (fun y hy => ?_) (fun h1 hns kp => ?_) (by rw [hfd]; exact S.co) (by rw [hfd]; exact S.gen) (by rw [hfd]; exact S.kind)
      · rw [hfd]
        rcases List.mem_cons.mp hy with rfl | hy
        · exact S.l0
        · rw [List.mem_singleton.mp hy]
          exact S.l1
      have I := ne_start (tk := s.toks + 2) S T hr.hd e0 r0 r1 hns kp
      have eE : callEnv fd s.heap.objs.size fI = ksEnv qual (defScope st) s.heap.objs.size fI (.ref cda) cc := by rw [hfd]; rfl
      rw [eE, hbody]
      refine PySem.ks_wpAt_execs_cons (ne_super T S ar I hx he fun s2 I2 => wpAt_of_wpAny ?_)
      have p2 : PSs (cxS P w K mg base ["self", n1] qual (defScope st) fI cda cc A outer s H) [.Assign [.Attribute (.Name "self" q0) f q1] (.Name n1 q2) q3] _ :=
        pss_one (ps_ost (pe_var (i := 0) rfl (.inl S.l0) (by decide) (by decide)) (pe_var (i := 1) rfl (.inl S.l1) hd1 hd2) (hsw _))
      refine wpAny_mono (p2.run [] s2 _ H { nx := fun _ H' => Q .non H', rt := Q } I2 ⟨v, rfl, .ref x, rfl, x, C, rfl, T.T, T.noN, .inl ⟨hx, hq⟩⟩) (fun fl s3 hs => ?_) (fun _ _ z => z.elim)
      cases fl with
      | ret u =>
        obtain ⟨v', σ', H', J, rv, q⟩ := hs
        exact ⟨v', H', J.os, J.bare, J.base, J.hok, rv, q⟩
      | next =>
        obtain ⟨σ', H', J, q⟩ := hs
        exact ⟨.non, H', J.os, J.bare, J.base, J.hok, rfl, q⟩
      | brk => obtain ⟨_, _, _, q⟩ := hs; exact q.elim
      | cont => obtain ⟨_, _, _, q⟩ := hs; exact q.elim
end
end K57
set_option Elab.async false
set_option linter.all false
set_option maxRecDepth 100000
set_option maxHeartbeats 4000000

/-! Names; what raises. -/
namespace K57
open PySem PySem.Spec PyProof.Rows L2
local macro_rules | `(tactic| walk_at "k57g") => `(tactic| repeat (first | refine ⟨_, rfl, ?_⟩ | refine ⟨_, _, rfl, rfl, ?_⟩ | refine ⟨_, _, rfl, rfl, _, rfl, ?_⟩))
local macro_rules | `(tactic| walk_at "k57len") => `(tactic| (intro h; first | (obtain ⟨e, _⟩ := h; subst e; rfl) | (obtain ⟨_, e, _⟩ := h; subst e; rfl) | (obtain ⟨_, _, e, _⟩ := h; subst e; rfl) | (obtain ⟨_, _, _, e, _⟩ := h; subst e; rfl) | (obtain ⟨_, _, _, _, e, _⟩ := h; subst e; rfl) | (obtain ⟨_, _, _, _, _, e, _⟩ := h; subst e; rfl) | (obtain ⟨_, _, _, _, _, _, e, _⟩ := h; subst e; rfl) | (obtain ⟨_, _, _, _, _, _, _, e, _⟩ := h; subst e; rfl) | (obtain ⟨_, _, _, _, _, _, _, _, e, _⟩ := h; subst e; rfl) | ((repeat (obtain ⟨_, h⟩ := h)); subst_vars; rfl)))

def signs : Str := "abcdefghijklmnopqrstuvwxyz"
def isNm (z : Str) : Bool := decide (1 ≤ z.length) && decide (z.length ≤ 8) && z.cps.toList.all fun c => decide (c ∈ signs.cps.toList)
/-- what is asked whether it is a name, the answer -/
inductive NV (K : PySem.W.Frag) (H : Hp) : V → Bool → Prop
  | str (z : Str) (h : z.length ≤ 100) : NV K H (.str z) (isNm z)
  | int (i : Int) : NV K H (.int i) false
  | non : NV K H .non false
  | lst {a : Addr} {xs : List V} (h : SqL K H a xs) : NV K H (.ref a) false
theorem NV.same {K : PySem.W.Frag} {H H' : Hp} {x : V} {b : Bool} (e : Same H H') (h : NV K H x b) : NV K H' x b := by
  cases h with
  | str z h => exact .str z h
  | int i => exact .int i
  | non => exact .non
  | lst h => exact .lst (e.seq h)
section
variable {P : Program} {w : World} {K : PySem.W.Frag} {mg : Str → Option Value} {base : Heap}
def spIsName (K : PySem.W.Frag) : Sp := fun vs H Q _ => ∃ (x : V) (b : Bool), vs = [x] ∧ NV K H x b ∧ ∀ H', Same H H' → Q (.bl b) H'
theorem ok_is_name (T : Txt K mg) : OKf P w K mg base 1 "is_name" ["thing"] (spIsName K) := by
  refine T.f_is_name.F.ok sc_is_name (fun vs H Q E => by clear T; walk_at "k57len") (fun cdv A outer s H vs Q E hr h => ?_)
  obtain ⟨x, b, rfl, hx, k⟩ := h
  refine ⟨_, PSs.nox (pss_one (ps_ret (pe_and (pe_callB (isi_K (K := K)) (by rfl) T.b_isinstance bb_isinstance (pa_cons (pv 0) (pa_cons (pe_bltn (v := .ty "str") (by rfl) T.b_str bb_str rfl) pa_nil))) (pe_and (pe_chain op_le op_le pe_int (pe_callB call_len_str (by rfl) T.b_len bb_len (pa_cons (pv 0) pa_nil)) pe_int) (pe_one (pe_callB (all_K (K := K)) (by rfl) T.b_all bb_all (pa_cons (pe_lc (own := [("sign", 1)]) (g := gName 1) (by rfl) sc_is_name.nd (pi_str (pv 0)) (blkOk_by (N := ["thing", "sign"]) (sc := defScope s_is_name) (by decide +kernel)) (fun _ _ _ _ _ => pg_name (i := 1) sc_is_name.nd rfl (Or.inl rfl)) (fun _ _ _ _ _ => pts_nil) (fun _ _ _ _ _ => (pe_cmpR op_in_sign (pv 1) (pe_glob (v := .str "abcdefghijklmnopqrstuvwxyz") rfl T.c_SIGNS.choose_spec ⟨_, rfl⟩) (by rfl)))) pa_nil))))))), ?_⟩
  refine ⟨x, rfl, ?_⟩
  cases hx with
  | int i => exact ⟨.int i, .ty "str", _, _, false, rfl, .ty _, .base (.int i), kit_ty (by decide +kernel), _, rfl, k H (Same.refl H)⟩
  | non => exact ⟨.non, .ty "str", _, _, false, rfl, .ty _, .base .non, kit_ty (by decide +kernel), _, rfl, k H (Same.refl H)⟩
  | @lst a xs h =>
    have ty : TyX K H (.ref a) (.type "list") := by
      rcases h with (h | ⟨o, h⟩) | ⟨o, its, n, h1, h2, _⟩
      · exact .base (.lst h)
      · exact .base (.frz h)
      · exact .kList h1 h2
    exact ⟨.ref a, .ty "str", _, _, false, rfl, .ty _, ty, kit_ty (by decide +kernel), _, rfl, k H (Same.refl H)⟩
  | str z hz =>
    refine ⟨.str z, .ty "str", _, _, true, rfl, .ty _, .base (.str z), kit_ty (by decide +kernel), _, rfl, ?_⟩
    refine iteT ?_
    refine ⟨_, rfl, z, rfl, line_of (by omega), _, _, rfl, rfl, _, rfl, ?_⟩
    by_cases c1 : (1 : Int) ≤ (z.length : Int)
    · rw [decide_eq_true c1]
      refine iteT ⟨_, _, rfl, rfl, ?_⟩
      by_cases c2 : (z.length : Int) ≤ 8
      · refine ⟨_, rfl, ?_⟩
        rw [decide_eq_true c2]
        refine iteT ?_
        refine ⟨_, rfl, z, rfl, fun D hD => ?_⟩
        have hsz : z.cps.size = z.length := rfl
        refine lcm (walk_str (z := z)) (by omega) hD (fun i => V.bl (decide (z.cps.toList.getD i 0 ∈ signs.cps.toList))) (fun _ _ => trivial) (fun i H v H' h => by rw [h.1]; exact Same.refl _) (fun i v H1 H1' N hi s hy hN => ?_) (fun H1 s e => ?_)
        · obtain ⟨rfl, c, hc, rfl⟩ := hy
          refine ⟨rfl, _, rfl, c, signs, rfl, rfl, ?_⟩
          have q := hN _ (Same.refl _)
          have e : z.cps.toList.getD i 0 = c := by
            rw [List.getD, Array.getElem?_toList, hc]
            rfl
          rw [e] at q
          exact q
        · rw [← Array.length_toList, range_map z.cps.toList 0 (fun c => V.bl (decide (c ∈ signs.cps.toList)))] at e
          refine ⟨D, z.cps.toList.map fun c => decide (c ∈ signs.cps.toList), rfl, SqL.of (by rw [e, List.map_map]; rfl), ?_⟩
          have q := k H1 s
          have en : isNm z = z.cps.toList.all fun c => decide (c ∈ signs.cps.toList) := by
            unfold isNm
            rw [decide_eq_true (by omega : 1 ≤ z.length), decide_eq_true (by omega : z.length ≤ 8)]
            rfl
          rw [en] at q
          rw [List.all_map]
          exact q
      · refine ⟨_, rfl, ?_⟩
        rw [decide_eq_false c2]
        refine iteF ?_
        have en : isNm z = false := by
          unfold isNm
          rw [decide_eq_false (by omega : ¬ z.length ≤ 8)]
          simp
        have q := k H (Same.refl H)
        rw [en] at q
        exact q
    · rw [decide_eq_false c1]
      refine iteF ⟨_, rfl, iteF ?_⟩
      have en : isNm z = false := by
        unfold isNm
        rw [decide_eq_false (by omega : ¬ 1 ≤ z.length)]
        simp
      have q := k H (Same.refl H)
      rw [en] at q
      exact q
/-! ### the errors' classes -/
structure Ow (P : Program) (w : World) (K : PySem.W.Frag) (mg : Str → Option Value) (base : Heap) (x f : Str) (ps : List Str) : Prop where
  T : OexC K (He.ga K x)
  g : mg x = some (.ref (He.ga K x))
  ex : ∃ (fI : Addr) (fd : FuncData), PySem.W.findIn K (.ref (He.ga K x)) "__init__" = some (some (.ref fI)) ∧ PySem.W.typeIn K (.ref fI) = some (.type "function") ∧ FnOk P w K mg base CX0 1 fI fd ps (spNe (He.ga K x) f) ∧ Binds K fd ps []
  xc : L2.ExcC K (He.ga K x)
  xf : XfC K (He.ga K x)
  noN : PySem.W.findIn K (.ref (He.ga K x)) f = some none
  e : PySem.W.exmOne K (.ref (He.ga K x)) (.ref (He.ga K "BoxError")) = some true
structure XTxt (P : Program) (w : World) (K : PySem.W.Frag) (mg : Str → Option Value) (base : Heap) : Prop where
  bn : PySem.W.excIn K (He.ga K "BadName") He.veBase "ValueError.__new__" = true
  g_bn : mg "BadName" = some (.ref (He.ga K "BadName"))
  k_bn : PySem.W.keepIn K (.ref (He.ga K "BadName")) = true
  s_bn : PySem.W.subIn K (.ref (He.ga K "BadName")) (.type "BaseException") = some true
  t_bn : PySem.W.typeIn K (.ref (He.ga K "BadName")) = some (.type "type")
  x_bn : L2.ExcC K (He.ga K "BadName")
  e_bn : PySem.W.exmOne K (.ref (He.ga K "BadName")) (.ref (He.ga K "BoxError")) = some true
  g_be : mg "BoxError" = some (.ref (He.ga K "BoxError"))
  num : Ow P w K mg base "BadNumber" "part" ["self", "part"]
  now : Ow P w K mg base "NoWatch" "name" ["self", "name"]
def tMkN (C : Addr) (f : Str) (ta : TA) : L2.St → Hp → XK → Prop := fun σ H Q => ta σ H fun vs H1 => ∃ v, vs = [v] ∧ ∀ d, H1 d = none → Q (.ref C) (some d) (upd H1 d (.xd [(f, v)]))
theorem pmk_ne {X : Cx} {x f n1 : Str} {e : Expr} {ta : TA} {p pos : Pos} (O : Ow X.prog X.w X.K X.mg X.base x f ["self", n1]) (hr : Room 2 X.A) (hg : Gl X x) (ha : PA X [e] ta) (hdb : (x == ("__debug__" : Str)) = false := by decide) (he : starEach [e] X.env = (false, eval e X.env) :: starEach [] X.env := by rfl) :
    PMk X (.Call (.Name x p) [e] [] pos) (tMkN (He.ga X.K x) f ta) := by
  intro pins s σ H Q I h
  obtain ⟨fI, fd, h1, h2, h3, h4⟩ := O.ex
  have ha2 : PA X [e] (fun σ H Q => ∃ Q0 : List V → Hp → Prop, ta σ H Q0 ∧ ∀ vs H1, Q0 vs H1 → Q vs H1) := by
    refine ⟨fun pos pins s σ H Q I ⟨Q0, hq, im⟩ => wpAny_mono (ha.run pos pins s σ H Q0 I hq) (fun us s1 ⟨vs, H1, I1, r, q⟩ => ⟨vs, H1, I1, r, im _ _ q⟩) fun _ _ z => z⟩
  refine pmk_oex (dvs := []) O.T h1 h2 h3 hr h4 .nil (fun _ _ _ _ _ _ _ z => z.elim) hg O.g ha2 hdb he rfl pins s σ H Q I ⟨_, h, fun vs H1 hv => ?_⟩
  obtain ⟨v, rfl, hv⟩ := hv
  refine ⟨by show 1 ≤ 1000; decide, fun a na => ⟨a, v, rfl, upd_same, fun d nd nda => ⟨rfl, d, [(f, v)], upd_same, by rw [upd_ne nda, upd_same], ?_, ?_⟩⟩⟩
  · rwa [upd_ne nda] at nd
  · have nd' : H1 d = none := by rwa [upd_ne nda] at nd
    have q := hv d nd'
    have e : upd (L2.del (upd (upd (upd H1 a (exo a (He.ga X.K x) none)) d (exd d [(f, v)])) a (exo a (He.ga X.K x) (some d))) a) d (.xd [(f, v)]) = upd H1 d (.xd [(f, v)]) := by
      funext b
      by_cases hb : b = d
      · rw [hb, upd_same, upd_same]
      · rw [upd_ne hb, upd_ne hb]
        by_cases hb2 : b = a
        · rw [hb2, L2.del_same, na]
        · rw [L2.del_ne hb2, upd_ne hb2, upd_ne hb, upd_ne hb2]
    rw [e]
    exact q
abbrev OKx (P : Program) (w : World) (K : PySem.W.Frag) (mg : Str → Option Value) (base : Heap) (k : Nat) (x : Str) (ps : List Str) (sp : Sp) : Prop := FnOk P w K mg base (L2.CX P w) k (He.ga K x) (fdOf K (He.ga K x)) ps sp
abbrev OKmx (P : Program) (w : World) (K : PySem.W.Frag) (mg : Str → Option Value) (base : Heap) (k : Nat) (x : Str) (ps : List Str) (sp : Sp) : Prop := FnOk P w K mg base (L2.CX P w) k (mLW K x) (fdOf K (mLW K x)) ps sp
def spNeedName (K : PySem.W.Frag) : Sp := fun vs H Q E => ∃ (x : V) (b : Bool), vs = [x] ∧ NV K H x b ∧ ∀ H', Same H H' → if b = true then Q .non H' else E (.ref (He.ga K "BadName")) none H'
theorem ok_need_name (T : Txt K mg) (XT : XTxt P w K mg base) : OKx P w K mg base 4 "need_name" ["name"] (spNeedName K) := by
  refine T.f_need_name.F.ok sc_need_name (fun vs H Q E => by clear T XT; walk_at "k57len") (fun cdv A outer s H vs Q E hr h => ?_)
  obtain ⟨x, b, rfl, hx, k⟩ := h
  refine ⟨_, (pss_one (ps_if (pt_not (pt_val (pe_call (ok_is_name T) (hr.mono (by decide)) rfl T.f_is_name.g T.f_is_name.F.kp T.f_is_name.b .nil pass0 (pa_cons (pv 0) pa_nil)))) (pss_one (ps_raise rfl (takes_of rfl rfl rfl rfl) (pmk_own F.excBase_ValueError XT.bn XT.g_bn XT.k_bn (raises_own XT.s_bn XT.t_bn) rfl))) pss_nil)), ?_⟩
  refine ⟨_, rfl, x, b, rfl, hx, fun H' s => ⟨_, rfl, ?_⟩⟩
  have q := k H' s
  cases b with
  | true =>
    rw [if_pos rfl] at q
    exact iteF q
  | false =>
    rw [if_neg (by decide)] at q
    exact iteT q
/-! ### watch, unwatch -/
/-- the last state, laid open -/
theorem LiveAt.last {H : Hp} {p : Addr} {F : List Addr} {S0 : List St1} {w : List Int} {D : Dc} {dn la : List Deed} (L : LiveAt K H p F S0 w D dn la) :
    ∃ (dx sa t q wq : Addr) (q0 : List Addr) (fs : List (Str × V)), H p = some (.ins (LWc K) dx fs) ∧ fs.lookup ("states" : Str) = some (.ref sa) ∧ fs.lookup ("watch" : Str) = none ∧ fs.lookup ("unwatch" : Str) = none ∧ H sa = some (.lst ((q0 ++ [q]).map V.ref)) ∧ SqT K H q [.ref wq, .ref t] ∧ H t = some (.dK (kvD D)) ∧ t ∈ F ∧
      ∀ H1, Same H H1 → ∀ D', LiveAt K (upd H1 t (.dK (kvD D'))) p F S0 w D' dn la := by
  obtain ⟨dx, sa, da, aa, qs, dqs, lqs, T0, t, e, b, f, g, wa, ln, R, rfl, h2, h3, h4, h5⟩ := L
  obtain ⟨q0, q, rfl, hq0, wq, hq1, hq2, hq3⟩ := last_st R.ss
  refine ⟨dx, sa, t, q, wq, q0, _, R.o, rfl, rfl, rfl, R.s, hq1, hq3, by simp, fun H1 s1 D' => ?_⟩
  have c : Chg K [t] H1 (upd H1 t (.dK (kvD D'))) := Chg.upd (s1 _ _ hq3) trivial (by simp)
  exact ⟨dx, sa, da, aa, _, _, _, T0, t, _, _, _, _, wa, ln, (R.same s1).setK D', by simp, h2, c.wt (sameT s1 h3), c.rt (h4.same s1), h5⟩
def spWatch (K : PySem.W.Frag) : Sp := fun vs H Q E => ∃ (p : Addr) (F : List Addr) (S0 : List St1) (w : List Int) (D : Dc) (dn la : List Deed) (x m : V) (b : Bool), vs = [.ref p, x, m] ∧ LiveAt K H p F S0 w D dn la ∧ D.length ≤ 1000 ∧ NV K H x b ∧ Flat m ∧
  (b = false → ∀ H', Same H H' → E (.ref (He.ga K "BadName")) none H') ∧
  (b = true → btw m 0 16 = false → ∀ H' d, Same H H' → H' d = some (.xd [("part", .str "many")]) → E (.ref (He.ga K "BadNumber")) (some d) H') ∧
  (b = true → btw m 0 16 = true → ∃ (n : Str) (k : Nat), x = .str n ∧ m = .int (k : Int) ∧ ∀ H', Chg K F H H' → LiveAt K H' p F S0 w (dPut D n k) dn la → Q .non H')
theorem ok_LW_watch (T : Txt K mg) (XT : XTxt P w K mg base) : OKmx P w K mg base 5 "watch" ["self", "name", "many"] (spWatch K) := by
  refine T.f_LW_watch.F.ok sc_LW_watch (fun vs H Q E => by clear T XT; walk_at "k57len") (fun cdv A outer s H vs Q E hr h => ?_)
  obtain ⟨p, F, S0, w, D, dn, la, x, m, b, rfl, hL, hD, hx, hm, k1, k2, k3⟩ := h
  refine ⟨_, (pss_cons (ps_expr (pe_call (ok_need_name T XT) (hr.mono (by decide)) rfl T.f_need_name.g T.f_need_name.F.kp T.f_need_name.b .nil (passes_call (takes_of rfl rfl rfl rfl) fun _ _ _ _ h => h) (pa_cons (pv 1) pa_nil)))
      (pss_cons (ps_if (pt_not (pt_val (pe_call (ok_is_between T) (hr.mono (by decide)) rfl T.f_is_between.g T.f_is_between.F.kp T.f_is_between.b .nil pass0 (pa_cons (pv 2) (pa_cons pe_int (pa_cons (pe_glob (v := .int 16) rfl T.c_MOST_BOXES.choose_spec ⟨_, rfl⟩) pa_nil)))))) (pss_one (ps_raise rfl (takes_of rfl rfl rfl rfl) (pmk_ne XT.num (hr.mono (by decide)) rfl (pa_cons pe_str pa_nil)))) pss_nil)
      (pss_one (ps_asg (pv 2) (pg_sub (pe_ix (ixt_K (K := K)) (pe_ix (ixl_K (K := K)) (pe_fld (pv 0) rfl) (pe_un un_neg pe_int) (fun _ _ => rfl)) pe_int (fun _ _ => rfl)) (pv 1) (set_dict (u1 hr.units))))))), ?_⟩
  refine ⟨_, rfl, x, b, rfl, hx, fun H1 s1 => ?_⟩
  cases b with
  | false => exact k1 rfl H1 s1
  | true =>
    refine iteT ?_
    refine ⟨_, rfl, m, 0, 16, rfl, hm, _, rfl, ?_⟩
    cases hb : btw m 0 16 with
    | false =>
      refine iteT ⟨_, rfl, fun d nd => ?_⟩
      exact k2 rfl hb _ d (s1.trans (same_upd nd)) upd_same
    | true =>
      refine iteF ?_
      obtain ⟨n, k, rfl, rfl, q⟩ := k3 rfl hb
      have hL1 := hL.same s1
      obtain ⟨dx, sa, t, z, wq, q0, fs, h1, h2, _, _, h3, h4, h5, h6, h7⟩ := hL1.last
      refine ⟨_, rfl, _, rfl, p, _, dx, _, _, rfl, h1, T.cl_LW, T.na_states, h2, _, rfl, sa, _, _, _, rfl, rfl, SqL.of h3, atI_last', ?_⟩
      refine ⟨z, _, _, _, rfl, rfl, h4, rfl, _, rfl, t, _, rfl, DPut.k (k := .inr n) h5 (line_lt (by rw [kvD, List.length_map]; omega)), ?_⟩
      rw [put_kvD]
      exact q _ ((Chg.of s1).trans (Chg.upd (D := [t]) h5 trivial (by simp)) fun x h => .inl (by rw [List.mem_singleton.mp h]; exact h6)) (h7 _ (Same.refl _) _)
def spUnwatch (K : PySem.W.Frag) : Sp := fun vs H Q E => ∃ (p : Addr) (F : List Addr) (S0 : List St1) (w : List Int) (D : Dc) (dn la : List Deed) (x : V) (b : Bool), vs = [.ref p, x] ∧ LiveAt K H p F S0 w D dn la ∧ NV K H x b ∧
  (b = false → ∀ H' d, Same H H' → H' d = some (.xd [("name", x)]) → E (.ref (He.ga K "NoWatch")) (some d) H') ∧
  (b = true → ∃ n, x = .str n ∧ (dGet D n = none → ∀ H' d, Same H H' → H' d = some (.xd [("name", x)]) → E (.ref (He.ga K "NoWatch")) (some d) H') ∧
    (dGet D n ≠ none → ∀ H', Chg K F H H' → LiveAt K H' p F S0 w (dDrop D n) dn la → Q .non H'))
theorem ok_LW_unwatch (T : Txt K mg) (XT : XTxt P w K mg base) : OKmx P w K mg base 4 "unwatch" ["self", "name"] (spUnwatch K) := by
  refine T.f_LW_unwatch.F.ok sc_LW_unwatch (fun vs H Q E => by clear T XT; walk_at "k57len") (fun cdv A outer s H vs Q E hr h => ?_)
  obtain ⟨p, F, S0, w, D, dn, la, x, b, rfl, hL, hx, k1, k2⟩ := h
  refine ⟨_, (pss_cons (ps_set (i := 2) sc_LW_unwatch.nd rfl (Or.inl rfl) (pe_ix (ixt_K (K := K)) (pe_ix (ixl_K (K := K)) (pe_fld (pv 0) rfl) (pe_un un_neg pe_int) (fun _ _ => rfl)) pe_int (fun _ _ => rfl)))
      (pss_cons (ps_if (PW.pt (pw_or (pt_not (pt_val (pe_call (ok_is_name T) (hr.mono (by decide)) rfl T.f_is_name.g T.f_is_name.F.kp T.f_is_name.b .nil pass0 (pa_cons (pv 1) pa_nil)))) (pw_or1 (pt_cmp (pc_dnotin (u1 hr.units) (pv 1) (pv 2)))))) (pss_one (ps_raise rfl (takes_of rfl rfl rfl rfl) (pmk_ne XT.now (hr.mono (by decide)) rfl (pa_cons (pv 1) pa_nil)))) pss_nil)
      (pss_one (ps_expr (pe_dpop1 (pv 2) (pv 1) ⟨rfl, rfl, rfl, rfl⟩))))), ?_⟩
  obtain ⟨dx, sa, t, z, wq, q0, fs, h1, h2, _, _, h3, h4, h5, h6, h7⟩ := hL.last
  refine ⟨_, rfl, p, _, dx, _, _, rfl, h1, T.cl_LW, T.na_states, h2, _, rfl, sa, _, _, _, rfl, rfl, SqL.of h3, atI_last', ?_⟩
  refine ⟨z, _, _, _, rfl, rfl, h4, rfl, ?_⟩
  refine ⟨_, rfl, x, b, rfl, hx, fun H1 s1 => ⟨_, rfl, ?_⟩⟩
  cases b with
  | false =>
    refine iteT (iteT ⟨_, rfl, _, rfl, fun d nd => ?_⟩)
    exact k1 rfl _ d (s1.trans (same_upd nd)) upd_same
  | true =>
    obtain ⟨n, rfl, k3, k4⟩ := k2 rfl
    have h5' := s1 _ _ h5
    refine iteF ⟨_, rfl, _, rfl, ?_⟩
    refine ⟨t, _, rfl, DGet.k (k := .inr n) h5', _, rfl, ?_⟩
    rw [valV_kvD]
    cases hg : dGet D n with
    | none =>
      refine iteT ⟨_, rfl, _, rfl, fun d nd => ?_⟩
      exact k3 hg _ d (s1.trans (same_upd nd)) upd_same
    | some k =>
      refine iteF ?_
      have hL1 := hL.same s1
      refine ⟨_, rfl, t, rfl, .inl ⟨_, .inl h5'⟩, _, rfl, _, .inr n, _, h5', rfl, by rw [valV_kvD, hg]; rfl, ?_⟩
      rw [drop_kvD]
      exact k4 (by rw [hg]; exact fun z => nomatch z) _ ((Chg.of s1).trans (Chg.upd (D := [t]) h5' trivial (by simp)) fun x h => .inl (by rw [List.mem_singleton.mp h]; exact h6)) (h7 _ s1 _)
end
end K57
set_option Elab.async false
set_option linter.all false
set_option maxRecDepth 100000
set_option maxHeartbeats 4000000

/-! _law_caught handed a lambda. -/
namespace K57
open PySem PySem.Spec PyProof.Rows L2 LamX
local macro_rules | `(tactic| walk_at "k57g") => `(tactic| repeat (first | refine ⟨_, rfl, ?_⟩ | refine ⟨_, _, rfl, rfl, ?_⟩ | refine ⟨_, _, rfl, rfl, _, rfl, ?_⟩))
local macro_rules | `(tactic| walk_at "k57len") => `(tactic| (intro h; first | (obtain ⟨e, _⟩ := h; subst e; rfl) | (obtain ⟨_, e, _⟩ := h; subst e; rfl) | (obtain ⟨_, _, e, _⟩ := h; subst e; rfl) | (obtain ⟨_, _, _, e, _⟩ := h; subst e; rfl) | (obtain ⟨_, _, _, _, e, _⟩ := h; subst e; rfl) | (obtain ⟨_, _, _, _, _, e, _⟩ := h; subst e; rfl) | (obtain ⟨_, _, _, _, _, _, e, _⟩ := h; subst e; rfl) | (obtain ⟨_, _, _, _, _, _, _, e, _⟩ := h; subst e; rfl) | (obtain ⟨_, _, _, _, _, _, _, _, e, _⟩ := h; subst e; rfl) | ((repeat (obtain ⟨_, h⟩ := h)); subst_vars; rfl)))

theorem three {α : Type} {l : List α} (h : l.length = 3) : ∃ x y z, l = [x, y, z] := by
  match l, h with
  | [x, y, z], _ => exact ⟨x, y, z, rfl⟩
/-- what _law_caught makes of the lambda's reading -/
def TTc (K : PySem.W.Frag) (BE : Addr) : (XK → Hp → VK → Prop) → Hp → VK → Prop := fun tl H Q =>
  tl (fun cls d H' => ∃ C, cls = .ref C ∧ PySem.W.exmOne K cls (.ref BE) = some true ∧ ∀ a, H' a = none → Q (.ref a) (upd H' a (EX C d a))) H (fun _ H' => ∃ v : V, some (some V.non) = some (some v) ∧ Q v H')
abbrev ngC : List Str := ["_law_work", "_law_caught_here", "_law_error"]
theorem caught_gives {X : Cx} {g BE : Addr} {cdg : Value} {q : Str} (hme : X.mg "BoxError" = some (.ref BE)) : GivesTo X ngC "_law_caught" (defScope s_l_caught) g cdg (defBody s_l_caught) "_law_work" q (TTc X.K BE) := by
  intro f c' s H Q tl act hc h
  refine ⟨_, pss_cons (ps_set (i := 1) sc_l_caught.nd rfl (Or.inl rfl) pe_non) (pss_cons (ps_try_keep (X := (cxOf C8.CX0 X.prog X.w X.K X.mg X.base ngC "_law_caught" (defScope s_l_caught) g cdg X.A X.stack s H C8.E0).nox) (i := 2) (c := .ref BE)
      (tb := fun W D σ H => ∃ Ech : XK, (∀ cls d σ' H', Ech cls d H' → W cls d σ' H') ∧ σ[0]? = some (some (.ref f)) ∧ H c' = some (CodeO c' q) ∧ tl Ech H (fun _ H' => D.nx σ H'))
      (ts := fun a C d => tAsg (tVar 2) (gName 1)) rfl rfl sc_l_caught.nd rfl rfl ⟨rfl, by decide, .inl hme⟩ rfl (fun W pn xe tk _ => ?_) (fun a C oe d pn => pss_one (ps_set (i := 1) sc_l_caught.nd rfl (Or.inl rfl) (pv 2)))) (pss_one (ps_ret (pv 1)))), ?_⟩
  · refine ⟨fun pins s' σ H' D I h' => ?_⟩
    obtain ⟨Ech, hW, h1, h2, h3⟩ := h'
    exact (pss_one (ps_expr (act W pn xe Ech _ _ tk hW))).run pins s' σ H' D I ⟨h1, h2, h3⟩
  · refine ⟨fun cls d H' => ∃ C, cls = .ref C ∧ PySem.W.exmOne X.K cls (.ref BE) = some true ∧ ∀ a, H' a = none → Q (.ref a) (upd H' a (EX C d a)), fun cls d σ' H' hE hlen => ?_, rfl, hc, h⟩
    obtain ⟨C, e1, e2, k⟩ := hE
    obtain ⟨x, y, z, rfl⟩ := three hlen
    exact ⟨C, e1, e2, fun a na => ⟨_, rfl, fun na' => ⟨_, rfl, k a na'⟩⟩⟩
end K57
set_option Elab.async false
set_option linter.all false
set_option maxRecDepth 100000
set_option maxHeartbeats 4000000

/-! _law_is_let_go. -/
namespace K57
open PySem PySem.Spec PyProof.Rows L2 LamX
local macro_rules | `(tactic| walk_at "k57g") => `(tactic| repeat (first | refine ⟨_, rfl, ?_⟩ | refine ⟨_, _, rfl, rfl, ?_⟩ | refine ⟨_, _, rfl, rfl, _, rfl, ?_⟩))
local macro_rules | `(tactic| walk_at "k57len") => `(tactic| (intro h; first | (obtain ⟨e, _⟩ := h; subst e; rfl) | (obtain ⟨_, e, _⟩ := h; subst e; rfl) | (obtain ⟨_, _, e, _⟩ := h; subst e; rfl) | (obtain ⟨_, _, _, e, _⟩ := h; subst e; rfl) | (obtain ⟨_, _, _, _, e, _⟩ := h; subst e; rfl) | (obtain ⟨_, _, _, _, _, e, _⟩ := h; subst e; rfl) | (obtain ⟨_, _, _, _, _, _, e, _⟩ := h; subst e; rfl) | (obtain ⟨_, _, _, _, _, _, _, e, _⟩ := h; subst e; rfl) | (obtain ⟨_, _, _, _, _, _, _, _, e, _⟩ := h; subst e; rfl) | ((repeat (obtain ⟨_, h⟩ := h)); subst_vars; rfl)))

/-- all but D and the tables stays -/
structure ChT (K : PySem.W.Frag) (D : List Addr) (H H' : Hp) : Prop where
  keep : ∀ b o, b ∉ D → (∀ ps, o ≠ .tbl ps) → H b = some o → H' b = some o
  sol : ∀ b o, Sol o → H b = some o → H' b = some o
section
variable {K : PySem.W.Frag} {D D' : List Addr} {H H1 H2 : Hp}
theorem Chg.t (c : Chg K D H H1) : ChT K D H H1 := ⟨fun b o h _ e => c.keep b o h e, c.sol⟩
theorem ChT.ext (e : ExtN H H1) : ChT K D H H1 := ⟨fun b o _ n q => e b o q n, fun b o s q => e b o q fun ps z => by rw [z] at s; exact s⟩
theorem ChT.of (e : Same H H1) : ChT K D H H1 := (Chg.of e).t
theorem ChT.trans (a : ChT K D H H1) (b : ChT K D' H1 H2) (h : ∀ x ∈ D', x ∈ D ∨ H x = none) : ChT K D H H2 :=
  ⟨fun c o hc n e => b.keep c o (fun z => (h c z).elim hc fun m => by rw [m] at e; cases e) n (a.keep c o hc n e), fun c o s q => b.sol c o s (a.sol c o s q)⟩
theorem ChT.then (a : ChT K D H H1) (b : Same H1 H2) : ChT K D H H2 := a.trans (D' := []) (.of b) (by simp)
theorem ChT.seq (c : ChT K D H H1) (a : Addr) (xs : List V) (h : SqT K H a xs) : SqT K H1 a xs := by
  rcases h with (h | ⟨o, h⟩) | h
  · exact .inl (.inl (c.sol _ _ trivial h))
  · exact .inl (.inr ⟨o, c.sol _ _ trivial h⟩)
  · exact .inr h
theorem ChT.rt {a : Addr} {rows : List (List Int)} (c : ChT K D H H1) (h : Rt K H a rows) : Rt K H1 a rows := by
  obtain ⟨ps, h1, h2⟩ := h
  exact ⟨ps, c.seq _ _ h1, Paired.mapP h2 fun p r h => c.seq _ _ h⟩
theorem ChT.more (a : ChT K D H H1) (h : ∀ x ∈ D, x ∈ D' ∨ H x = none) : ChT K D' H H1 :=
  ⟨fun b o hb n e => a.keep b o (fun z => (h b z).elim hb fun m => by rw [m] at e; cases e) n e, a.sol⟩
theorem NV.cht {x : V} {b : Bool} (c : ChT K D H H1) (h : NV K H x b) (n : ∀ a, x = .ref a → a ∉ D) : NV K H1 x b := by
  cases h with
  | str z h => exact .str z h
  | int i => exact .int i
  | non => exact .non
  | @lst a xs h =>
    refine .lst (xs := xs) ?_
    rcases h with (h | ⟨o, h⟩) | h
    · exact .inl (.inl (c.keep _ _ (n a rfl) (fun ps z => by cases z) h))
    · exact .inl (.inr ⟨o, c.sol _ _ trivial h⟩)
    · exact .inr h
theorem Raw.cht {p dx sa da aa : Addr} {qs dqs lqs : List Addr} {T : List (Addr × St1)} {dn la : List Deed} {e b W L f g : V} (R : Raw K H p dx sa da aa qs dqs lqs T dn la e b W L f g) (c : ChT K D H H1) (n : ∀ x ∈ Foot p sa da aa T, x ∉ D) : Raw K H1 p dx sa da aa qs dqs lqs T dn la e b W L f g where
  o := c.keep _ _ (n _ (by simp)) (fun ps z => by cases z) R.o
  s := c.keep _ _ (n _ (by simp)) (fun ps z => by cases z) R.s
  d := c.keep _ _ (n _ (by simp)) (fun ps z => by cases z) R.d
  a := c.keep _ _ (n _ (by simp)) (fun ps z => by cases z) R.a
  ss := paired_mem R.ss fun z t ht ⟨wa, h1, h2, h3⟩ => ⟨wa, c.seq _ _ h1, c.seq _ _ h2, c.keep _ _ (n _ (by simp only [Foot, List.mem_cons, List.mem_map]; exact .inr (.inr (.inr (.inr ⟨t, ht, rfl⟩))))) (fun ps z => by cases z) h3⟩
  dd := Paired.mapP R.dd fun _ _ h => c.seq _ _ h
  ll := Paired.mapP R.ll fun _ _ h => c.seq _ _ h
  nd := R.nd
theorem LiveAt.cht {p : Addr} {F : List Addr} {S0 : List St1} {w : List Int} {Dc0 : Dc} {dn la : List Deed} (L : LiveAt K H p F S0 w Dc0 dn la) (c : ChT K D H H1) (n : ∀ x ∈ F, x ∉ D) : LiveAt K H1 p F S0 w Dc0 dn la := by
  obtain ⟨dx, sa, da, aa, qs, dqs, lqs, T0, t, e, b, f, g, wa, ln, R, rfl, h2, h3, h4, h5⟩ := L
  exact ⟨dx, sa, da, aa, qs, dqs, lqs, T0, t, e, b, f, g, wa, ln, R.cht c n, rfl, h2, c.seq _ _ h3, c.rt h4, h5⟩
theorem Tabs.chg {T : List (Addr × Str)} (t : Tabs T H) (c : Chg K D H H1) (n : ∀ p ∈ T, p.1 ∉ D) : Tabs T H1 := fun p hp => by
  obtain ⟨ps, h1, h2, h3⟩ := t p hp
  refine ⟨ps, c.keep _ _ (n p hp) h1, h2, fun pos cv hc => ?_⟩
  obtain ⟨c0, e1, e2⟩ := h3 pos cv hc
  exact ⟨c0, e1, c.sol _ _ trivial e2⟩
end
/-- a def whose code object is known -/
theorem okC {CX : CXT} {P : Program} {w : World} {K : PySem.W.Frag} {mg : Str → Option Value} {base : Heap} {x qual : Str} {params : Arguments} {body : List Stmt} {scope : Scope} {dvs : List V} {kws : List (Str × V)} {f c : Addr} {fd : FuncData} {N ps : List Str} {k : Nat} {sp : Sp}
    (F : FunD K x qual params body scope dvs kws f fd) (S : FnScope N ps scope) (hcd : fd.code = .ref c) (len : ∀ vs H Q E, sp vs H Q E → vs.length = ps.length)
    (hbody : ∀ (A : Around) (outer : List Env) (s : Shared) (H : Hp) (vs : List V) (Q : VK) (E : XK), Room k (A.deeper (envOfC qual scope s.heap.objs.size f (.ref c))) → sp vs H Q E →
      ∃ t, PSs (cxOf CX P w K mg base N qual scope f (.ref c) A outer s H E) body t ∧ t { nx := fun _ H' => Q .non H', rt := Q } (L2.start N vs) H) : FnOk P w K mg base CX (k + 1) f fd ps sp := by
  obtain ⟨oc, od, dV, kV, doc, pm, an, cdv, ct, osl, rfl, lk, hcd', _, _⟩ := F.ex
  have hcd : cdv = .ref c := hcd
  subst hcd
  exact fn_of lk hcd' S len fun A outer s H vs Q E hr hsp => hbody A outer s H vs Q E hr hsp
/-- what the making of lambdas asks -/
structure LTxt (K : PySem.W.Frag) (mg : Str → Option Value) (base : Heap) (tabs : List (Addr × Str)) (x : Str) : Prop where
  ex : ∃ c P, (fdOf K (He.ga K x)).code = .ref c ∧ TabB base mg c P ∧ (P, (x ++ ".<locals>.") ++ "<lambda>") ∈ tabs ∧ ∀ p ∈ tabs, p.1 = P → p.2 = (x ++ ".<locals>.") ++ "<lambda>"
section
variable {P : Program} {w : World} {K : PySem.W.Frag} {mg : Str → Option Value} {base : Heap} {tabs : List (Addr × Str)}
def spLetGo (K : PySem.W.Frag) (tabs : List (Addr × Str)) : Sp := fun vs H Q _ => ∃ (p : Addr) (F : List Addr) (S0 : List St1) (w : List Int) (D : Dc) (dn la : List Deed) (n : Str), vs = [.ref p, .str n] ∧ LiveAt K H p F S0 w D dn la ∧ n.length ≤ 100 ∧ dGet D n = none ∧ Tabs tabs H ∧
  ∀ H', ChT K [] H H' → Tabs tabs H' → Q (.bl true) H'
theorem ok_l_is_let_go (T : Txt K mg) (XT : XTxt P w K mg base) (LT : LTxt K mg base tabs "_law_is_let_go") (nw : mg "NoWatch" = some (.ref (He.ga K "NoWatch"))) : OKf P w K mg base 9 "_law_is_let_go" ["_law_live", "_law_name_here"] (spLetGo K tabs) := by
  obtain ⟨c, Pt, hcd, TB, hmT, hu⟩ := LT.ex
  obtain ⟨oc, od, dV, kV, doc, pm, an, cdv, ct, osl, eF, lk, hcg, _, _⟩ := T.f_l_caught.F.ex
  have hb := T.f_l_caught.b
  rw [eF] at hb lk
  refine okC T.f_l_is_let_go.F sc_l_is_let_go hcd (fun vs H Q E => by clear T XT LT nw TB hmT hu hb lk eF hcg hcd; walk_at "k57len") (fun A outer s H vs Q E hr h => ?_)
  obtain ⟨p, F, S0, w, D, dn, la, n, rfl, hL, hn, hD, hT, k⟩ := h
  refine ⟨_, PSs.nox (pss_cons (ps_set (i := 2) sc_l_is_let_go.nd rfl (Or.inl rfl) (pe_lamcall (T := tabs) (c := c) (P := Pt) (k := 5) (Ng := ngC) rfl T.f_l_caught.g T.f_l_caught.F.kp lk hcg hb sc_l_caught rfl (.inl rfl) (caught_gives XT.g_be) TB rfl hmT hu (hr.mono (by decide)) (lamS_by (sc := defScope s_l_is_let_go) (by decide +kernel)) rfl (fun _ _ _ _ _ => rfl)
      (fun A outer s H E f c' hr' => pe_meth (E := E) (pv 0) T.cl_LW T.f_LW_unwatch.m (ok_LW_unwatch T XT) (hr'.mono (by decide)) T.f_LW_unwatch.b .nil (passes_call (takes_of rfl rfl rfl rfl) fun _ _ _ _ h => h) (pa_cons (pv 1) pa_nil))))
      (pss_one (ps_ret (pe_and (pe_callB call_isX (by rfl) T.b_isinstance bb_isinstance (pa_cons (pv 2) (pa_cons (pe_glob (v := .ref (He.ga K "NoWatch")) rfl nw rfl) pa_nil))) (pe_one (pe_cmpR op_eq (pe_xv (pv 2)) (pv 1) (nomark _))))))), ?_⟩
  refine ⟨hT, fun H1 eN hT1 => ?_⟩
  have c1 : ChT K [] H H1 := .ext eN
  have hL1 := hL.cht c1 (by simp)
  obtain ⟨dx, sa, t, q, wq, q0, fs, h1, h2, _, h2', _⟩ := hL1.last
  have fin : ∀ (H2 : Hp) (d : Addr), Same H1 H2 → H2 d = some (.xd [("name", .str n)]) → ∀ a, H2 a = none →
      (upd H2 a (EX (He.ga K "NoWatch") (some d) a)) a = some (EX (He.ga K "NoWatch") (some d) a) ∧ (upd H2 a (EX (He.ga K "NoWatch") (some d) a)) d = some (.xd [("name", .str n)]) ∧ Q (.bl true) (upd H2 a (EX (He.ga K "NoWatch") (some d) a)) := fun H2 d s2 hd a na => by
    have s3 := same_upd (o := EX (He.ga K "NoWatch") (some d) a) na
    exact ⟨upd_same, s3 _ _ hd, k _ (c1.then (s2.trans s3)) (hT1.ext (s2.trans s3))⟩
  refine ⟨_, rfl, p, dx, fs, rfl, h1, h2', _, rfl, p, F, S0, w, D, dn, la, .str n, isNm n, rfl, hL1, .str n hn, fun hb H2 d s2 hd => ?_, fun hb => ⟨n, rfl, fun _ H2 d s2 hd => ?_, fun hne => absurd hD hne⟩⟩
  all_goals
    refine ⟨He.ga K "NoWatch", rfl, XT.now.e, fun a na => ?_⟩
    obtain ⟨f1, f2, f3⟩ := fin H2 d s2 hd a na
    refine ⟨_, rfl, a, He.ga K "NoWatch", He.ga K "NoWatch", some d, true, rfl, f1, (fun dd e => ⟨_, by cases e; exact f2⟩), XT.now.xc, (by unfold PySem.W.kitOne; simp), true, rfl, ?_⟩
    refine iteT ⟨_, rfl, a, He.ga K "NoWatch", d, _, .str n, rfl, f1, f2, XT.now.xf, XT.now.noN, by simp [List.lookup], _, rfl, rfl, ?_⟩
    rw [decide_eq_true rfl]
    exact f3
end
end K57
set_option Elab.async false
set_option linter.all false
set_option maxRecDepth 100000
set_option maxHeartbeats 4000000

/-! _law_refused. -/
namespace K57
open PySem PySem.Spec PyProof.Rows L2 LamX
local macro_rules | `(tactic| walk_at "k57g") => `(tactic| repeat (first | refine ⟨_, rfl, ?_⟩ | refine ⟨_, _, rfl, rfl, ?_⟩ | refine ⟨_, _, rfl, rfl, _, rfl, ?_⟩))
local macro_rules | `(tactic| walk_at "k57len") => `(tactic| (intro h; first | (obtain ⟨e, _⟩ := h; subst e; rfl) | (obtain ⟨_, e, _⟩ := h; subst e; rfl) | (obtain ⟨_, _, e, _⟩ := h; subst e; rfl) | (obtain ⟨_, _, _, e, _⟩ := h; subst e; rfl) | (obtain ⟨_, _, _, _, e, _⟩ := h; subst e; rfl) | (obtain ⟨_, _, _, _, _, e, _⟩ := h; subst e; rfl) | (obtain ⟨_, _, _, _, _, _, e, _⟩ := h; subst e; rfl) | (obtain ⟨_, _, _, _, _, _, _, e, _⟩ := h; subst e; rfl) | (obtain ⟨_, _, _, _, _, _, _, _, e, _⟩ := h; subst e; rfl) | ((repeat (obtain ⟨_, h⟩ := h)); subst_vars; rfl)))

/-- what is no name, as data -/
def BadN (K : PySem.W.Frag) (H : Hp) (x : V) : Prop := NV K H x false ∧ ∃ d, Dp K H x d ∧ SeqAt.shaped d = true ∧ PyData.eqv d d = true
theorem badN_str {K : PySem.W.Frag} {H : Hp} (z : Str) (h : isNm z = false) (h1 : z.length ≤ 100) (h2 : SeqAt.shaped (.str z) = true) (h3 : PyData.eqv (.str z) (.str z) = true) : BadN K H (.str z) := ⟨h ▸ .str z h1, _, .str z, h2, h3⟩
def bads (l : Addr) : List V := [.str "", .str "abcdefghi", .str "A", .str "a b", .int 5, .non, .str "a1", .ref l]
theorem bad_at {K : PySem.W.Frag} {H : Hp} {l : Addr} (hl : H l = some (.lst [.str "a"])) {i : Nat} {x : V} (h : (bads l)[i]? = some x) : BadN K H x := by
  have hx := List.mem_of_getElem? h
  simp only [bads, List.mem_cons, List.not_mem_nil, or_false] at hx
  rcases hx with rfl | rfl | rfl | rfl | rfl | rfl | rfl | rfl
  · exact badN_str _ (by decide +kernel) (by decide +kernel) (by decide +kernel) (by decide +kernel)
  · exact badN_str _ (by decide +kernel) (by decide +kernel) (by decide +kernel) (by decide +kernel)
  · exact badN_str _ (by decide +kernel) (by decide +kernel) (by decide +kernel) (by decide +kernel)
  · exact badN_str _ (by decide +kernel) (by decide +kernel) (by decide +kernel) (by decide +kernel)
  · exact ⟨.int 5, _, .int 5, by decide +kernel, by decide +kernel⟩
  · exact ⟨.non, _, .non, by decide +kernel, by decide +kernel⟩
  · exact badN_str _ (by decide +kernel) (by decide +kernel) (by decide +kernel) (by decide +kernel)
  · exact ⟨.lst (SqL.of hl), .list [.str "a"], .lst (SqL.of hl) (.cons (.str _) .nil), by decide +kernel, by decide +kernel⟩
def badM : List V := [.int (-1), .int 17, .non, .bl true, .str "1"]
theorem badM_at {i : Nat} {x : V} (h : badM[i]? = some x) : Flat x ∧ btw x 0 16 = false := by
  have hx := List.mem_of_getElem? h
  simp only [badM, List.mem_cons, List.not_mem_nil, or_false] at hx
  rcases hx with rfl | rfl | rfl | rfl | rfl
  · exact ⟨.int _, by decide⟩
  · exact ⟨.int _, by decide⟩
  · exact ⟨.non, rfl⟩
  · exact ⟨.bl _, rfl⟩
  · exact ⟨.str _, rfl⟩
section
variable {P : Program} {w : World} {K : PySem.W.Frag} {mg : Str → Option Value} {base : Heap} {tabs : List (Addr × Str)}
def spRefused (K : PySem.W.Frag) (tabs : List (Addr × Str)) : Sp := fun vs H Q _ => ∃ (p : Addr) (F : List Addr) (S0 : List St1) (w : List Int) (D : Dc) (dn la : List Deed), vs = [.ref p] ∧ LiveAt K H p F S0 w D dn la ∧ D.length ≤ 1000 ∧ Tabs tabs H ∧ ∀ H', Q (.bl true) H'
theorem ok_l_refused (T : Txt K mg) (XT : XTxt P w K mg base) (LT : LTxt K mg base tabs "_law_refused") (nw : mg "NoWatch" = some (.ref (He.ga K "NoWatch"))) (bnu : mg "BadNumber" = some (.ref (He.ga K "BadNumber"))) : OKf P w K mg base 9 "_law_refused" ["_law_live"] (spRefused K tabs) := by
  obtain ⟨c, Pt, hcd, TB, hmT, hu⟩ := LT.ex
  obtain ⟨oc, od, dV, kV, doc, pm, an, cdv, ct, osl, eF, lk, hcg, _, _⟩ := T.f_l_caught.F.ex
  have hb := T.f_l_caught.b
  rw [eF] at hb lk
  refine okC T.f_l_refused.F sc_l_refused hcd (fun vs H Q E => by clear T XT LT nw bnu TB hmT hu hb lk eF hcg hcd; walk_at "k57len") (fun A outer s H vs Q E hr h => ?_)
  obtain ⟨p, F, S0, w, D, dn, la, rfl, hL, hDl, hT, k⟩ := h
  refine ⟨_, PSs.nox (pss_cons (ps_for PassesOwn.never rfl (pil_K (K := K) (pe_lst (pa_cons pe_str (pa_cons pe_str (pa_cons pe_str (pa_cons pe_str (pa_cons pe_int (pa_cons pe_non (pa_cons pe_str (pa_cons (pe_lst (pa_cons pe_str pa_nil)) pa_nil)))))))))) (pg_name (i := 2) sc_l_refused.nd rfl (Or.inr rfl)) (pss_cons (ps_if (pt_not (pt_val (pe_callB call_isX (by rfl) T.b_isinstance bb_isinstance (pa_cons (pe_lamcall (T := tabs) (c := c) (P := Pt) (k := 5) (Ng := ngC) rfl T.f_l_caught.g T.f_l_caught.F.kp lk hcg hb sc_l_caught rfl (.inl rfl) (caught_gives XT.g_be) TB rfl hmT hu (hr.mono (by decide)) (lamS_by (sc := defScope s_l_refused) (by decide +kernel)) rfl (fun _ _ _ _ _ => rfl) (fun A outer s H E f c' hr' => pe_meth (E := E) (pv 0) T.cl_LW T.f_LW_watch.m (ok_LW_watch T XT) (hr'.mono (by decide)) T.f_LW_watch.b .nil (passes_call (takes_of rfl rfl rfl rfl) fun _ _ _ _ h => h) (pa_cons (pv 2) (pa_cons (pe_un un_neg pe_int) pa_nil)))) (pa_cons (pe_glob (v := .ref (He.ga K "BadName")) rfl XT.g_bn rfl) pa_nil))))) (pss_one (ps_ret pe_bl)) pss_nil)
      (pss_cons (ps_set (i := 1) sc_l_refused.nd rfl (Or.inl rfl) (pe_lamcall (T := tabs) (c := c) (P := Pt) (k := 5) (Ng := ngC) rfl T.f_l_caught.g T.f_l_caught.F.kp lk hcg hb sc_l_caught rfl (.inl rfl) (caught_gives XT.g_be) TB rfl hmT hu (hr.mono (by decide)) (lamS_by (sc := defScope s_l_refused) (by decide +kernel)) rfl (fun _ _ _ _ _ => rfl) (fun A outer s H E f c' hr' => pe_meth (E := E) (pv 0) T.cl_LW T.f_LW_unwatch.m (ok_LW_unwatch T XT) (hr'.mono (by decide)) T.f_LW_unwatch.b .nil (passes_call (takes_of rfl rfl rfl rfl) fun _ _ _ _ h => h) (pa_cons (pv 2) pa_nil))))
      (pss_one (ps_if (PW.pt (pw_or (pt_not (pt_val (pe_callB call_isX (by rfl) T.b_isinstance bb_isinstance (pa_cons (pv 1) (pa_cons (pe_glob (v := .ref (He.ga K "NoWatch")) rfl nw rfl) pa_nil))))) (pw_or1 (pt_cmpR (neD_K (K := K) hr.units) (pe_xv (pv 1)) (pv 2) (nomark _))))) (pss_one (ps_ret pe_bl)) pss_nil)))))
      (pss_cons (ps_for PassesOwn.never rfl (pil_K (K := K) (pe_lst (pa_cons (pe_un un_neg pe_int) (pa_cons pe_int (pa_cons pe_non (pa_cons pe_bl (pa_cons pe_str pa_nil))))))) (pg_name (i := 2) sc_l_refused.nd rfl (Or.inr rfl)) (pss_cons (ps_set (i := 1) sc_l_refused.nd rfl (Or.inl rfl) (pe_lamcall (T := tabs) (c := c) (P := Pt) (k := 5) (Ng := ngC) rfl T.f_l_caught.g T.f_l_caught.F.kp lk hcg hb sc_l_caught rfl (.inl rfl) (caught_gives XT.g_be) TB rfl hmT hu (hr.mono (by decide)) (lamS_by (sc := defScope s_l_refused) (by decide +kernel)) rfl (fun _ _ _ _ _ => rfl) (fun A outer s H E f c' hr' => pe_meth (E := E) (pv 0) T.cl_LW T.f_LW_watch.m (ok_LW_watch T XT) (hr'.mono (by decide)) T.f_LW_watch.b .nil (passes_call (takes_of rfl rfl rfl rfl) fun _ _ _ _ h => h) (pa_cons pe_str (pa_cons (pv 2) pa_nil)))))
      (pss_one (ps_if (PW.pt (pw_or (pt_not (pt_val (pe_callB call_isX (by rfl) T.b_isinstance bb_isinstance (pa_cons (pv 1) (pa_cons (pe_glob (v := .ref (He.ga K "BadNumber")) rfl bnu rfl) pa_nil))))) (pw_or1 (pt_cmpR op_ne (pe_xv (pv 1)) pe_str (nomark _))))) (pss_one (ps_ret pe_bl)) pss_nil))))
      (pss_one (ps_ret pe_bl)))), ?_⟩
  -- for _law_bad in [..]
  refine ⟨(by show 1 ≤ sizeLine; decide), fun l nl => ⟨(by show 8 ≤ sizeLine; decide), fun b nb => ?_⟩⟩
  have s1 := (same_upd (o := HO.lst [.str "a"]) nl).trans (same_upd (o := HO.lst (bads l)) nb)
  have hl0 := same_upd (o := HO.lst (bads l)) nb _ _ (upd_same (H := H) (a := l) (o := HO.lst [.str "a"]))
  have hb0 := upd_same (H := upd H l (.lst [.str "a"])) (a := b) (o := HO.lst (bads l))
  refine ⟨b, rfl, ⟨_, SqL.of hb0⟩, ?_⟩
  refine for_it (walk_list (K := K) (a := b) (xs := bads l)) (fun i σ H' => ∃ (v1 v2 : Option V), σ = [some (.ref p), v1, v2] ∧ H' l = some (.lst [.str "a"]) ∧ H' b = some (.lst (bads l)) ∧ LiveAt K H' p F S0 w D dn la ∧ Tabs tabs H')
    ⟨none, none, rfl, hl0, hb0, hL.same s1, hT.ext s1⟩ (fun i σ H' _ ⟨_, _, _, _, h, _⟩ => SqL.of h) ?_ ?_
  · rintro i x σ H1 H1' hi ⟨v1, v2, rfl, hl1, hb1, hL1, hT1⟩ ⟨rfl, hx⟩
    refine ⟨hT1, fun H2 eN hT2 => ?_⟩
    have hl2 : H2 l = some (.lst [.str "a"]) := eN _ _ hl1 fun ps z => by cases z
    have hb2 : H2 b = some (.lst (bads l)) := eN _ _ hb1 fun ps z => by cases z
    have hL2 := hL1.cht (K := K) (D := []) (.ext eN) (by simp)
    have bad2 := bad_at (K := K) hl2 hx
    obtain ⟨dx, sa, t, q, wq, q0, fs, h1, h2, h3, h3', _⟩ := hL2.last
    -- watch(bad, -1): BadName
    refine ⟨_, rfl, p, dx, fs, rfl, h1, h3, _, rfl, _, rfl, ?_⟩
    refine ⟨p, F, S0, w, D, dn, la, x, .int (-1), false, rfl, hL2, hDl, bad2.1, .int _, fun _ H3 s3 => ?_, (fun z => by cases z), (fun z => by cases z)⟩
    refine ⟨He.ga K "BadName", rfl, XT.e_bn, fun a na => ?_⟩
    have s4 := same_upd (o := EX (He.ga K "BadName") none a) na
    refine ⟨a, He.ga K "BadName", He.ga K "BadName", none, true, rfl, upd_same, (fun dd e => nomatch e), XT.x_bn, (by unfold PySem.W.kitOne; simp), _, rfl, ?_⟩
    refine iteF ?_
    have s34 := s3.trans s4
    have hl4 := s34 _ _ hl2
    have hb4 := s34 _ _ hb2
    have hL4 := hL2.same s34
    have hT4 := hT2.ext s34
    generalize upd H3 a (EX (He.ga K "BadName") none a) = H4 at s4 s34 hl4 hb4 hL4 hT4 ⊢
    clear h1 h2 h3 h3' bad2 hL2 hT2 hl2 hb2 eN
    -- unwatch(bad): NoWatch
    refine ⟨hT4, fun H5 eN hT5 => ?_⟩
    have hl5 : H5 l = some (.lst [.str "a"]) := eN _ _ hl4 fun ps z => by cases z
    have hb5 : H5 b = some (.lst (bads l)) := eN _ _ hb4 fun ps z => by cases z
    have hL5 := hL4.cht (K := K) (D := []) (.ext eN) (by simp)
    have bad5 := bad_at (K := K) hl5 hx
    obtain ⟨dx, sa, t, q, wq, q0, fs, h1, h2, h3, h3', _⟩ := hL5.last
    refine ⟨_, rfl, p, dx, fs, rfl, h1, h3', _, rfl, ?_⟩
    refine ⟨p, F, S0, w, D, dn, la, x, false, rfl, hL5, bad5.1, fun _ H6 d s6 hd => ?_, (fun z => by cases z)⟩
    refine ⟨He.ga K "NoWatch", rfl, XT.now.e, fun a' na' => ?_⟩
    have s7 := same_upd (o := EX (He.ga K "NoWatch") (some d) a') na'
    have s67 := s6.trans s7
    have hd7 := s7 _ _ hd
    have ha7 := upd_same (H := H6) (a := a') (o := EX (He.ga K "NoWatch") (some d) a')
    generalize upd H6 a' (EX (He.ga K "NoWatch") (some d) a') = H7 at s7 s67 hd7 ha7 ⊢
    refine ⟨_, rfl, a', He.ga K "NoWatch", He.ga K "NoWatch", some d, true, rfl, ha7, (fun dd e => ⟨_, by cases e; exact hd7⟩), XT.now.xc, (by unfold PySem.W.kitOne; simp), _, rfl, ?_⟩
    refine iteF ?_
    have hl7 := s67 _ _ hl5
    obtain ⟨_, dt, b1, b2, b3⟩ := bad_at (K := K) hl7 hx
    refine ⟨_, rfl, a', He.ga K "NoWatch", d, _, x, rfl, ha7, hd7, XT.now.xf, XT.now.noN, by simp [List.lookup], _, rfl, dt, dt, b1, b1, b2, b2, _, rfl, ?_⟩
    rw [b3]
    refine iteF ?_
    exact ⟨_, _, rfl, hl7, s67 _ _ hb5, hL5.same s67, hT5.ext s67⟩
  · rintro σ H1 ⟨v1, v2, rfl, _, _, hL1, hT1⟩
    -- for _law_bad in [-1, 17, None, True, '1']
    refine ⟨_, rfl, (by show 5 ≤ sizeLine; decide), fun b2 nb2 => ?_⟩
    have s2 := same_upd (o := HO.lst badM) nb2
    refine ⟨b2, rfl, ⟨_, SqL.of upd_same⟩, ?_⟩
    refine for_it (walk_list (K := K) (a := b2) (xs := badM)) (fun i σ H' => ∃ (v1 v2 : Option V), σ = [some (.ref p), v1, v2] ∧ H' b2 = some (.lst badM) ∧ LiveAt K H' p F S0 w D dn la ∧ Tabs tabs H')
      ⟨_, _, rfl, upd_same, hL1.same s2, hT1.ext s2⟩ (fun i σ H' _ ⟨_, _, _, h, _⟩ => SqL.of h) ?_ ?_
    · rintro i x σ H3 H3' hi ⟨v1, v2, rfl, hb3, hL3, hT3⟩ ⟨rfl, hx⟩
      obtain ⟨m1, m2⟩ := badM_at hx
      refine ⟨hT3, fun H5 eN hT5 => ?_⟩
      have hb5 : H5 b2 = some (.lst badM) := eN _ _ hb3 fun ps z => by cases z
      have hL5 := hL3.cht (K := K) (D := []) (.ext eN) (by simp)
      obtain ⟨dx, sa, t, q, wq, q0, fs, h1, h2, h3, h3', _⟩ := hL5.last
      refine ⟨_, rfl, p, dx, fs, rfl, h1, h3, _, rfl, ?_⟩
      refine ⟨p, F, S0, w, D, dn, la, .str "a", x, true, rfl, hL5, hDl, (show isNm "a" = true by decide +kernel) ▸ NV.str "a" (by decide +kernel), m1, (fun z => by cases z), fun _ _ H6 d s6 hd => ?_, fun _ z => by rw [m2] at z; cases z⟩
      refine ⟨He.ga K "BadNumber", rfl, XT.num.e, fun a' na' => ?_⟩
      have s7 := same_upd (o := EX (He.ga K "BadNumber") (some d) a') na'
      have s67 := s6.trans s7
      have hd7 := s7 _ _ hd
      have ha7 := upd_same (H := H6) (a := a') (o := EX (He.ga K "BadNumber") (some d) a')
      generalize upd H6 a' (EX (He.ga K "BadNumber") (some d) a') = H7 at s7 s67 hd7 ha7 ⊢
      refine ⟨_, rfl, a', He.ga K "BadNumber", He.ga K "BadNumber", some d, true, rfl, ha7, (fun dd e => ⟨_, by cases e; exact hd7⟩), XT.num.xc, (by unfold PySem.W.kitOne; simp), _, rfl, ?_⟩
      refine iteF ?_
      refine ⟨_, rfl, a', He.ga K "BadNumber", d, _, .str "many", rfl, ha7, hd7, XT.num.xf, XT.num.noN, by simp [List.lookup], rfl, _, rfl, ?_⟩
      rw [decide_eq_true rfl]
      refine iteF ?_
      exact ⟨_, _, rfl, s67 _ _ hb5, hL5.same s67, hT5.ext s67⟩
    · rintro σ H3 ⟨v1, v2, rfl, _, _, _⟩
      exact k _
end
end K57
set_option Elab.async false
set_option linter.all false
set_option maxRecDepth 100000
set_option maxHeartbeats 4000000

/-! The law's own boxes. -/
namespace K57
open PySem PySem.Spec PyProof.Rows L2
local macro_rules | `(tactic| walk_at "k57g") => `(tactic| repeat (first | refine ⟨_, rfl, ?_⟩ | refine ⟨_, _, rfl, rfl, ?_⟩ | refine ⟨_, _, rfl, rfl, _, rfl, ?_⟩))
local macro_rules | `(tactic| walk_at "k57len") => `(tactic| (intro h; first | (obtain ⟨e, _⟩ := h; subst e; rfl) | (obtain ⟨_, e, _⟩ := h; subst e; rfl) | (obtain ⟨_, _, e, _⟩ := h; subst e; rfl) | (obtain ⟨_, _, _, e, _⟩ := h; subst e; rfl) | (obtain ⟨_, _, _, _, e, _⟩ := h; subst e; rfl) | (obtain ⟨_, _, _, _, _, e, _⟩ := h; subst e; rfl) | (obtain ⟨_, _, _, _, _, _, e, _⟩ := h; subst e; rfl) | (obtain ⟨_, _, _, _, _, _, _, e, _⟩ := h; subst e; rfl) | (obtain ⟨_, _, _, _, _, _, _, _, e, _⟩ := h; subst e; rfl) | ((repeat (obtain ⟨_, h⟩ := h)); subst_vars; rfl)))

section
variable {P : Program} {w : World} {K : PySem.W.Frag} {mg : Str → Option Value} {base : Heap}
def spRising (K : PySem.W.Frag) : Sp := fun vs H Q _ => ∃ (a : Addr) (ws : List Int) (m : Nat), vs = [.ref a, .int (m : Int)] ∧ Wt K H a ws ∧ Lw ws ∧ m ≤ 16 ∧
  ∀ (p : Addr) (rows : List (List Int)) (H' : Hp), Same H H' → Rt K H' p rows → (rows.map List.length).sum = shp m (Ln ws) → rows.length ≤ 400 → Q (.ref p) H'
theorem ok_rising_lot (T : Txt K mg) : OKf P w K mg base 6 "rising_lot" ["word", "many"] (spRising K) := by
  refine T.f_rising_lot.F.ok sc_rising_lot (fun vs H Q E => by clear T; walk_at "k57len") (fun cdv A outer s H vs Q E hr h => ?_)
  obtain ⟨a, ws, m, rfl, ha, hl, hm, k⟩ := h
  refine ⟨_, PSs.nox (pss_cons (ps_expr (pe_call (ok_need_many T) (hr.mono (by decide)) rfl T.f_need_many.g T.f_need_many.F.kp T.f_need_many.b .nil pass0 (pa_cons (pv 0) (pa_cons (pv 1) pa_nil))))
      (pss_one (ps_ret (pe_call (ok_lot_of T) (hr.mono (by decide)) rfl T.f_lot_of.g T.f_lot_of.F.kp T.f_lot_of.b .nil pass0 (pa_cons (pv 0) (pa_cons (pv 1) (pa_cons pe_bl pa_nil))))))), ?_⟩
  refine ⟨_, rfl, _, rfl, a, ws, (m : Int), rfl, ha, hl, by omega, by omega, fun H1 s1 => ?_⟩
  refine ⟨_, rfl, _, rfl, a, ws, m, rfl, sameT s1 ha, hl.len, by omega, fun p rows H2 s2 h1 h2 h3 => ?_⟩
  exact k p rows H2 (s1.trans s2) h1 h2 h3
theorem ok_l_lengths (T : Txt K mg) : OKf P w K mg base 1 "_law_lengths" ["_law_lines"] (spLengths K) := by
  refine T.f_l_lengths.F.ok sc_l_lengths (fun vs H Q E => by clear T; walk_at "k57len") (fun cdv A outer s H vs Q E hr h => ?_)
  obtain ⟨a, rows, rfl, ⟨ps, ha, hp⟩, hl, k⟩ := h
  refine ⟨_, PSs.nox (pss_one (ps_ret (pe_callTy (tuple_K (K := K)) (by rfl) T.b_tuple bb_tuple (pa_cons (pe_lc (own := [("_law_line", 1)]) (g := gName 1) (by rfl) sc_l_lengths.nd (pit_K (K := K) (pv 0)) (blkOk_by (N := ["_law_lines", "_law_line"]) (sc := defScope s_l_lengths) (by decide +kernel)) (fun _ _ _ _ _ => pg_name (i := 1) sc_l_lengths.nd rfl (Or.inl rfl)) (fun _ _ _ _ _ => pts_nil) (fun _ _ _ _ _ => (pe_callB (len_K (K := K)) (by rfl) T.b_len bb_len (pa_cons (pv 1) pa_nil)))) pa_nil)))), ?_⟩
  have hlen := Paired.len hp
  refine ⟨_, rfl, a, rfl, ⟨_, ha⟩, fun D hD => ?_⟩
  refine lcm (walk_tup (K := K) (a := a) (xs := ps.map V.ref)) (by simp; omega) hD (fun i => V.int ((rows.getD i []).length : Int)) (fun H s => sameT s ha) yAt_same (fun i x H H' N hi s hy hN => ?_) (fun H s e => ?_)
  · obtain ⟨rfl, hx⟩ := hy
    obtain ⟨z, hz, rfl⟩ := map_some hx
    obtain ⟨r, hr, hzr⟩ := Paired.at' hp hz
    refine ⟨rfl, _, rfl, z, _, rfl, .inr (sameT s hzr), ?_⟩
    have e : rows.getD i [] = r := by simp [List.getD, hr]
    have q := hN H' (Same.refl _)
    rw [e] at q
    rw [List.length_map]
    exact q
  · rw [List.length_map, hlen, range_map rows [] (fun r => V.int (r.length : Int))] at e
    refine ⟨D, _, rfl, .inl ⟨SqL.of e, fun p hp' => ?_⟩⟩
    refine k p _ (s.trans (same_upd hp')) (s.free hp') (SqT.of ?_)
    rw [upd_same]
    simp [lens]
theorem ok_l_about (T : Txt K mg) : OKf P w K mg base 1 "_law_about" ["_law_word"] (spAbout K) := by
  refine T.f_l_about.F.ok sc_l_about (fun vs H Q E => by clear T; walk_at "k57len") (fun cdv A outer s H vs Q E hr h => ?_)
  obtain ⟨a, ws, rfl, ha, hl, k⟩ := h
  refine ⟨_, PSs.nox (pss_one (ps_ret (pe_callTy (tuple_K (K := K)) (by rfl) T.b_tuple bb_tuple (pa_cons (pe_lc (own := [("_law_letter", 1)]) (g := gName 1) (by rfl) sc_l_about.nd (pit_K (K := K) (k57_pe_revT (K := K) (pv 0))) (blkOk_by (N := ["_law_word", "_law_letter"]) (sc := defScope s_l_about) (by decide +kernel)) (fun _ _ _ _ _ => pg_name (i := 1) sc_l_about.nd rfl (Or.inl rfl)) (fun _ _ _ _ _ => pts_nil) (fun _ _ _ _ _ => (pe_op op_sub pe_int (pv 1)))) pa_nil)))), ?_⟩
  refine ⟨_, rfl, a, _, rfl, ha, fun p np => ⟨p, rfl, ⟨_, SqT.of upd_same⟩, fun D nD => ?_⟩⟩
  have s1 := same_upd (o := HO.tup (ws.map V.int).reverse) np
  have h1 : SqT K (upd H p (.tup (ws.map V.int).reverse)) p (ws.reverse.map V.int) := SqT.of (by rw [upd_same, List.map_reverse])
  refine lcm (walk_tup (K := K) (a := p) (xs := ws.reverse.map V.int)) (by simp; omega) nD (fun i => V.int (17 - ws.reverse.getD i 0)) (fun H s => sameT s h1) yAt_same (fun i x H2 H2' N hi s hy hN => ?_) (fun H2 s2 e => ?_)
  · obtain ⟨rfl, hx⟩ := hy
    obtain ⟨c, hc, rfl⟩ := map_some hx
    have e : ws.reverse.getD i 0 = c := by simp only [List.getD, hc, Option.getD_some]
    have q := hN H2' (Same.refl _)
    rw [e] at q
    exact ⟨rfl, _, rfl, _, _, rfl, rfl, q⟩
  · rw [List.length_map, range_map ws.reverse 0 (fun x => V.int (17 - x))] at e
    refine ⟨D, _, rfl, .inl ⟨SqL.of e, fun u nu => ?_⟩⟩
    refine k u _ (s1.trans (s2.trans (same_upd nu))) (SqT.of ?_)
    rw [upd_same, about, List.map_map]
    rfl
theorem paired_mem' {α β : Type} {F G : α → β → Prop} : ∀ {l : List α} {m : List β}, Paired F l m → (∀ a b, a ∈ l → F a b → G a b) → Paired G l m
  | _, _, .nil, _ => .nil
  | _, _, .cons h t, f => .cons (f _ _ (List.mem_cons_self ..) h) (paired_mem' t fun a b ha => f a b (List.mem_cons_of_mem _ ha))
/-- a list of lists of ints -/
def RlAt (H : Hp) (gs : List Addr) (rows : List (List Int)) : Prop := Paired (fun g r => H g = some (.lst (r.map V.int))) gs rows
theorem RlAt.same {H H' : Hp} {gs : List Addr} {rows : List (List Int)} (s : Same H H') (h : RlAt H gs rows) : RlAt H' gs rows := Paired.mapP h fun _ _ h => s _ _ h
theorem RlAt.set {H : Hp} {gs : List Addr} {rows : List (List Int)} {i : Nat} {g : Addr} {r : List Int} (h : RlAt H gs rows) (nd : gs.Nodup) (hg : gs[i]? = some g) : RlAt (upd H g (.lst (r.map V.int))) gs (rows.set i r) := by
  have hl := Paired.len h
  have hi := (List.getElem?_eq_some_iff.mp hg).1
  refine Paired.ofIx (by rw [List.length_set, hl]) fun j x y hx hy => ?_
  by_cases e : j = i
  · subst e
    rw [hg] at hx
    cases hx
    rw [List.getElem?_set_self (by omega)] at hy
    cases hy
    exact upd_same
  · rw [List.getElem?_set_ne (Ne.symm e)] at hy
    obtain ⟨z, hz, q⟩ := Paired.at h hy
    rw [hx] at hz
    cases hz
    rw [upd_ne]
    · exact q
    · rintro rfl
      exact e (nd_ix nd hx hg)
def spTuples (K : PySem.W.Frag) : Sp := fun vs H Q _ => ∃ (l : Addr) (gs : List Addr) (rows : List (List Int)), vs = [.ref l] ∧ H l = some (.lst (gs.map V.ref)) ∧ RlAt H gs rows ∧ rows.length ≤ 2000 ∧
  ∀ q H', Same H H' → H q = none → Rt K H' q rows → Q (.ref q) H'
theorem ok_l_tuples (T : Txt K mg) : OKf P w K mg base 1 "_law_tuples" ["_law_rows"] (spTuples K) := by
  refine T.f_l_tuples.F.ok sc_l_tuples (fun vs H Q E => by clear T; walk_at "k57len") (fun cdv A outer s H vs Q E hr h => ?_)
  obtain ⟨l, gs, rows, rfl, hl, hr0, hn, k⟩ := h
  refine ⟨_, PSs.nox (pss_one (ps_ret (pe_callTy (tuple_K (K := K)) (by rfl) T.b_tuple bb_tuple (pa_cons (pe_lc (own := [("_law_row", 1)]) (g := gName 1) (by rfl) sc_l_tuples.nd (pil_K (K := K) (pv 0)) (blkOk_by (N := ["_law_rows", "_law_row"]) (sc := defScope s_l_tuples) (by decide +kernel)) (fun _ _ _ _ _ => pg_name (i := 1) sc_l_tuples.nd rfl (Or.inl rfl)) (fun _ _ _ _ _ => pts_nil) (fun _ _ _ _ _ => (pe_callTy (tuple_K (K := K)) (by rfl) T.b_tuple bb_tuple (pa_cons (pv 1) pa_nil)))) pa_nil)))), ?_⟩
  have hlen := Paired.len hr0
  refine ⟨_, rfl, l, rfl, ⟨_, SqL.of hl⟩, fun M nM => ?_⟩
  refine lcrm (walk_list (K := K) (a := l) (xs := gs.map V.ref)) (by simp; omega) nM
    (fun i y H' => ∃ t r, rows[i]? = some r ∧ y = .ref t ∧ t ≠ M ∧ Wt K H' t r) (fun i y H1 H2 ⟨t, r, h1, h2, h3, h4⟩ bt => ⟨t, r, h1, h2, h3, sqT_but bt h3 h4⟩) (fun H s => s.seq (SqL.of hl)) yAt_same (fun i z H4 H4' ys N hi s4 hM hy hN => ?_) (fun H4 ys s4 e pr => ?_)
  · obtain ⟨rfl, hz⟩ := hy
    obtain ⟨g, hg, rfl⟩ := map_some hz
    obtain ⟨r, hr1, hr2⟩ := Paired.at' hr0 hg
    refine ⟨rfl, _, rfl, g, _, rfl, .inl ⟨SqL.of (s4 _ _ hr2), fun t nt => ?_⟩⟩
    exact hN _ _ (same_upd nt) ⟨t, r, hr1, rfl, (ne_of_none hM nt).symm, SqT.of upd_same⟩
  · rw [List.length_map, hlen] at pr
    have pr2 : Paired (fun (r : List Int) (y : V) => ∃ t, y = .ref t ∧ Wt K H4 t r) rows ys := Paired.ofRange pr fun i x y hx ⟨t, r, h1, h2, _, h4⟩ => by
      rw [hx] at h1
      cases h1
      exact ⟨t, h2, h4⟩
    obtain ⟨ts, rfl, hts⟩ : ∃ ts : List Addr, ys = ts.map V.ref ∧ Paired (fun t r => Wt K H4 t r) ts rows := by
      clear pr e hr0 hn hlen k hl
      induction pr2 with
      | nil => exact ⟨[], rfl, .nil⟩
      | cons h t ih =>
        obtain ⟨ts, e1, e2⟩ := ih
        obtain ⟨t0, h1, h2⟩ := h
        exact ⟨t0 :: ts, by rw [e1, h1]; rfl, .cons h2 e2⟩
    refine ⟨M, _, rfl, .inl ⟨SqL.of e, fun u nu => ?_⟩⟩
    have s5 := same_upd (o := HO.tup (ts.map V.ref)) nu
    exact k u _ (s4.trans s5) (s4.free nu) ⟨ts, SqT.of upd_same, Paired.mapP hts fun _ _ h => sameT s5 h⟩
end
end K57
set_option Elab.async false
set_option linter.all false
set_option maxRecDepth 100000
set_option maxHeartbeats 4000000

/-! The law's own letter pushed. -/
namespace K57
open PySem PySem.Spec PyProof.Rows L2
local macro_rules | `(tactic| walk_at "k57g") => `(tactic| repeat (first | refine ⟨_, rfl, ?_⟩ | refine ⟨_, _, rfl, rfl, ?_⟩ | refine ⟨_, _, rfl, rfl, _, rfl, ?_⟩))
local macro_rules | `(tactic| walk_at "k57len") => `(tactic| (intro h; first | (obtain ⟨e, _⟩ := h; subst e; rfl) | (obtain ⟨_, e, _⟩ := h; subst e; rfl) | (obtain ⟨_, _, e, _⟩ := h; subst e; rfl) | (obtain ⟨_, _, _, e, _⟩ := h; subst e; rfl) | (obtain ⟨_, _, _, _, e, _⟩ := h; subst e; rfl) | (obtain ⟨_, _, _, _, _, e, _⟩ := h; subst e; rfl) | (obtain ⟨_, _, _, _, _, _, e, _⟩ := h; subst e; rfl) | (obtain ⟨_, _, _, _, _, _, _, e, _⟩ := h; subst e; rfl) | (obtain ⟨_, _, _, _, _, _, _, _, e, _⟩ := h; subst e; rfl) | ((repeat (obtain ⟨_, h⟩ := h)); subst_vars; rfl)))

section
variable {P : Program} {w : World} {K : PySem.W.Frag} {mg : Str → Option Value} {base : Heap}
theorem ok_l_letter_on (T : Txt K mg) : OKf P w K mg base 2 "_law_letter_on" ["_law_lines", "_law_letter"] (spPush K) := by
  refine T.f_l_letter_on.F.ok sc_l_letter_on (fun vs H Q E => by clear T; walk_at "k57len") (fun cdv A outer s H vs Q E hr h => ?_)
  obtain ⟨a, x, rows, rfl, ⟨ps, ha, hp⟩, ⟨hl, hr0⟩, k⟩ := h
  refine ⟨_, PSs.nox (pss_cons (ps_asg (pe_tup (pa_cons (pe_lc (own := [("_law_line", 8)]) (g := gName 8) (by rfl) sc_l_letter_on.nd (pit_K (K := K) (pv 0)) (blkOk_by (N := ["_law_lines", "_law_letter", "_law_rows", "_law_left", "_law_k", "_law_row", "_law_spots", "_law_more", "_law_line", "_law_spot"]) (sc := defScope s_l_letter_on) (by decide +kernel)) (fun _ _ _ _ _ => pg_name (i := 8) sc_l_letter_on.nd rfl (Or.inl rfl)) (fun _ _ _ _ _ => pts_nil) (fun _ _ _ _ _ => (pe_callTy (list_K (K := K)) (by rfl) T.b_list bb_list (pa_cons (pv 8) pa_nil)))) (pa_cons (pv 1) pa_nil))) (pg_tup rfl (pgs_cons (pg_name (i := 2) sc_l_letter_on.nd rfl (Or.inl rfl)) (pgs_cons (pg_name (i := 3) sc_l_letter_on.nd rfl (Or.inr rfl)) pgs_nil))))
      (pss_cons (ps_for PassesOwn.never rfl (pi_enum (by rfl) T.b_enumerate (pa_cons (pv 2) pa_nil)) (pg_tup rfl (pgs_cons (pg_name (i := 4) sc_l_letter_on.nd rfl (Or.inl rfl)) (pgs_cons (pg_name (i := 5) sc_l_letter_on.nd rfl (Or.inr rfl)) pgs_nil))) (pss_cons (ps_setLc (i := 6) (own := [("_law_spot", 9)]) (g := gName 9) (by rfl) sc_l_letter_on.nd rfl rfl (sw_true rfl rfl rfl (by decide +kernel)) (pi_range1 (by rfl) T.b_range (pa_cons (pe_callB (len_K (K := K)) (by rfl) T.b_len bb_len (pa_cons (pv 5) pa_nil)) pa_nil)) (blkOk_by (N := ["_law_lines", "_law_letter", "_law_rows", "_law_left", "_law_k", "_law_row", "_law_spots", "_law_more", "_law_line", "_law_spot"]) (sc := defScope s_l_letter_on) (by decide +kernel)) (fun _ _ _ _ _ => pg_name (i := 9) sc_l_letter_on.nd rfl (Or.inl rfl)) (fun _ _ _ _ _ => pts_one (pt_cmpR op_gt (pe_ix (ixl_K (K := K)) (pv 5) (pv 9) (fun _ _ => rfl)) (pv 3) (nomark _))) (fun _ _ _ _ _ => (pv 9)))
      (pss_cons (ps_if (pt_cmpR (eqD_K (K := K) hr.units) (pv 6) (pe_lst pa_nil) (nomark _)) (pss_cons (ps_expr (pe_bm PySem.F.plainAttrs_list PySem.F.slot_list_append PySem.F.type_list_append mt_append (pv 5) (pa_cons (pv 3) pa_nil)))
      (pss_one (ps_ret (pe_tup (pa_cons (pe_call (ok_l_tuples T) (hr.mono (by decide)) rfl T.f_l_tuples.g T.f_l_tuples.F.kp T.f_l_tuples.b .nil pass0 (pa_cons (pv 2) pa_nil)) (pa_cons (pv 4) pa_nil)))))) pss_nil)
      (pss_cons (ps_set (i := 7) sc_l_letter_on.nd rfl (Or.inl rfl) (pe_ix (ixl_K (K := K)) (pv 5) (pe_ix (ixl_K (K := K)) (pv 6) pe_int (fun _ _ => rfl)) (fun _ _ => rfl)))
      (pss_cons (ps_asg (pv 3) (pg_sub (pv 5) (pe_ix (ixl_K (K := K)) (pv 6) pe_int (fun _ _ => rfl)) set_list))
      (pss_one (ps_set (i := 3) sc_l_letter_on.nd rfl (Or.inr rfl) (pv 7))))))))
      (pss_one (ps_ret (pe_tup (pa_cons (pe_call (ok_l_tuples T) (hr.mono (by decide)) rfl T.f_l_tuples.g T.f_l_tuples.F.kp T.f_l_tuples.b .nil pass0 (pa_cons (pe_op op_cat (pv 2) (pe_lst (pa_cons (pe_lst (pa_cons (pv 3) pa_nil)) pa_nil))) pa_nil)) (pa_cons (pe_callB (len_K (K := K)) (by rfl) T.b_len bb_len (pa_cons (pv 2) pa_nil)) pa_nil))))))), ?_⟩
  have hlen := Paired.len hp
  -- _law_rows = [list(line) for line in lines]
  refine ⟨_, rfl, a, rfl, ⟨_, ha⟩, fun M nM => ?_⟩
  refine lc_it (walk_tup (K := K) (a := a) (xs := ps.map V.ref)) (fun i H' => Same H H' ∧ ∃ gs : List Addr, H' M = some (.lst (gs.map V.ref)) ∧ gs.length = i ∧ gs.Nodup ∧ (∀ g ∈ gs, H g = none ∧ g ≠ M) ∧ RlAt H' gs (rows.take i))
    ⟨same_upd nM, [], upd_same, rfl, .nil, by simp, .nil⟩ (fun i H' _ ⟨s, _⟩ => sameT s ha) (fun i z H1 H1' hi ⟨s1, gs, hM, hgl, nd, hg, hR⟩ hy => ?_) (fun H1 ⟨s1, gs, hM, hgl, nd, hg, hR⟩ => ?_)
  · obtain ⟨rfl, hz⟩ := hy
    obtain ⟨pa, hpa, rfl⟩ := map_some hz
    obtain ⟨r, hri, hpr⟩ := Paired.at' hp hpa
    have hi' : i < ps.length := by simpa using hi
    refine ⟨rfl, ?_⟩
    unfold tYes
    dsimp only
    rw [if_pos rfl]
    refine ⟨_, rfl, pa, _, rfl, .inr (sameT s1 hpr), fun g ng => ?_⟩
    have s2 := same_upd (o := HO.lst (r.map V.int)) ng
    have gM : g ≠ M := (ne_of_none hM ng).symm
    refine ⟨_, s2 _ _ hM, (by rw [List.length_map, hgl]; exact line_lt (by omega)), same_new (s1.trans s2) nM, gs ++ [g], by rw [upd_same]; simp, by simp [hgl], nd_snoc nd fun z => ?_, fun g' hg' => ?_, ?_⟩
    · obtain ⟨q, hq⟩ := List.getElem?_of_mem z
      obtain ⟨_, _, e⟩ := Paired.at' hR hq
      rw [ng] at e
      cases e
    · rcases List.mem_append.mp hg' with h | h
      · exact hg g' h
      · rw [List.mem_singleton.mp h]
        exact ⟨s1.free ng, gM⟩
    · rw [take_more hri]
      refine Paired.snoc (paired_mem' hR fun g' r' hg' h => ?_) ?_
      · rw [upd_ne (hg g' hg').2]
        exact s2 _ _ h
      · rw [upd_ne gM, upd_same]
  · rw [List.length_map] at hgl hR
    rw [hlen, List.take_length] at hR
    refine ⟨_, rfl, (by show 2 ≤ sizeLine; decide), fun t nt => ⟨t, _, rfl, SqT.of upd_same, rfl, _, _, rfl, _, _, rfl, rfl, ?_⟩⟩
    have s2 := same_upd (o := HO.tup [.ref M, .int x]) nt
    have s12 := s1.trans s2
    have hM2 := s2 _ _ hM
    have hR2 := hR.same s2
    generalize upd H1 t (.tup [.ref M, .int x]) = H2 at s2 s12 hM2 hR2 ⊢
    have nMg : ∀ g ∈ gs, g ≠ M := fun g h => (hg g h).2
    -- for k, row in enumerate(rows)
    refine ⟨_, rfl, M, _, rfl, SqL.of hM2, ?_⟩
    refine for_it (walk_enum (K := K) (a := M) (xs := gs.map V.ref)) (fun i σ H' => ∃ (D : List (List Int)) (y : Int) (v4 v5 v6 v7 : Option V), σ = [some (.ref a), some (.int x), some (.ref M), some (.int y), v4, v5, v6, v7, none, none] ∧ i ≤ rows.length ∧
        H' M = some (.lst (gs.map V.ref)) ∧ RlAt H' gs (D ++ rows.drop i) ∧ D.length = i ∧ ins rows x = D ++ ins (rows.drop i) y ∧ insRow rows x = i + insRow (rows.drop i) y ∧ Same H H')
      ⟨[], x, none, none, none, none, rfl, Nat.zero_le _, hM2, by simpa using hR2, rfl, rfl, by simp, s12⟩ (fun i σ H' _ ⟨_, _, _, _, _, _, _, _, h, _⟩ => SqL.of h) ?_ ?_
    · rintro i z σ H3 H3' hi ⟨D, y, v4, v5, v6, v7, rfl, hi', hM3, hR3, hD, e1, e2, s3⟩ ⟨u, x', q, rfl, nu, rfl, hx, hq⟩
      cases hx
      obtain ⟨g, hgi, rfl⟩ := map_some hq
      have hgm := List.mem_of_getElem? hgi
      have s4 := same_upd (o := HO.tup [.int (i : Int), .ref g]) nu
      have hT := upd_same (H := H3) (a := u) (o := HO.tup [.int (i : Int), .ref g])
      have s34 := s3.trans s4
      have hM4 := s4 _ _ hM3
      have hR4 := hR3.same s4
      generalize upd H3 u (.tup [.int (i : Int), .ref g]) = H4 at s4 hT s34 hM4 hR4 ⊢
      refine ⟨u, _, rfl, SqT.of hT, rfl, _, _, rfl, _, _, rfl, rfl, ?_⟩
      have hir : i < rows.length := by
        have := (List.getElem?_eq_some_iff.mp hgi).1
        omega
      have hdrop : rows.drop i = rows[i] :: rows.drop (i + 1) := List.drop_eq_getElem_cons hir
      have hrm : rows[i] ∈ rows := List.getElem_mem hir
      generalize rows[i] = r at hdrop hrm
      have hrl := hr0 r hrm
      have hgr : H4 g = some (.lst (r.map V.int)) := by
        obtain ⟨r', h1, h2⟩ := Paired.at' hR4 hgi
        rw [List.getElem?_append_right (by omega), hD, hdrop] at h1
        simp at h1
        rw [h1]
        exact h2
      -- spots
      refine ⟨_, rfl, g, _, rfl, .inl (SqL.of hgr), _, rfl, (by rw [List.length_map]; omega), (by rw [List.length_map]; omega), fun N nN => ?_⟩
      rw [List.length_map]
      refine lcf walk_range0 (by simp; omega) nN (fun k => decide (y < r.getD k 0)) (fun (k : Nat) => V.int (k : Int)) (fun _ _ => trivial) yFn_same (fun j z H5 H6 N' M' hj s5 hy hN hM' => ?_) (fun H5 s5 e => ?_)
      · obtain ⟨rfl, rfl⟩ := hy
        have hj : j < r.length := by simpa using hj
        refine ⟨rfl, ?_⟩
        have hjr : (r.map V.int)[j]? = some (.int (r.getD j 0)) := by simp [List.getD, hj]
        refine ⟨_, rfl, _, rfl, g, _, (j : Int), _, rfl, rfl, SqL.of (s5 _ _ hgr), atI_nat hjr, _, rfl, _, _, rfl, rfl, _, rfl, ?_⟩
        by_cases c : y < r.getD j 0
        · rw [decide_eq_true c]
          exact iteT ⟨_, rfl, hN _ (decide_eq_true c) (Same.refl _)⟩
        · rw [decide_eq_false c]
          exact iteF (hM' _ (decide_eq_false c) (Same.refl _))
      · have e' : H5 N = some (.lst ((spots r y).map fun (k : Nat) => V.int (k : Int))) := by
          have : (((r.length : Nat) : Int)).toNat = r.length := by omega
          rw [this] at e
          exact e
        rw [ints_nat] at e'
        -- if spots == []
        refine ⟨_, rfl, (by show 0 ≤ sizeLine; decide), fun z nz => ?_⟩
        have s6 := same_upd (o := HO.lst []) nz
        refine ⟨_, _, dp_list (SqL.of (s6 _ _ e')), dp_nil (SqL.of upd_same), shaped_list _, shaped_list _, _, rfl, ?_⟩
        rw [show PyData.eqv (.list (dInts ((spots r y).map fun (k : Nat) => (k : Int)))) (.list (dInts [])) = decide (((spots r y).map fun (k : Nat) => (k : Int)) = []) from eqv_ints _ []]
        have s56 := s5.trans s6
        have e6 := s6 _ _ e'
        have hM6 := s56 _ _ hM4
        have hR6 := hR4.same s56
        have hgr6 := s56 _ _ hgr
        have s46 := s34.trans s56
        generalize upd H5 z (.lst []) = H6 at s6 s56 e6 hM6 hR6 hgr6 s46 ⊢
        have gN : g ≠ N := ne_of_none hgr nN
        have MN : M ≠ N := ne_of_none hM4 nN
        have hset : ∀ r', RlAt (upd H6 g (.lst (r'.map V.int))) gs (D ++ r' :: rows.drop (i + 1)) := fun r' => by
          have := RlAt.set (r := r') hR6 nd hgi
          rw [hdrop, List.set_append_right _ _ (by omega), show i - D.length = 0 by omega] at this
          exact this
        have hMs : ∀ o, upd H6 g o M = some (.lst (gs.map V.ref)) := fun o => by rw [upd_ne (nMg g hgm).symm]; exact hM6
        have sS : ∀ o, Same H (upd H6 g o) := fun o => same_new s46 (hg g hgm).1
        cases hb : (rowIns r y).2 with
        | none =>
          obtain ⟨b1, b2⟩ := rowIns_none hb
          obtain ⟨i1, i2⟩ := ins_none (rs := rows.drop (i + 1)) hb
          rw [spots_none b2, List.map_nil, decide_eq_true rfl]
          refine iteT ?_
          -- row.append(left)
          refine ⟨_, rfl, .inl ⟨rfl, _, SqL.of hgr6⟩, _, rfl, g, _, _, rfl, rfl, hgr6, (by rw [List.length_map]; exact line_lt (by omega)), ?_⟩
          have er : r.map V.int ++ [V.int y] = (r ++ [y]).map V.int := by simp
          rw [er]
          have hs := hset (r ++ [y])
          have hm := hMs (.lst ((r ++ [y]).map V.int))
          have ss := sS (.lst ((r ++ [y]).map V.int))
          generalize upd H6 g (.lst ((r ++ [y]).map V.int)) = H7 at hs hm ss ⊢
          -- return tuples(rows), k
          refine ⟨_, rfl, M, gs, _, rfl, hm, hs, (by simp; omega), fun q H8 s8 nq hq => ?_⟩
          refine ⟨_, rfl, (by show 2 ≤ sizeLine; decide), fun v nv => ?_⟩
          have s9 := same_upd (o := HO.tup [.ref q, .int (i : Int)]) nv
          refine k v q _ (ss.trans (s8.trans s9)) ((ss.trans s8).free nv) ?_ ?_
          · rw [e1, hdrop, i1]
            exact hq.same s9
          · rw [upd_same, e2, hdrop, i2]
            rfl
        | some b =>
          obtain ⟨r1, r2, b1, b2, b3, b4⟩ := rowIns_some hb
          obtain ⟨i1, i2⟩ := ins_some (rs := rows.drop (i + 1)) hb
          obtain ⟨rest, hsp⟩ := spots_some b1 b3 b4
          have hne : ((spots r y).map fun (k : Nat) => (k : Int)) ≠ [] := by rw [hsp]; simp
          rw [decide_eq_false hne]
          refine iteF ?_
          have at0 : atI (((spots r y).map fun (k : Nat) => (k : Int)).map V.int) 0 = some (.int (r1.length : Int)) := atI_nat (j := 0) (by rw [hsp]; rfl)
          have hrb : (r.map V.int)[r1.length]? = some (.int b) := by rw [b1]; simp
          have hr12 : r1.length < r.length := by rw [b1]; simp
          -- more = row[spots[0]]; row[spots[0]] = left; left = more
          refine ⟨_, rfl, _, rfl, N, _, _, _, rfl, rfl, SqL.of e6, at0, g, _, _, _, rfl, rfl, SqL.of hgr6, atI_nat hrb, ?_⟩
          refine ⟨_, rfl, _, rfl, _, rfl, N, _, _, _, rfl, rfl, SqL.of e6, at0, g, _, _, _, rfl, rfl, hgr6, ixN_at (by rw [List.length_map]; exact hr12), ?_⟩
          have er : (r.map V.int).set r1.length (V.int y) = (rowIns r y).1.map V.int := by
            rw [b2, b1]
            simp
          rw [er]
          refine ⟨_, rfl, D ++ [(rowIns r y).1], b, _, _, _, _, rfl, hir, hMs _, ?_, by simp [hD], ?_, ?_, sS _⟩
          · rw [List.append_assoc]
            exact hset _
          · rw [e1, hdrop, i1, List.append_assoc]
            rfl
          · rw [e2, hdrop, i2]
            omega
    · rintro σ H3 ⟨D, y, v4, v5, v6, v7, rfl, hi', hM3, hR3, hD, e1, e2, s3⟩
      have hdrop : rows.drop (gs.map V.ref).length = [] := List.drop_of_length_le (by rw [List.length_map]; omega)
      rw [hdrop] at hR3 e1 e2
      rw [List.append_nil] at hR3
      rw [List.length_map] at hD
      -- tuples(rows + [[left]]), len(rows)
      refine ⟨_, rfl, _, rfl, (by show 1 ≤ sizeLine; decide), fun g' ng' => ⟨(by show 1 ≤ sizeLine; decide), fun l' nl' => ?_⟩⟩
      have t1 := same_upd (o := HO.lst [.int y]) ng'
      have t2 := same_upd (o := HO.lst [.ref g']) nl'
      have t12 := t1.trans t2
      refine ⟨M, l', _, _, rfl, rfl, t12 _ _ hM3, upd_same, (by simp; exact line_of (by omega)), fun c nc => ?_⟩
      have t3 := same_upd (o := HO.lst (gs.map V.ref ++ [.ref g'])) nc
      have t13 := t12.trans t3
      have hgl' : gs.length ≤ 1000 := by omega
      refine ⟨c, gs ++ [g'], D ++ [[y]], rfl, by rw [upd_same]; simp, Paired.snoc (hR3.same t13) (t3 _ _ (t2 _ _ upd_same)), (by simp; omega), fun q H8 s8 nq hq => ?_⟩
      refine ⟨_, rfl, M, _, rfl, .inl (SqL.of (s8 _ _ (t13 _ _ hM3))), (by show 2 ≤ sizeLine; decide), fun v nv => ?_⟩
      have s9 := same_upd (o := HO.tup [.ref q, .int ((gs.map V.ref).length : Int)]) nv
      refine k v q _ (s3.trans (t13.trans (s8.trans s9))) ((s3.trans (t13.trans s8)).free nv) ?_ ?_
      · rw [e1]
        exact hq.same s9
      · rw [upd_same, e2]
        simp [insRow]
end
end K57
set_option Elab.async false
set_option linter.all false
set_option maxRecDepth 100000
set_option maxHeartbeats 4000000

/-! The law's own words. -/
namespace K57
open PySem PySem.Spec PyProof.Rows L2
local macro_rules | `(tactic| walk_at "k57g") => `(tactic| repeat (first | refine ⟨_, rfl, ?_⟩ | refine ⟨_, _, rfl, rfl, ?_⟩ | refine ⟨_, _, rfl, rfl, _, rfl, ?_⟩))
local macro_rules | `(tactic| walk_at "k57len") => `(tactic| (intro h; first | (obtain ⟨e, _⟩ := h; subst e; rfl) | (obtain ⟨_, e, _⟩ := h; subst e; rfl) | (obtain ⟨_, _, e, _⟩ := h; subst e; rfl) | (obtain ⟨_, _, _, e, _⟩ := h; subst e; rfl) | (obtain ⟨_, _, _, _, e, _⟩ := h; subst e; rfl) | (obtain ⟨_, _, _, _, _, e, _⟩ := h; subst e; rfl) | (obtain ⟨_, _, _, _, _, _, e, _⟩ := h; subst e; rfl) | (obtain ⟨_, _, _, _, _, _, _, e, _⟩ := h; subst e; rfl) | (obtain ⟨_, _, _, _, _, _, _, _, e, _⟩ := h; subst e; rfl) | ((repeat (obtain ⟨_, h⟩ := h)); subst_vars; rfl)))

section
variable {P : Program} {w : World} {K : PySem.W.Frag} {mg : Str → Option Value} {base : Heap}
theorem RlAt.upd {H : Hp} {gs : List Addr} {rows : List (List Int)} {l : Addr} {ys : List Addr} {o : HO} (h : RlAt H gs rows) (n : ∀ g ∈ gs, g ≠ l) : RlAt (upd H l o) gs rows :=
  paired_mem' h fun g r hg q => by rw [upd_ne (n g hg)]; exact q
theorem ok_l_push (T : Txt K mg) : OKf P w K mg base 3 "_law_push" ["_law_word"] (spPushedOf K) := by
  refine T.f_l_push.F.ok sc_l_push (fun vs H Q E => by clear T; walk_at "k57len") (fun cdv A outer s H vs Q E hr h => ?_)
  obtain ⟨a, ws, rfl, ha, hl, k⟩ := h
  refine ⟨_, PSs.nox (pss_cons (ps_par (i := 1) (j := 2) rfl sc_l_push.nd rfl rfl (by decide) rfl rfl (pa_cons (pe_tup pa_nil) (pa_cons (pe_lst pa_nil) pa_nil)) (by rfl))
      (pss_cons (ps_for PassesOwn.never rfl (k57_pi_enumT (by rfl) T.b_enumerate (pa_cons (pv 0) pa_nil)) (pg_tup rfl (pgs_cons (pg_name (i := 3) sc_l_push.nd rfl (Or.inl rfl)) (pgs_cons (pg_name (i := 4) sc_l_push.nd rfl (Or.inl rfl)) pgs_nil))) (pss_cons (ps_asg (pe_call (ok_l_letter_on T) (hr.mono (by decide)) rfl T.f_l_letter_on.g T.f_l_letter_on.F.kp T.f_l_letter_on.b .nil pass0 (pa_cons (pv 1) (pa_cons (pv 4) pa_nil))) (pg_tup rfl (pgs_cons (pg_name (i := 1) sc_l_push.nd rfl (Or.inl rfl)) (pgs_cons (pg_name (i := 5) sc_l_push.nd rfl (Or.inl rfl)) pgs_nil))))
      (pss_cons (ps_if (pt_cmpR op_eq (pv 5) (pe_callB (len_K (K := K)) (by rfl) T.b_len bb_len (pa_cons (pv 2) pa_nil)) (nomark _)) (pss_one (ps_expr (pe_bm PySem.F.plainAttrs_list PySem.F.slot_list_append PySem.F.type_list_append mt_append (pv 2) (pa_cons (pe_lst pa_nil) pa_nil)))) pss_nil)
      (pss_one (ps_asg (pe_op op_cat (pe_ix (ixl_K (K := K)) (pv 2) (pv 5) (fun _ _ => rfl)) (pe_lst (pa_cons (pe_op op_add (pv 3) pe_int) pa_nil))) (pg_sub (pv 2) (pv 5) set_list))))))
      (pss_one (ps_ret (pe_tup (pa_cons (pv 1) (pa_cons (pe_call (ok_l_tuples T) (hr.mono (by decide)) rfl T.f_l_tuples.g T.f_l_tuples.F.kp T.f_l_tuples.b .nil pass0 (pa_cons (pv 2) pa_nil)) pa_nil))))))), ?_⟩
  refine ⟨(by show 0 ≤ sizeLine; decide), fun q0 n0 => ⟨(by show 0 ≤ sizeLine; decide), fun f nf => ⟨_, _, rfl, ?_⟩⟩⟩
  have n0f : q0 ≠ f := fun z => by rw [← z, upd_same] at nf; cases nf
  have s0 : Same H (upd (upd H q0 (.tup [])) f (.lst [])) := (same_upd n0).trans (same_upd nf)
  have hfn : H f = none := (same_upd n0).free nf
  refine ⟨_, rfl, a, _, rfl, sameT s0 ha, ?_⟩
  refine for_it (k57_walk_enumT (K := K) (a := a) (xs := ws.map V.int)) (fun i σ H' => ∃ (q : Addr) (gs : List Addr) (fr : List (List Int)) (v3 v4 v5 : Option V), σ = [some (.ref a), some (.ref q), some (.ref f), v3, v4, v5] ∧
      Rt K H' q (Ln (ws.take i)) ∧ H' f = some (.lst (gs.map V.ref)) ∧ gs.length = (Ln (ws.take i)).length ∧ RlAt H' gs fr ∧ (∀ g ∈ gs, g ≠ f) ∧ (∀ r ∈ fr, r.length ≤ i) ∧ Same H H')
    ⟨q0, [], [], none, none, none, rfl, ⟨[], SqT.of (by rw [upd_ne n0f, upd_same]; rfl), .nil⟩, by rw [upd_same]; rfl, rfl, .nil, by simp, by simp, s0⟩ (fun i σ H' _ ⟨_, _, _, _, _, _, _, _, _, _, _, _, _, s⟩ => sameT s ha) ?_ ?_
  · rintro i z σ H1 H1' hi ⟨q, gs, fr, v3, v4, v5, rfl, hq, hf, hgl, hR, hgf, hfr, s1⟩ ⟨t, x, y, rfl, nt, rfl, hx, hy⟩
    cases hx
    obtain ⟨c, hc, rfl⟩ := map_some hy
    have hi' : i < ws.length := by simpa using hi
    have s2 := same_upd (o := HO.tup [.int (i : Int), .int c]) nt
    have s12 := s1.trans s2
    have hq2 := hq.same s2
    have hf2 := s2 _ _ hf
    have hR2 := hR.same s2
    refine ⟨t, _, rfl, SqT.of upd_same, rfl, _, _, rfl, _, _, rfl, rfl, ?_⟩
    generalize upd H1 t (.tup [.int (i : Int), .int c]) = H2 at s2 s12 hq2 hf2 hR2
    have hb := rows_Ln (ws.take i)
    have hbl : (ws.take i).length ≤ 100 := by rw [List.length_take]; omega
    refine ⟨_, rfl, _, rfl, q, c, Ln (ws.take i), rfl, hq2, ⟨by omega, fun r hr => by have := hb.2 r hr; omega⟩, fun p q' H3 s3 np hq3 hp3 => ?_⟩
    refine ⟨p, _, rfl, SqT.of hp3, rfl, _, _, rfl, _, _, rfl, rfl, ?_⟩
    have s13 := s12.trans s3
    have hf3 := s3 _ _ hf2
    have hR3 := hR2.same s3
    obtain ⟨m1, m2⟩ := ins_len (Ln (ws.take i)) c
    have hwt : Ln (ws.take (i + 1)) = ins (Ln (ws.take i)) c := by rw [take_more hc, P_snoc]
    -- the rest, whatever the rows are now
    have last : ∀ (gs' : List Addr) (fr' : List (List Int)) (H4 : Hp), Rt K H4 q' (ins (Ln (ws.take i)) c) → H4 f = some (.lst (gs'.map V.ref)) → gs'.length = (ins (Ln (ws.take i)) c).length → RlAt H4 gs' fr' → (∀ g ∈ gs', g ≠ f) → (∀ r ∈ fr', r.length ≤ i) → Same H H4 →
        ∃ (g : Addr) (r : List Int), gs'[insRow (Ln (ws.take i)) c]? = some g ∧ H4 g = some (.lst (r.map V.int)) ∧ r.length ≤ i ∧ insRow (Ln (ws.take i)) c < (gs'.map V.ref).length ∧
          ∀ u H5, Same H4 H5 → H5 u = some (.lst (r.map V.int ++ [.int ((i : Int) + 1)])) → u ≠ f →
            ∃ (q : Addr) (gs : List Addr) (fr : List (List Int)) (v3 v4 v5 : Option V), [some (V.ref a), some (.ref q'), some (.ref f), some (.int (i : Int)), some (.int c), some (.int (insRow (Ln (ws.take i)) c : Int))] = [some (.ref a), some (.ref q), some (.ref f), v3, v4, v5] ∧
              Rt K (upd H5 f (.lst ((gs'.map V.ref).set (insRow (Ln (ws.take i)) c) (.ref u)))) q (Ln (ws.take (i + 1))) ∧ (upd H5 f (.lst ((gs'.map V.ref).set (insRow (Ln (ws.take i)) c) (.ref u)))) f = some (.lst (gs.map V.ref)) ∧ gs.length = (Ln (ws.take (i + 1))).length ∧
              RlAt (upd H5 f (.lst ((gs'.map V.ref).set (insRow (Ln (ws.take i)) c) (.ref u)))) gs fr ∧ (∀ g ∈ gs, g ≠ f) ∧ (∀ r ∈ fr, r.length ≤ i + 1) ∧ Same H (upd H5 f (.lst ((gs'.map V.ref).set (insRow (Ln (ws.take i)) c) (.ref u)))) := by
      intro gs' fr' H4 b1 b2 b3 b4 b5 b6 b7
      have hlt : insRow (Ln (ws.take i)) c < gs'.length := by
        rw [b3, m2]
        split <;> omega
      have hg : gs'[insRow (Ln (ws.take i)) c]? = some gs'[insRow (Ln (ws.take i)) c] := List.getElem?_eq_getElem hlt
      generalize gs'[insRow (Ln (ws.take i)) c] = g at hg
      obtain ⟨r, hr1, hr2⟩ := Paired.at' b4 hg
      have hrm := b6 r (List.mem_of_getElem? hr1)
      refine ⟨g, r, hg, hr2, hrm, by rw [List.length_map]; exact hlt, fun u H5 s5 hu huf => ⟨q', gs'.set (insRow (Ln (ws.take i)) c) u, fr'.set (insRow (Ln (ws.take i)) c) (r ++ [(i : Int) + 1]), _, _, _, rfl, ?_, ?_, ?_, ?_, ?_, ?_, same_new (b7.trans s5) hfn⟩⟩
      · rw [hwt]
        exact rt_upd (s5 _ _ b2) trivial (b1.same s5)
      · rw [upd_same, List.map_set]
      · rw [List.length_set, hwt, b3]
      · have := Paired.setp (insRow (Ln (ws.take i)) c) (F := fun (g : Addr) (r : List Int) => H5 g = some (.lst (r.map V.int))) (x := u) (y := r ++ [(i : Int) + 1]) (b4.same s5) (by rw [hu]; simp)
        refine RlAt.upd (ys := []) this fun g hg => ?_
        rcases List.mem_or_eq_of_mem_set hg with h | h
        · exact b5 g h
        · rw [h]; exact huf
      · intro g hg
        rcases List.mem_or_eq_of_mem_set hg with h | h
        · exact b5 g h
        · rw [h]; exact huf
      · intro r' hr'
        rcases List.mem_or_eq_of_mem_set hr' with h | h
        · have := b6 r' h; omega
        · rw [h]; simp; omega
    refine ⟨_, rfl, _, rfl, f, _, rfl, .inl (SqL.of hf3), rfl, _, rfl, ?_⟩
    rw [List.length_map, hgl]
    by_cases e : insRow (Ln (ws.take i)) c = (Ln (ws.take i)).length
    · rw [decide_eq_true (by rw [e])]
      refine iteT ?_
      refine ⟨_, rfl, .inl ⟨rfl, _, SqL.of hf3⟩, (by show 0 ≤ sizeLine; decide), fun g ng => ?_⟩
      have s4 := same_upd (o := HO.lst []) ng
      have gf : g ≠ f := (ne_of_none hf3 ng).symm
      refine ⟨f, _, _, rfl, rfl, s4 _ _ hf3, (by simp; exact line_lt (by omega)), ?_⟩
      have s34 : Same H (upd (upd H3 g (.lst [])) f (.lst (gs.map V.ref ++ [.ref g]))) := same_new (s13.trans s4) hfn
      have hq5 := rt_upd (o := HO.lst (gs.map V.ref ++ [.ref g])) (s4 _ _ hf3) trivial (hq3.same s4)
      have hf5 : (upd (upd H3 g (.lst [])) f (.lst (gs.map V.ref ++ [.ref g]))) f = some (.lst ((gs ++ [g]).map V.ref)) := by rw [upd_same]; simp
      have hgf5 : ∀ g' ∈ gs ++ [g], g' ≠ f := fun g' hg' => by
        rcases List.mem_append.mp hg' with h | h
        · exact hgf g' h
        · rw [List.mem_singleton.mp h]; exact gf
      have hR5 : RlAt (upd (upd H3 g (.lst [])) f (.lst (gs.map V.ref ++ [.ref g]))) (gs ++ [g]) (fr ++ [[]]) := RlAt.upd (ys := []) (Paired.snoc (hR3.same s4) (by rw [upd_same]; rfl)) hgf5
      obtain ⟨g', r, l1, l2, l3, l4, l5⟩ := last (gs ++ [g]) (fr ++ [[]]) _ hq5 hf5 (by rw [m2, if_pos e]; simp [hgl]) hR5 hgf5 (fun r hr => by
        rcases List.mem_append.mp hr with h | h
        · exact hfr r h
        · rw [List.mem_singleton.mp h]; exact Nat.zero_le _) s34
      generalize upd (upd H3 g (.lst [])) f (.lst (gs.map V.ref ++ [.ref g])) = H5 at hf5 l2 l5
      refine ⟨_, rfl, _, rfl, f, _, _, _, rfl, rfl, SqL.of hf5, atI_nat (by rw [List.getElem?_map, l1]; rfl), ?_⟩
      refine ⟨_, rfl, _, _, rfl, rfl, (by show 1 ≤ sizeLine; decide), fun o no => ?_⟩
      have t1 := same_upd (o := HO.lst [.int ((i : Int) + 1)]) no
      refine ⟨g', o, _, _, rfl, rfl, t1 _ _ l2, upd_same, (by simp; exact line_of (by omega)), fun u nu => ?_⟩
      have t2 := t1.trans (same_upd (o := HO.lst (r.map V.int ++ [.int ((i : Int) + 1)])) nu)
      refine ⟨_, rfl, _, rfl, f, _, _, _, rfl, rfl, t2 _ _ hf5, ixN_at l4, ?_⟩
      exact l5 u _ t2 upd_same (ne_of_none (t1 _ _ hf5) nu).symm
    · rw [decide_eq_false (by intro z; injection z with z; omega)]
      refine iteF ?_
      obtain ⟨g', r, l1, l2, l3, l4, l5⟩ := last gs fr _ hq3 hf3 (by rw [m2, if_neg e]; exact hgl) hR3 hgf hfr s13
      refine ⟨_, rfl, _, rfl, f, _, _, _, rfl, rfl, SqL.of hf3, atI_nat (by rw [List.getElem?_map, l1]; rfl), ?_⟩
      refine ⟨_, rfl, _, _, rfl, rfl, (by show 1 ≤ sizeLine; decide), fun o no => ?_⟩
      have t1 := same_upd (o := HO.lst [.int ((i : Int) + 1)]) no
      refine ⟨g', o, _, _, rfl, rfl, t1 _ _ l2, upd_same, (by simp; exact line_of (by omega)), fun u nu => ?_⟩
      have t2 := t1.trans (same_upd (o := HO.lst (r.map V.int ++ [.int ((i : Int) + 1)])) nu)
      refine ⟨_, rfl, _, rfl, f, _, _, _, rfl, rfl, t2 _ _ hf3, ixN_at l4, ?_⟩
      exact l5 u _ t2 upd_same (ne_of_none (t1 _ _ hf3) nu).symm
  · rintro σ H1 ⟨q, gs, fr, v3, v4, v5, rfl, hq, hf, hgl, hR, hgf, hfr, s1⟩
    have hb := rows_Ln ws
    rw [List.length_map, List.take_length] at hq hgl
    have hfl := Paired.len hR
    -- return lines, tuples(rows)
    refine ⟨_, rfl, _, rfl, f, gs, fr, rfl, hf, hR, by omega, fun u H2 s2 nu hu => ?_⟩
    refine ⟨(by show 2 ≤ sizeLine; decide), fun v nv => ?_⟩
    have s3 := same_upd (o := HO.tup [.ref q, .ref u]) nv
    exact k v q u _ (s1.trans (s2.trans s3)) ((s1.trans s2).free nv) (hq.same (s2.trans s3)) upd_same
def spMost (K : PySem.W.Frag) : Sp := fun vs H Q _ => ∃ (a : Addr) (ws : List Int) (m : Nat), vs = [.ref a, .int (m : Int)] ∧ Wt K H a ws ∧ ws.length ≤ 100 ∧ ∀ H', Same H H' → Q (.int (shp m (Ln ws) : Int)) H'
theorem ok_l_most (T : Txt K mg) : OKf P w K mg base 4 "_law_most" ["_law_word", "_law_many"] (spMost K) := by
  refine T.f_l_most.F.ok sc_l_most (fun vs H Q E => by clear T; walk_at "k57len") (fun cdv A outer s H vs Q E hr h => ?_)
  obtain ⟨a, ws, m, rfl, ha, hl, k⟩ := h
  refine ⟨_, PSs.nox (pss_one (ps_ret (pe_callB (k57_sumT (K := K)) (by rfl) T.b_sum bb_sum (pa_cons (pe_slice (slt_K (K := K)) (pe_call (ok_l_lengths T) (hr.mono (by decide)) rfl T.f_l_lengths.g T.f_l_lengths.F.kp T.f_l_lengths.b .nil pass0 (pa_cons (pe_ix (ixt_K (K := K)) (pe_call (ok_l_push T) (hr.mono (by decide)) rfl T.f_l_push.g T.f_l_push.F.kp T.f_l_push.b .nil pass0 (pa_cons (pv 0) pa_nil)) pe_int (fun _ _ => rfl)) pa_nil)) po_none (po_some (pv 1))) pa_nil)))), ?_⟩
  have hrl := rows_Ln ws
  refine ⟨_, rfl, a, ws, rfl, ha, hl, fun p q f H1 s1 np hq hp => ?_⟩
  refine ⟨p, _, 0, _, rfl, rfl, SqT.of hp, rfl, q, _, rfl, hq, by omega, fun u H2 s2 nu hu => ?_⟩
  unfold tNoPart
  refine ⟨_, rfl, _, rfl, ?_⟩
  refine slA hu fun c H3 s3 hc => ?_
  rw [cut_pre, ← List.map_take] at hc
  refine ⟨c, _, rfl, hc, ?_⟩
  rw [sum_lens]
  exact k H3 (s1.trans (s2.trans s3))
end
end K57
set_option Elab.async false
set_option linter.all false
set_option maxRecDepth 100000
set_option maxHeartbeats 4000000

/-! The law's own deeds. -/
namespace K57
open PySem PySem.Spec PyProof.Rows L2
local macro_rules | `(tactic| walk_at "k57g") => `(tactic| repeat (first | refine ⟨_, rfl, ?_⟩ | refine ⟨_, _, rfl, rfl, ?_⟩ | refine ⟨_, _, rfl, rfl, _, rfl, ?_⟩))
local macro_rules | `(tactic| walk_at "k57len") => `(tactic| (intro h; first | (obtain ⟨e, _⟩ := h; subst e; rfl) | (obtain ⟨_, e, _⟩ := h; subst e; rfl) | (obtain ⟨_, _, e, _⟩ := h; subst e; rfl) | (obtain ⟨_, _, _, e, _⟩ := h; subst e; rfl) | (obtain ⟨_, _, _, _, e, _⟩ := h; subst e; rfl) | (obtain ⟨_, _, _, _, _, e, _⟩ := h; subst e; rfl) | (obtain ⟨_, _, _, _, _, _, e, _⟩ := h; subst e; rfl) | (obtain ⟨_, _, _, _, _, _, _, e, _⟩ := h; subst e; rfl) | (obtain ⟨_, _, _, _, _, _, _, _, e, _⟩ := h; subst e; rfl) | ((repeat (obtain ⟨_, h⟩ := h)); subst_vars; rfl)))

/-- a word, or none -/
def kRes (K : PySem.W.Frag) (H : Hp) (Q : VK) : Option (List Int) → Prop
  | some ws' => ∀ p H', Same H H' → Wt K H' p ws' → Q (.ref p) H'
  | none => ∀ H', Same H H' → Q .non H'
section
variable {P : Program} {w : World} {K : PySem.W.Frag} {mg : Str → Option Value} {base : Heap}
def spLEl (K : PySem.W.Frag) : Sp := fun vs H Q _ => ∃ (a : Addr) (ws : List Int) (i : Nat), vs = [.ref a, .int ((i : Nat) : Int)] ∧ Wt K H a ws ∧ ws.length ≤ 100 ∧ i + 3 ≤ ws.length ∧ kRes K H Q (el ws i)
theorem ok_l_elementary (T : Txt K mg) : OKf P w K mg base 1 "_law_elementary" ["_law_word", "_law_place"] (spLEl K) := by
  refine T.f_l_elementary.F.ok sc_l_elementary (fun vs H Q E => by clear T; walk_at "k57len") (fun cdv A outer s H vs Q E hr h => ?_)
  obtain ⟨a, ws, i, rfl, ha, hl, hi, k⟩ := h
  refine ⟨_, PSs.nox (pss_cons (ps_asg (pe_slice (slt_K (K := K)) (pv 0) (po_some (pv 1)) (po_some (pe_op op_add (pv 1) pe_int))) (pg_tup rfl (pgs_cons (pg_name (i := 2) sc_l_elementary.nd rfl (Or.inl rfl)) (pgs_cons (pg_name (i := 3) sc_l_elementary.nd rfl (Or.inl rfl)) (pgs_cons (pg_name (i := 4) sc_l_elementary.nd rfl (Or.inl rfl)) pgs_nil)))))
      (pss_cons (ps_if (PW.pt (pw_and (pt_cmpR op_lt (pe_callB (call_min2 rfl) (by rfl) T.b_min bb_min (pa_cons (pv 3) (pa_cons (pv 4) pa_nil))) (pv 2) (nomark _)) (pw_and1 (pt_cmpR op_le (pv 2) (pe_callB (call_max2 rfl) (by rfl) T.b_max bb_max (pa_cons (pv 3) (pa_cons (pv 4) pa_nil))) (nomark _))))) (pss_one (ps_ret (pe_op (cat_K (K := K)) (pe_op (cat_K (K := K)) (pe_slice (slt_K (K := K)) (pv 0) po_none (po_some (pv 1))) (pe_tup (pa_cons (pv 2) (pa_cons (pv 4) (pa_cons (pv 3) pa_nil))))) (pe_slice (slt_K (K := K)) (pv 0) (po_some (pe_op op_add (pv 1) pe_int)) po_none)))) pss_nil)
      (pss_cons (ps_if (PW.pt (pw_and (pt_cmpR op_le (pe_callB (call_min2 rfl) (by rfl) T.b_min bb_min (pa_cons (pv 2) (pa_cons (pv 3) pa_nil))) (pv 4) (nomark _)) (pw_and1 (pt_cmpR op_lt (pv 4) (pe_callB (call_max2 rfl) (by rfl) T.b_max bb_max (pa_cons (pv 2) (pa_cons (pv 3) pa_nil))) (nomark _))))) (pss_one (ps_ret (pe_op (cat_K (K := K)) (pe_op (cat_K (K := K)) (pe_slice (slt_K (K := K)) (pv 0) po_none (po_some (pv 1))) (pe_tup (pa_cons (pv 3) (pa_cons (pv 2) (pa_cons (pv 4) pa_nil))))) (pe_slice (slt_K (K := K)) (pv 0) (po_some (pe_op op_add (pv 1) pe_int)) po_none)))) pss_nil)
      (pss_one (ps_ret pe_non))))), ?_⟩
  obtain ⟨x, m1⟩ : ∃ x, ws[i]? = some x := ⟨_, List.getElem?_eq_getElem (by omega)⟩
  obtain ⟨y, m2⟩ : ∃ y, ws[i + 1]? = some y := ⟨_, List.getElem?_eq_getElem (by omega)⟩
  obtain ⟨z, m3⟩ : ∃ z, ws[i + 2]? = some z := ⟨_, List.getElem?_eq_getElem (by omega)⟩
  have eEl : el ws i = (el3 x y z).map fun s => ws.take i ++ s ++ ws.drop (i + 3) := by
    unfold el
    rw [m1, m2, m3]
  rw [eEl] at k
  -- a, b, c = word[place:place + 3]
  refine ⟨_, rfl, _, rfl, _, rfl, _, rfl, _, _, rfl, rfl, _, rfl, ?_⟩
  refine slA ha fun p H1 s1 h1 => ?_
  rw [show (i : Int) + 3 = ((i + 3 : Nat) : Int) by omega, cut_mid] at h1
  have hcut : (List.drop i (ws.map V.int)).take (i + 3 - i) = [V.int x, V.int y, V.int z] := by
    rw [show i + 3 - i = 3 by omega, ← List.map_drop, ← List.map_take]
    have : (ws.drop i).take 3 = [x, y, z] := by
      have g1 : ws[i] = x := (List.getElem?_eq_some_iff.mp m1).2
      have g2 : ws[i + 1] = y := (List.getElem?_eq_some_iff.mp m2).2
      have g3 : ws[i + 2] = z := (List.getElem?_eq_some_iff.mp m3).2
      rw [List.drop_eq_getElem_cons (by omega : i < ws.length), List.drop_eq_getElem_cons (by omega : i + 1 < ws.length), List.drop_eq_getElem_cons (by omega : i + 1 + 1 < ws.length)]
      rw [g1, g2, show ws[i + 1 + 1] = z from g3]
      rfl
    rw [this]
    rfl
  rw [hcut] at h1
  refine ⟨p, _, rfl, h1, rfl, _, _, rfl, _, _, rfl, _, _, rfl, rfl, ?_⟩
  have ha1 := sameT s1 ha
  have fin : ∀ (s3 : List Int) (u v t : Int) (H2 : Hp) (q : Addr), Same H1 H2 → SqT K H2 q ((ws.map V.int).take i ++ [V.int u, V.int v, V.int t] ++ (ws.map V.int).drop (i + 3)) → el3 x y z = some s3 → s3 = [u, v, t] → Q (.ref q) H2 := by
    intro s3 u v t H2 q s2 g e1 es
    rw [e1] at k
    refine k q H2 (s1.trans s2) ?_
    rw [es]
    have e : (ws.take i ++ [u, v, t] ++ ws.drop (i + 3)).map V.int = (ws.map V.int).take i ++ [V.int u, V.int v, V.int t] ++ (ws.map V.int).drop (i + 3) := by simp
    show SqT K H2 q ((ws.take i ++ [u, v, t] ++ ws.drop (i + 3)).map V.int)
    rw [e]
    exact g
  by_cases c1 : min y z < x ∧ x ≤ max y z
  · have e1 : el3 x y z = some [x, z, y] := by unfold el3; rw [if_pos c1]
    refine ⟨_, rfl, _, rfl, _, _, rfl, _, rfl, _, _, rfl, rfl, _, rfl, ?_⟩
    rw [decide_eq_true (show (if z < y then z else y) < x by have := c1.1; split <;> omega)]
    refine iteT ?_
    refine ⟨_, rfl, _, rfl, _, rfl, _, _, rfl, _, _, rfl, rfl, _, rfl, ?_⟩
    rw [decide_eq_true (show x ≤ (if z > y then z else y) by have := c1.2; split <;> omega)]
    refine iteT ?_
    refine ⟨_, rfl, ?_⟩
    unfold tNoPart
    refine ⟨_, rfl, _, rfl, ?_⟩
    refine slA ha1 fun q1 H2 s2 g1 => ?_
    rw [cut_pre] at g1
    refine ⟨_, rfl, _, rfl, _, rfl, (by show 3 ≤ sizeLine; decide), fun t nt => ?_⟩
    have s3 := same_upd (o := HO.tup [V.int x, V.int z, V.int y]) nt
    refine catA (sameT s3 g1) (SqT.of upd_same) (by simp; omega) fun q2 H3 s4 g2 => ?_
    refine ⟨_, rfl, _, rfl, _, _, rfl, rfl, _, rfl, ?_⟩
    refine slA (sameT (s2.trans (s3.trans s4)) ha1) fun q3 H4 s5 g3 => ?_
    rw [show (i : Int) + 3 = ((i + 3 : Nat) : Int) by omega, cut_post] at g3
    refine catA (sameT s5 g2) g3 (by simp; omega) fun q4 H5 s6 g4 => ?_
    exact fin _ x z y H5 q4 (s2.trans (s3.trans (s4.trans (s5.trans s6)))) g4 e1 rfl
  · refine ⟨_, rfl, _, rfl, _, _, rfl, _, rfl, _, _, rfl, rfl, _, rfl, ?_⟩
    refine ite2 (fun d1 => ⟨_, rfl, _, rfl, _, rfl, _, _, rfl, _, _, rfl, rfl, _, rfl, ite2 (fun d2 => ?_) fun d2 => ?_⟩) fun d1 => ?_
    · exfalso
      have d1 := of_decide_eq_true d1
      have d2 := of_decide_eq_true d2
      apply c1
      constructor
      · split at d1 <;> omega
      · split at d2 <;> omega
    all_goals
      try refine iteF ?_
      refine ⟨_, rfl, _, rfl, _, _, rfl, _, rfl, _, _, rfl, rfl, _, rfl, ?_⟩
      by_cases c2 : min x y ≤ z ∧ z < max x y
      · have e1 : el3 x y z = some [y, x, z] := by unfold el3; rw [if_neg c1, if_pos c2]
        rw [decide_eq_true (show (if y < x then y else x) ≤ z by have := c2.1; split <;> omega)]
        refine iteT ?_
        refine ⟨_, rfl, _, rfl, _, rfl, _, _, rfl, _, _, rfl, rfl, _, rfl, ?_⟩
        rw [decide_eq_true (show z < (if y > x then y else x) by have := c2.2; split <;> omega)]
        refine iteT ?_
        refine ⟨_, rfl, ?_⟩
        unfold tNoPart
        refine ⟨_, rfl, _, rfl, ?_⟩
        refine slA ha1 fun q1 H2 s2 g1 => ?_
        rw [cut_pre] at g1
        refine ⟨_, rfl, _, rfl, _, rfl, (by show 3 ≤ sizeLine; decide), fun t nt => ?_⟩
        have s3 := same_upd (o := HO.tup [V.int y, V.int x, V.int z]) nt
        refine catA (sameT s3 g1) (SqT.of upd_same) (by simp; omega) fun q2 H3 s4 g2 => ?_
        refine ⟨_, rfl, _, rfl, _, _, rfl, rfl, _, rfl, ?_⟩
        refine slA (sameT (s2.trans (s3.trans s4)) ha1) fun q3 H4 s5 g3 => ?_
        rw [show (i : Int) + 3 = ((i + 3 : Nat) : Int) by omega, cut_post] at g3
        refine catA (sameT s5 g2) g3 (by simp; omega) fun q4 H5 s6 g4 => ?_
        exact fin _ y x z H5 q4 (s2.trans (s3.trans (s4.trans (s5.trans s6)))) g4 e1 rfl
      · have e1 : el3 x y z = none := by unfold el3; rw [if_neg c1, if_neg c2]
        rw [e1] at k
        refine ite2 (fun f1 => ⟨_, rfl, _, rfl, _, rfl, _, _, rfl, _, _, rfl, rfl, _, rfl, ite2 (fun f2 => ?_) fun f2 => ?_⟩) fun f1 => ?_
        · exfalso
          have f1 := of_decide_eq_true f1
          have f2 := of_decide_eq_true f2
          apply c2
          constructor
          · split at f1 <;> omega
          · split at f2 <;> omega
        all_goals
          try refine iteF ?_
          exact k H1 s1
def spWordOn (K : PySem.W.Frag) : Sp := fun vs H Q _ => ∃ (a b : Addr) (ws : List Int) (d : Deed), vs = [.ref a, .ref b] ∧ Wt K H a ws ∧ Lw ws ∧ SqT K H b d.v ∧ kRes K H Q (after ws d)
theorem ok_l_word_on (T : Txt K mg) : OKf P w K mg base 2 "_law_word_on" ["_law_word", "_law_deed_here"] (spWordOn K) := by
  refine T.f_l_word_on.F.ok sc_l_word_on (fun vs H Q E => by clear T; walk_at "k57len") (fun cdv A outer s H vs Q E hr h => ?_)
  obtain ⟨a, b, ws, d, rfl, ha, hl, hb, k⟩ := h
  have hlen := hl.len
  refine ⟨_, PSs.nox (pss_cons (ps_if (pt_cmpR (in_K (K := K)) (pe_ix (ixt_K (K := K)) (pv 1) pe_int (fun _ _ => rfl)) (pe_tup (pa_cons pe_str (pa_cons pe_str pa_nil))) (by rfl)) (pss_cons (ps_if (pt_cmpR op_gt (pe_callB (len_K (K := K)) (by rfl) T.b_len bb_len (pa_cons (pv 0) pa_nil)) pe_int (nomark _)) (pss_one (ps_ret pe_non)) pss_nil)
      (pss_one (ps_ret (pe_ifExp (pt_cmpR op_eq (pe_ix (ixt_K (K := K)) (pv 1) pe_int (fun _ _ => rfl)) pe_str (nomark _)) (pe_op (cat_K (K := K)) (pv 0) (pe_tup (pa_cons (pe_ix (ixt_K (K := K)) (pv 1) pe_int (fun _ _ => rfl)) pa_nil))) (pe_op (cat_K (K := K)) (pe_tup (pa_cons (pe_ix (ixt_K (K := K)) (pv 1) pe_int (fun _ _ => rfl)) pa_nil)) (pv 0)))))) pss_nil)
      (pss_cons (ps_if (pt_cmpR op_eq (pe_ix (ixt_K (K := K)) (pv 1) pe_int (fun _ _ => rfl)) pe_str (nomark _)) (pss_one (ps_ret (pe_call (ok_l_about T) (hr.mono (by decide)) rfl T.f_l_about.g T.f_l_about.F.kp T.f_l_about.b .nil pass0 (pa_cons (pv 0) pa_nil)))) pss_nil)
      (pss_cons (ps_if (pt_cmpR op_eq (pe_ix (ixt_K (K := K)) (pv 1) pe_int (fun _ _ => rfl)) pe_str (nomark _)) (pss_one (ps_ret (pe_ifExp (pt_cmpR op_lt (pe_ix (ixt_K (K := K)) (pv 1) pe_int (fun _ _ => rfl)) (pe_op op_sub (pe_callB (len_K (K := K)) (by rfl) T.b_len bb_len (pa_cons (pv 0) pa_nil)) pe_int) (nomark _)) (pe_call (ok_l_elementary T) (hr.mono (by decide)) rfl T.f_l_elementary.g T.f_l_elementary.F.kp T.f_l_elementary.b .nil pass0 (pa_cons (pv 0) (pa_cons (pe_ix (ixt_K (K := K)) (pv 1) pe_int (fun _ _ => rfl)) pa_nil))) pe_non))) pss_nil)
      (pss_cons (ps_if (pt_cmpR (eqD_K (K := K) hr.units) (pv 0) (pe_tup pa_nil) (nomark _)) (pss_one (ps_ret pe_non)) pss_nil)
      (pss_one (ps_ret (pe_ifExp (pt_cmpR op_eq (pe_ix (ixt_K (K := K)) (pv 1) pe_int (fun _ _ => rfl)) pe_str (nomark _)) (pe_slice (slt_K (K := K)) (pv 0) po_none (po_some (pe_un un_neg pe_int))) (pe_slice (slt_K (K := K)) (pv 0) (po_some pe_int) po_none)))))))), ?_⟩
  have at0 : ∀ {v : V} {r : List V}, d.v = v :: r → atI d.v 0 = some v := fun e => by rw [e]; exact atI_nat (j := 0) rfl
  have at1 : ∀ {v u : V} {r : List V}, d.v = v :: u :: r → atI d.v 1 = some u := fun e => by rw [e]; exact atI_nat (j := 1) rfl
  have hs : ∃ x r, d.v = .str x :: r := by cases d <;> exact ⟨_, _, rfl⟩
  obtain ⟨x, r, ex⟩ := hs
  -- if deed[0] in ('push', 'pull')
  refine ⟨_, rfl, b, _, _, _, rfl, rfl, hb, at0 ex, (by show 2 ≤ sizeLine; decide), fun u nu => ?_⟩
  have s0 := same_upd (o := HO.tup [.str "push", .str "pull"]) nu
  have ha0 := sameT s0 ha
  have hb0 := sameT s0 hb
  refine ⟨_, _, rfl, .inr (SqT.of upd_same), rfl, rfl, _, rfl, ?_⟩
  generalize upd H u (.tup [.str "push", .str "pull"]) = H0 at s0 ha0 hb0 ⊢
  have some_ : ∀ {ws'}, after ws d = some ws' → ∀ p H', Same H0 H' → Wt K H' p ws' → Q (.ref p) H' := fun e p H' s h => by
    rw [e] at k
    exact k p H' (s0.trans s) h
  have none_ : after ws d = none → ∀ H', Same H0 H' → Q .non H' := fun e H' s => by
    rw [e] at k
    exact k H' (s0.trans s)
  cases d with
  | push c =>
    cases ex
    refine iteT ?_
    refine ⟨_, rfl, a, _, rfl, .inr ha0, _, _, rfl, rfl, _, rfl, ?_⟩
    refine ite2 (fun h => ?_) fun h => ?_
    · have h : (15 : Int) < ((ws.map V.int).length : Int) := of_decide_eq_true h
      rw [List.length_map] at h
      exact none_ (by simp only [after]; rw [if_neg (by omega)]) H0 (Same.refl _)
    · have h : ¬ (15 : Int) < ((ws.map V.int).length : Int) := fun z => h (decide_eq_true z)
      rw [List.length_map] at h
      refine ⟨_, rfl, b, _, _, _, rfl, rfl, hb0, at0 rfl, rfl, _, rfl, ?_⟩
      refine iteT ?_
      refine ⟨_, rfl, _, rfl, b, _, _, _, rfl, rfl, hb0, at1 rfl, (by show 1 ≤ sizeLine; decide), fun t nt => ?_⟩
      have s1 := same_upd (o := HO.tup [V.int c]) nt
      refine catA (sameT s1 ha0) (SqT.of upd_same) (by simp; omega) fun p H2 s2 g => ?_
      exact some_ (by simp only [after]; rw [if_pos (by omega)]) p H2 (s1.trans s2) (by show SqT K H2 p ((ws ++ [c]).map V.int); rw [List.map_append]; exact g)
  | pull c =>
    cases ex
    refine iteT ?_
    refine ⟨_, rfl, a, _, rfl, .inr ha0, _, _, rfl, rfl, _, rfl, ?_⟩
    refine ite2 (fun h => ?_) fun h => ?_
    · have h : (15 : Int) < ((ws.map V.int).length : Int) := of_decide_eq_true h
      rw [List.length_map] at h
      exact none_ (by simp only [after]; rw [if_neg (by omega)]) H0 (Same.refl _)
    · have h : ¬ (15 : Int) < ((ws.map V.int).length : Int) := fun z => h (decide_eq_true z)
      rw [List.length_map] at h
      refine ⟨_, rfl, b, _, _, _, rfl, rfl, hb0, at0 rfl, rfl, _, rfl, ?_⟩
      refine iteF ?_
      refine ⟨_, rfl, b, _, _, _, rfl, rfl, hb0, at1 rfl, (by show 1 ≤ sizeLine; decide), fun t nt => ?_⟩
      have s1 := same_upd (o := HO.tup [V.int c]) nt
      refine ⟨_, rfl, ?_⟩
      refine catA (SqT.of upd_same) (sameT s1 ha0) (by simp; omega) fun p H2 s2 g => ?_
      exact some_ (ws' := c :: ws) (by simp only [after]; rw [if_pos (by omega)]) p H2 (s1.trans s2) (show SqT K H2 p ((c :: ws).map V.int) from g)
  | about =>
    cases ex
    refine iteF ?_
    refine ⟨_, rfl, b, _, _, _, rfl, rfl, hb0, at0 rfl, rfl, _, rfl, ?_⟩
    refine iteT ?_
    exact ⟨_, rfl, a, ws, rfl, ha0, by omega, fun p H' s h => some_ rfl p H' s h⟩
  | swap i =>
    cases ex
    refine iteF ?_
    refine ⟨_, rfl, b, _, _, _, rfl, rfl, hb0, at0 rfl, rfl, _, rfl, ?_⟩
    refine iteF ?_
    refine ⟨_, rfl, b, _, _, _, rfl, rfl, hb0, at0 rfl, rfl, _, rfl, ?_⟩
    refine iteT ?_
    refine ⟨_, rfl, b, _, _, _, rfl, rfl, hb0, at1 rfl, _, rfl, a, _, rfl, .inr ha0, _, _, rfl, rfl, _, _, rfl, rfl, _, rfl, ?_⟩
    refine ite2 (fun h => ?_) fun h => ?_
    · have h : (i : Int) < ((ws.map V.int).length : Int) - 2 := of_decide_eq_true h
      rw [List.length_map] at h
      refine ⟨_, rfl, _, rfl, b, _, _, _, rfl, rfl, hb0, at1 rfl, a, ws, i, rfl, ha0, by omega, by omega, ?_⟩
      show kRes K H0 Q (el ws i)
      cases e : el ws i with
      | none => exact fun H' s => none_ e H' s
      | some ws' => exact fun p H' s h => some_ e p H' s h
    · have h : ¬ (i : Int) < ((ws.map V.int).length : Int) - 2 := fun z => h (decide_eq_true z)
      rw [List.length_map] at h
      refine none_ ?_ H0 (Same.refl _)
      show el ws i = none
      cases e : el ws i with
      | none => rfl
      | some ws' =>
        obtain ⟨_, _, _, _, _, _, _, _, _, _, hi⟩ := el_some e
        omega
  | drop =>
    cases ex
    refine iteF ?_
    refine ⟨_, rfl, b, _, _, _, rfl, rfl, hb0, at0 rfl, rfl, _, rfl, ?_⟩
    refine iteF ?_
    refine ⟨_, rfl, b, _, _, _, rfl, rfl, hb0, at0 rfl, rfl, _, rfl, ?_⟩
    refine iteF ?_
    refine ⟨_, rfl, (by show 0 ≤ sizeLine; decide), fun z nz => ?_⟩
    have s1 := same_upd (o := HO.tup []) nz
    refine ⟨_, _, dp_tup (sameT s1 ha0), dp_tup (ns := []) (SqT.of upd_same), shaped_tup _, shaped_tup [], _, rfl, ?_⟩
    rw [show PyData.eqv (.tuple (dInts ws)) (.tuple (dInts [])) = decide (ws = []) from eqv_ints _ _]
    by_cases hne : ws = []
    · rw [decide_eq_true hne]
      exact iteT (none_ (by simp only [after]; rw [if_pos hne]) _ s1)
    · rw [decide_eq_false hne]
      refine iteF ?_
      refine ⟨_, rfl, b, _, _, _, rfl, rfl, sameT s1 hb0, at0 rfl, rfl, _, rfl, ?_⟩
      refine iteT ?_
      refine ⟨_, rfl, ?_⟩
      unfold tNoPart
      refine ⟨_, rfl, _, rfl, ?_⟩
      refine slA (sameT s1 ha0) fun p H2 s2 h2 => ?_
      rw [cut_last] at h2
      exact some_ (by simp only [after]; rw [if_neg hne]) p H2 (s1.trans s2) (by rw [← List.map_dropLast] at h2; exact h2)
  | shed =>
    cases ex
    refine iteF ?_
    refine ⟨_, rfl, b, _, _, _, rfl, rfl, hb0, at0 rfl, rfl, _, rfl, ?_⟩
    refine iteF ?_
    refine ⟨_, rfl, b, _, _, _, rfl, rfl, hb0, at0 rfl, rfl, _, rfl, ?_⟩
    refine iteF ?_
    refine ⟨_, rfl, (by show 0 ≤ sizeLine; decide), fun z nz => ?_⟩
    have s1 := same_upd (o := HO.tup []) nz
    refine ⟨_, _, dp_tup (sameT s1 ha0), dp_tup (ns := []) (SqT.of upd_same), shaped_tup _, shaped_tup [], _, rfl, ?_⟩
    rw [show PyData.eqv (.tuple (dInts ws)) (.tuple (dInts [])) = decide (ws = []) from eqv_ints _ _]
    by_cases hne : ws = []
    · rw [decide_eq_true hne]
      exact iteT (none_ (by simp only [after]; rw [if_pos hne]) _ s1)
    · rw [decide_eq_false hne]
      refine iteF ?_
      refine ⟨_, rfl, b, _, _, _, rfl, rfl, sameT s1 hb0, at0 rfl, rfl, _, rfl, ?_⟩
      refine iteF ?_
      refine ⟨_, rfl, _, rfl, ?_⟩
      unfold tNoPart
      refine slA (sameT s1 ha0) fun p H2 s2 h2 => ?_
      rw [show (1 : Int) = ((1 : Nat) : Int) from rfl, cut_post] at h2
      exact some_ (by simp only [after]; rw [if_neg hne]) p H2 (s1.trans s2) (by rw [← List.map_drop, List.drop_one] at h2; exact h2)
end
end K57
set_option Elab.async false
set_option linter.all false
set_option maxRecDepth 100000
set_option maxHeartbeats 4000000

/-! The draws. -/
namespace K57
open PySem PySem.Spec PyProof.Rows L2
local macro_rules | `(tactic| walk_at "k57g") => `(tactic| repeat (first | refine ⟨_, rfl, ?_⟩ | refine ⟨_, _, rfl, rfl, ?_⟩ | refine ⟨_, _, rfl, rfl, _, rfl, ?_⟩))
local macro_rules | `(tactic| walk_at "k57len") => `(tactic| (intro h; first | (obtain ⟨e, _⟩ := h; subst e; rfl) | (obtain ⟨_, e, _⟩ := h; subst e; rfl) | (obtain ⟨_, _, e, _⟩ := h; subst e; rfl) | (obtain ⟨_, _, _, e, _⟩ := h; subst e; rfl) | (obtain ⟨_, _, _, _, e, _⟩ := h; subst e; rfl) | (obtain ⟨_, _, _, _, _, e, _⟩ := h; subst e; rfl) | (obtain ⟨_, _, _, _, _, _, e, _⟩ := h; subst e; rfl) | (obtain ⟨_, _, _, _, _, _, _, e, _⟩ := h; subst e; rfl) | (obtain ⟨_, _, _, _, _, _, _, _, e, _⟩ := h; subst e; rfl) | ((repeat (obtain ⟨_, h⟩ := h)); subst_vars; rfl)))

/-- what is drawn from -/
def drK (lg cl : Addr) (rest turn : Int) : List (Key × V) := [(.inr "large", .ref lg), (.inr "rest", .int rest), (.inr "cells", .ref cl), (.inr "turn", .int turn)]
structure DrX (H : Hp) (dr lg cl : Addr) (large cells : List Int) (rest turn : Int) : Prop where
  d : H dr = some (.dK (drK lg cl rest turn))
  g : H lg = some (.lst (large.map V.int))
  c : H cl = some (.lst (cells.map V.int))
  r : 0 ≤ rest
  p : ∀ x ∈ large, 0 ≤ x
  nd : dr ≠ lg ∧ dr ≠ cl ∧ lg ≠ cl
def DrAt (H : Hp) (dr lg cl : Addr) : Prop := ∃ large cells rest turn, DrX H dr lg cl large cells rest turn
theorem DrX.same {H H' : Hp} {dr lg cl : Addr} {large cells : List Int} {rest turn : Int} (s : Same H H') (d : DrX H dr lg cl large cells rest turn) : DrX H' dr lg cl large cells rest turn := ⟨s _ _ d.d, s _ _ d.g, s _ _ d.c, d.r, d.p, d.nd⟩
theorem DrAt.same {H H' : Hp} {dr lg cl : Addr} (s : Same H H') (d : DrAt H dr lg cl) : DrAt H' dr lg cl := let ⟨a, b, c, e, x⟩ := d; ⟨a, b, c, e, x.same s⟩
theorem DrAt.cht {K : PySem.W.Frag} {D : List Addr} {H H' : Hp} {dr lg cl : Addr} (d : DrAt H dr lg cl) (c : ChT K D H H') (n : ∀ x ∈ [dr, lg, cl], x ∉ D) : DrAt H' dr lg cl := by
  obtain ⟨a, b, r, e, x⟩ := d
  exact ⟨a, b, r, e, c.keep _ _ (n _ (by simp)) (fun ps z => by cases z) x.d, c.keep _ _ (n _ (by simp)) (fun ps z => by cases z) x.g, c.keep _ _ (n _ (by simp)) (fun ps z => by cases z) x.c, x.r, x.p, x.nd⟩
theorem DrX.put {H : Hp} {dr lg cl : Addr} {large cells : List Int} {rest turn : Int} (d : DrX H dr lg cl large cells rest turn) {rest' turn' : Int} (h : 0 ≤ rest') : DrX (upd H dr (.dK (drK lg cl rest' turn'))) dr lg cl large cells rest' turn' :=
  ⟨upd_same, by rw [upd_ne d.nd.1.symm]; exact d.g, by rw [upd_ne d.nd.2.1.symm]; exact d.c, h, d.p, d.nd⟩
theorem put_rest (lg cl : Addr) (rest turn v : Int) : putK (drK lg cl rest turn) (.inr "rest") (.int v) = drK lg cl v turn := by rfl
theorem put_turn (lg cl : Addr) (rest turn v : Int) : putK (drK lg cl rest turn) (.inr "turn") (.int v) = drK lg cl rest v := by rfl
theorem DrX.get {H : Hp} {dr lg cl : Addr} {large cells : List Int} {rest turn : Int} (d : DrX H dr lg cl large cells rest turn) {k : Str} {v : V} (h : valV (drK lg cl rest turn) (.inr k) = some v) : DGet H dr (.str k) (some v) := h ▸ DGet.k (k := .inr k) d.d
section
variable {P : Program} {w : World} {K : PySem.W.Frag} {mg : Str → Option Value} {base : Heap}
def spMixed (K : PySem.W.Frag) : Sp := fun vs H Q _ => ∃ (dr lg cl : Addr) (large cells : List Int) (rest turn : Int), vs = [.ref dr] ∧ DrX H dr lg cl large cells rest turn ∧
  ∀ (H' : Hp) (i : Int), 0 ≤ i → Chg K [dr, lg, cl] H H' → DrX H' dr lg cl large cells rest (turn + 1) → Q (.int i) H'
def greats : List V := [.int 2147483629, .int 2147483587, .int 2147483579]
theorem great_at {i : Nat} {x : V} (h : greats[i]? = some x) : ∃ g : Int, x = .int g ∧ 1000000 < g ∧ g < 4294967296 := by
  have hx := List.mem_of_getElem? h
  simp only [greats, List.mem_cons, List.not_mem_nil, or_false] at hx
  rcases hx with rfl | rfl | rfl
  · exact ⟨_, rfl, by decide, by decide⟩
  · exact ⟨_, rfl, by decide, by decide⟩
  · exact ⟨_, rfl, by decide, by decide⟩
theorem ok_l_mixed (T : Txt K mg) : OKf P w K mg base 1 "_law_mixed" ["_law_draw"] (spMixed K) := by
  refine T.f_l_mixed.F.ok sc_l_mixed (fun vs H Q E => by clear T; walk_at "k57len") (fun cdv A outer s H vs Q E hr h => ?_)
  obtain ⟨dr, lg, cl, large, cells, rest, turn, rfl, d, k⟩ := h
  refine ⟨_, PSs.nox (pss_cons (ps_dput (u1 hr.units) (pv 0) pe_str (pe_op op_add (pe_dget (u1 hr.units) (pv 0) pe_str (fun _ _ => rfl)) pe_int) rfl)
      (pss_cons (ps_par (i := 1) (j := 2) rfl sc_l_mixed.nd rfl rfl (by decide) rfl rfl (pa_cons (pe_callTy call_int1 (by rfl) T.b_int bb_int (pa_cons (pe_dget (u1 hr.units) (pv 0) pe_str (fun _ _ => rfl)) pa_nil)) (pa_cons pe_int pa_nil)) (by rfl))
      (pss_cons (ps_for PassesOwn.never rfl (pil_K (K := K) (pe_lst (pa_cons pe_int (pa_cons pe_int (pa_cons pe_int pa_nil))))) (pg_name (i := 3) sc_l_mixed.nd rfl (Or.inl rfl)) (pss_cons (ps_set (i := 4) sc_l_mixed.nd rfl (Or.inl rfl) (pe_op op_mod (pe_op op_add (pe_op op_mul (pv 1) pe_int) (pe_op op_fdiv (pv 3) pe_int)) (pv 3)))
      (pss_cons (ps_for PassesOwn.never rfl (pil_K (K := K) (pe_dget (u1 hr.units) (pv 0) pe_str (fun _ _ => rfl))) (pg_name (i := 5) sc_l_mixed.nd rfl (Or.inl rfl)) (pss_one (ps_set (i := 4) sc_l_mixed.nd rfl (Or.inl rfl) (pe_op op_mod (pe_op op_add (pe_op op_mul (pv 4) pe_int) (pe_callTy call_int1 (by rfl) T.b_int bb_int (pa_cons (pv 5) pa_nil))) (pv 3)))))
      (pss_one (ps_set (i := 2) sc_l_mixed.nd rfl (Or.inl rfl) (pe_op op_add (pe_op op_mul (pv 2) pe_int) (pe_op op_mod (pe_op op_pow (pv 4) pe_int) (pv 3))))))))
      (pss_one (ps_ret (pv 2)))))), ?_⟩
  -- draw['turn'] = draw['turn'] + 1
  refine ⟨_, rfl, dr, _, rfl, d.get (k := "turn") rfl, _, _, rfl, rfl, _, rfl, dr, _, rfl, DPut.k (k := .inr "turn") d.d (line_lt (by show 4 ≤ 1000000; decide)), ?_⟩
  rw [put_turn]
  have d1 := d.put (rest' := rest) (turn' := turn + 1) d.r
  have c1 : Chg K [dr, lg, cl] H _ := Chg.upd (o := .dK (drK lg cl rest (turn + 1))) d.d trivial (by simp)
  generalize upd H dr (.dK (drK lg cl rest (turn + 1))) = H1 at d1 c1 ⊢
  refine ⟨_, rfl, dr, _, rfl, d1.get (k := "turn") rfl, .inl ⟨_, rfl, _, _, rfl, ?_⟩⟩
  -- for great in [..]
  refine ⟨(by show 3 ≤ sizeLine; decide), fun l nl => ?_⟩
  have s2 := same_upd (o := HO.lst greats) nl
  refine ⟨l, rfl, ⟨_, SqL.of upd_same⟩, ?_⟩
  refine for_it (walk_list (K := K) (a := l) (xs := greats)) (fun i σ H' => ∃ (fd : Int) (v3 v4 v5 : Option V), σ = [some (.ref dr), some (.int (turn + 1)), some (.int fd), v3, v4, v5] ∧ 0 ≤ fd ∧ H' l = some (.lst greats) ∧ Chg K [dr, lg, cl] H H' ∧ DrX H' dr lg cl large cells rest (turn + 1))
    ⟨0, none, none, none, rfl, Int.le_refl _, upd_same, c1.then s2, d1.same s2⟩ (fun i σ H' _ ⟨_, _, _, _, _, _, h, _⟩ => SqL.of h) ?_ ?_
  · rintro i x σ H2 H2' hi ⟨fd, v3, v4, v5, rfl, hfd, hl2, c2, d2⟩ ⟨rfl, hx⟩
    obtain ⟨g, rfl, g1, g2⟩ := great_at hx
    refine ⟨_, rfl, _, _, rfl, rfl, .inr ⟨by decide, by decide⟩, _, rfl, _, _, rfl, rfl, ⟨by decide, by decide⟩, _, _, rfl, rfl, _, rfl, _, _, rfl, rfl, by omega, ?_⟩
    have b0 : 0 ≤ ((turn + 1) * 69621 + g / 7) % g ∧ ((turn + 1) * 69621 + g / 7) % g < g := ⟨Int.emod_nonneg _ (by omega), Int.emod_lt_of_pos _ (by omega)⟩
    -- for grain in draw['cells']
    refine ⟨_, rfl, dr, _, rfl, d2.get (k := "cells") rfl, cl, rfl, ⟨_, SqL.of d2.c⟩, ?_⟩
    refine for_it (walk_list (K := K) (a := cl) (xs := cells.map V.int)) (fun j σ H' => ∃ (bl : Int) (v5 : Option V), σ = [some (.ref dr), some (.int (turn + 1)), some (.int fd), some (.int g), some (.int bl), v5] ∧ 0 ≤ bl ∧ bl < g ∧ H' = H2')
      ⟨((turn + 1) * 69621 + g / 7) % g, v5, rfl, b0.1, b0.2, rfl⟩ (fun i σ H' _ ⟨_, _, _, _, _, h⟩ => by rw [h]; exact SqL.of d2.c) ?_ ?_
    · rintro j y σ H3 H3' hj ⟨bl, v5, rfl, b1, b2, rfl⟩ ⟨rfl, hy⟩
      obtain ⟨c, hc, rfl⟩ := map_some hy
      refine ⟨_, rfl, _, _, rfl, rfl, .inr ⟨by decide, by decide⟩, _, rfl, .inl ⟨_, rfl, _, _, rfl, rfl, _, rfl, _, _, rfl, rfl, by omega, ?_⟩⟩
      exact ⟨_, _, rfl, Int.emod_nonneg _ (by omega), Int.emod_lt_of_pos _ (by omega), rfl⟩
    · rintro σ H3 ⟨bl, v5, rfl, b1, b2, rfl⟩
      refine ⟨_, rfl, _, _, rfl, rfl, .inr ⟨by decide, by decide⟩, _, rfl, _, _, rfl, rfl, ⟨by decide, by decide, by omega⟩, _, rfl, _, _, rfl, rfl, by omega, _, _, rfl, rfl, ?_⟩
      exact ⟨_, _, _, _, rfl, Int.add_nonneg (Int.mul_nonneg hfd (by decide)) (Int.emod_nonneg _ (by omega)), hl2, c2, d2⟩
  · rintro σ H2 ⟨fd, v3, v4, v5, rfl, hfd, hl2, c2, d2⟩
    exact ⟨_, rfl, k H2 fd hfd c2 d2⟩
theorem seq0 (n : Nat) : seqIndex? 0 (n + 1) = some 0 := by
  unfold seqIndex?
  simp
abbrev Dg (dr lg cl : Addr) : List Addr := [dr, lg, cl]
def spTake (K : PySem.W.Frag) : Sp := fun vs H Q _ => ∃ (dr lg cl : Addr) (n : Int), vs = [.ref dr, .int n] ∧ DrAt H dr lg cl ∧ 0 < n ∧ n < 1073741824 ∧
  ∀ (H' : Hp) (i : Nat), (i : Int) < n → Chg K (Dg dr lg cl) H H' → DrAt H' dr lg cl → Q (.int (i : Int)) H'
theorem ok_l_take (T : Txt K mg) : OKf P w K mg base 2 "_law_take" ["_law_draw", "_law_amount"] (spTake K) := by
  refine T.f_l_take.F.ok sc_l_take (fun vs H Q E => by clear T; walk_at "k57len") (fun cdv A outer s H vs Q E hr h => ?_)
  obtain ⟨dr, lg, cl, n, rfl, ⟨large, cells, rest, turn, d⟩, hn, hn2, k⟩ := h
  refine ⟨_, PSs.nox (pss_cons (ps_if (pt_cmpR op_eq (pe_dget (u1 hr.units) (pv 0) pe_str (fun _ _ => rfl)) pe_int (nomark _)) (pss_one (ps_dput (u1 hr.units) (pv 0) pe_str (pe_ifExp (pt_cmpR (neD_K (K := K) hr.units) (pe_dget (u1 hr.units) (pv 0) pe_str (fun _ _ => rfl)) (pe_lst pa_nil) (nomark _)) (pe_bm PySem.F.plainAttrs_list PySem.F.slot_list_pop PySem.F.type_list_pop mt_popAt (pe_dget (u1 hr.units) (pv 0) pe_str (fun _ _ => rfl)) (pa_cons pe_int pa_nil)) (pe_call (ok_l_mixed T) (hr.mono (by decide)) rfl T.f_l_mixed.g T.f_l_mixed.F.kp T.f_l_mixed.b .nil pass0 (pa_cons (pv 0) pa_nil))) rfl)) pss_nil)
      (pss_cons (ps_set (i := 2) sc_l_take.nd rfl (Or.inl rfl) (pe_op op_mod (pe_callTy call_int1 (by rfl) T.b_int bb_int (pa_cons (pe_dget (u1 hr.units) (pv 0) pe_str (fun _ _ => rfl)) pa_nil)) (pv 1)))
      (pss_cons (ps_dput (u1 hr.units) (pv 0) pe_str (pe_op op_fdiv (pe_callTy call_int1 (by rfl) T.b_int bb_int (pa_cons (pe_dget (u1 hr.units) (pv 0) pe_str (fun _ _ => rfl)) pa_nil)) (pv 1)) rfl)
      (pss_one (ps_ret (pv 2)))))), ?_⟩
  refine ⟨_, rfl, dr, _, rfl, d.get (k := "rest") rfl, rfl, _, rfl, ?_⟩
  refine ite2 (fun h => ?_) fun h => ?_
  · -- draw['rest'] = draw['large'].pop(0) if draw['large'] != [] else mixed(draw)
    refine ⟨_, rfl, dr, _, rfl, d.get (k := "large") rfl, (by show 0 ≤ sizeLine; decide), fun z nz => ?_⟩
    have s1 := same_upd (o := HO.lst []) nz
    have d1 := d.same s1
    refine ⟨_, _, dp_list (SqL.of d1.g), dp_nil (SqL.of upd_same), shaped_list _, shaped_list _, _, rfl, ?_⟩
    rw [show PyData.eqv (.list (dInts large)) (.list (dInts [])) = decide (large = []) from eqv_ints _ _]
    have c1 : Chg K (Dg dr lg cl) H (upd H z (.lst [])) := .of s1
    generalize upd H z (.lst []) = H1 at d1 c1 ⊢
    cases hlarge : large with
    | cons y ys =>
      rw [decide_eq_false (by simp)]
      refine iteT ?_
      rw [hlarge] at d1
      refine ⟨_, rfl, dr, _, rfl, d1.get (k := "large") rfl, .inl ⟨rfl, _, SqL.of d1.g⟩, lg, _, 0, 0, _, rfl, rfl, d1.g, by decide, by decide, seq0 _, rfl, ?_⟩
      have c2 : Chg K (Dg dr lg cl) H1 (upd H1 lg (.lst (ys.map V.int))) := Chg.upd d1.g trivial (by simp)
      have d2 : DrX (upd H1 lg (.lst (ys.map V.int))) dr lg cl ys cells rest turn :=
        ⟨by rw [upd_ne d1.nd.1]; exact d1.d, upd_same, by rw [upd_ne d1.nd.2.2.symm]; exact d1.c, d1.r, fun x hx => d1.p x (List.mem_cons_of_mem _ hx), d1.nd⟩
      have hy0 := d1.p y List.mem_cons_self
      have c12 := c1.trans c2 fun x h => .inl h
      refine ⟨_, rfl, dr, _, rfl, DPut.k (k := .inr "rest") d2.d (line_lt (by show 4 ≤ 1000000; decide)), ?_⟩
      rw [put_rest, show (List.map V.int (y :: ys)).eraseIdx 0 = ys.map V.int from rfl]
      have d3 := d2.put (rest' := y) (turn' := turn) hy0
      have c3 := c12.trans (Chg.upd (K := K) (D := Dg dr lg cl) (o := .dK (drK lg cl y turn)) d2.d trivial (by simp)) fun x h => .inl h
      generalize upd (upd H1 lg (.lst (ys.map V.int))) dr (.dK (drK lg cl y turn)) = H3 at d3 c3 ⊢
      generalize y = R at d3
      generalize ys = L3 at d3
      generalize turn = T3 at d3
      obtain ⟨i, hi⟩ := Int.eq_ofNat_of_zero_le (Int.emod_nonneg R (by omega : n ≠ 0))
      have hlt : R % n < n := Int.emod_lt_of_pos R hn
      refine ⟨_, rfl, dr, _, rfl, d3.get (k := "rest") rfl, .inl ⟨_, rfl, _, rfl, _, _, rfl, rfl, hn, ?_⟩⟩
      refine ⟨_, rfl, dr, _, rfl, d3.get (k := "rest") rfl, .inl ⟨_, rfl, _, rfl, _, _, rfl, rfl, ⟨hn, hn2⟩, _, rfl, dr, _, rfl, DPut.k (k := .inr "rest") d3.d (line_lt (by show 4 ≤ 1000000; decide)), ?_⟩⟩
      have q := k (upd H3 dr (.dK (drK lg cl (R / n) T3))) i (by omega) (c3.trans (Chg.upd (K := K) (D := Dg dr lg cl) (o := .dK (drK lg cl (R / n) T3)) d3.d trivial (by simp)) fun x h => .inl h) ⟨_, _, _, _, d3.put (Int.ediv_nonneg d3.r (by omega))⟩
      rw [← hi] at q
      exact ⟨_, rfl, q⟩
    | nil =>
      rw [decide_eq_true rfl]
      refine iteF ?_
      rw [hlarge] at d1
      refine ⟨_, rfl, dr, lg, cl, [], cells, rest, turn, rfl, d1, fun H2 R hR c2 d2 => ?_⟩
      have c12 := c1.trans c2 fun x h => .inl h
      refine ⟨_, rfl, dr, _, rfl, DPut.k (k := .inr "rest") d2.d (line_lt (by show 4 ≤ 1000000; decide)), ?_⟩
      rw [put_rest]
      have d3 := d2.put (rest' := R) (turn' := turn + 1) hR
      have c3 := c12.trans (Chg.upd (K := K) (D := Dg dr lg cl) (o := .dK (drK lg cl R (turn + 1))) d2.d trivial (by simp)) fun x h => .inl h
      generalize upd H2 dr (.dK (drK lg cl R (turn + 1))) = H3 at d3 c3 ⊢
      generalize turn + 1 = T3 at d3
      obtain ⟨i, hi⟩ := Int.eq_ofNat_of_zero_le (Int.emod_nonneg R (by omega : n ≠ 0))
      have hlt : R % n < n := Int.emod_lt_of_pos R hn
      refine ⟨_, rfl, dr, _, rfl, d3.get (k := "rest") rfl, .inl ⟨_, rfl, _, rfl, _, _, rfl, rfl, hn, ?_⟩⟩
      refine ⟨_, rfl, dr, _, rfl, d3.get (k := "rest") rfl, .inl ⟨_, rfl, _, rfl, _, _, rfl, rfl, ⟨hn, hn2⟩, _, rfl, dr, _, rfl, DPut.k (k := .inr "rest") d3.d (line_lt (by show 4 ≤ 1000000; decide)), ?_⟩⟩
      have q := k (upd H3 dr (.dK (drK lg cl (R / n) T3))) i (by omega) (c3.trans (Chg.upd (K := K) (D := Dg dr lg cl) (o := .dK (drK lg cl (R / n) T3)) d3.d trivial (by simp)) fun x h => .inl h) ⟨_, _, _, _, d3.put (Int.ediv_nonneg d3.r (by omega))⟩
      rw [← hi] at q
      exact ⟨_, rfl, q⟩
  · have d3 := d
    have c3 : Chg K (Dg dr lg cl) H H := .refl _ _
    generalize rest = R at d3
    generalize turn = T3 at d3
    obtain ⟨H3, eH⟩ : ∃ H3, H3 = H := ⟨_, rfl⟩
    rw [← eH] at d3 ⊢
    replace c3 : Chg K (Dg dr lg cl) H H3 := by rw [eH]; exact c3
    obtain ⟨i, hi⟩ := Int.eq_ofNat_of_zero_le (Int.emod_nonneg R (by omega : n ≠ 0))
    have hlt : R % n < n := Int.emod_lt_of_pos R hn
    refine ⟨_, rfl, dr, _, rfl, d3.get (k := "rest") rfl, .inl ⟨_, rfl, _, rfl, _, _, rfl, rfl, hn, ?_⟩⟩
    refine ⟨_, rfl, dr, _, rfl, d3.get (k := "rest") rfl, .inl ⟨_, rfl, _, rfl, _, _, rfl, rfl, ⟨hn, hn2⟩, _, rfl, dr, _, rfl, DPut.k (k := .inr "rest") d3.d (line_lt (by show 4 ≤ 1000000; decide)), ?_⟩⟩
    have q := k (upd H3 dr (.dK (drK lg cl (R / n) T3))) i (by omega) (c3.trans (Chg.upd (K := K) (D := Dg dr lg cl) (o := .dK (drK lg cl (R / n) T3)) d3.d trivial (by simp)) fun x h => .inl h) ⟨_, _, _, _, d3.put (Int.ediv_nonneg d3.r (by omega))⟩
    rw [← hi] at q
    exact ⟨_, rfl, q⟩
end
end K57
set_option Elab.async false
set_option linter.all false
set_option maxRecDepth 100000
set_option maxHeartbeats 4000000

/-! What is drawn. -/
namespace K57
open PySem PySem.Spec PyProof.Rows L2
local macro_rules | `(tactic| walk_at "k57g") => `(tactic| repeat (first | refine ⟨_, rfl, ?_⟩ | refine ⟨_, _, rfl, rfl, ?_⟩ | refine ⟨_, _, rfl, rfl, _, rfl, ?_⟩))
local macro_rules | `(tactic| walk_at "k57len") => `(tactic| (intro h; first | (obtain ⟨e, _⟩ := h; subst e; rfl) | (obtain ⟨_, e, _⟩ := h; subst e; rfl) | (obtain ⟨_, _, e, _⟩ := h; subst e; rfl) | (obtain ⟨_, _, _, e, _⟩ := h; subst e; rfl) | (obtain ⟨_, _, _, _, e, _⟩ := h; subst e; rfl) | (obtain ⟨_, _, _, _, _, e, _⟩ := h; subst e; rfl) | (obtain ⟨_, _, _, _, _, _, e, _⟩ := h; subst e; rfl) | (obtain ⟨_, _, _, _, _, _, _, e, _⟩ := h; subst e; rfl) | (obtain ⟨_, _, _, _, _, _, _, _, e, _⟩ := h; subst e; rfl) | ((repeat (obtain ⟨_, h⟩ := h)); subst_vars; rfl)))

theorem Chg.lst {K : PySem.W.Frag} {D : List Addr} {H H' : Hp} {l : Addr} {xs : List V} (c : Chg K D H H') (n : l ∉ D) (h : SqL K H l xs) : SqL K H' l xs := by
  rcases h with (h | ⟨o, h⟩) | h
  · exact .inl (.inl (c.keep _ _ n h))
  · exact .inl (.inr ⟨o, c.sol _ _ trivial h⟩)
  · exact .inr h
section
variable {P : Program} {w : World} {K : PySem.W.Frag} {mg : Str → Option Value} {base : Heap}
def spPick (K : PySem.W.Frag) : Sp := fun vs H Q _ => ∃ (dr lg cl l : Addr) (xs : List V), vs = [.ref dr, .ref l] ∧ DrAt H dr lg cl ∧ SqL K H l xs ∧ 0 < xs.length ∧ xs.length ≤ 1000 ∧ l ∉ Dg dr lg cl ∧
  ∀ (H' : Hp) (x : V), x ∈ xs → Chg K (Dg dr lg cl) H H' → DrAt H' dr lg cl → Q x H'
theorem ok_l_pick (T : Txt K mg) : OKf P w K mg base 3 "_law_pick" ["_law_draw", "_law_some"] (spPick K) := by
  refine T.f_l_pick.F.ok sc_l_pick (fun vs H Q E => by clear T; walk_at "k57len") (fun cdv A outer s H vs Q E hr h => ?_)
  obtain ⟨dr, lg, cl, l, xs, rfl, d, hl, h0, h1, hn, k⟩ := h
  refine ⟨_, PSs.nox (pss_one (ps_ret (pe_ix (ixl_K (K := K)) (pv 1) (pe_call (ok_l_take T) (hr.mono (by decide)) rfl T.f_l_take.g T.f_l_take.F.kp T.f_l_take.b .nil pass0 (pa_cons (pv 0) (pa_cons (pe_callB (len_K (K := K)) (by rfl) T.b_len bb_len (pa_cons (pv 1) pa_nil)) pa_nil))) (fun _ _ => rfl)))), ?_⟩
  refine ⟨_, rfl, _, rfl, _, rfl, l, _, rfl, .inl hl, dr, lg, cl, _, rfl, d, by omega, by omega, fun H' i hi c d' => ?_⟩
  obtain ⟨x, hx⟩ : ∃ x, xs[i]? = some x := ⟨_, List.getElem?_eq_getElem (by omega)⟩
  exact ⟨l, _, _, _, rfl, rfl, c.lst hn hl, atI_nat hx, k H' x (List.mem_of_getElem? hx) c d'⟩
def spLongWord (K : PySem.W.Frag) : Sp := fun vs H Q _ => ∃ (dr lg cl : Addr) (m : Nat), vs = [.ref dr, .int (m : Int)] ∧ DrAt H dr lg cl ∧ m ≤ 16 ∧
  ∀ (H' : Hp) (p : Addr) (ws : List Int), Chg K (Dg dr lg cl) H H' → DrAt H' dr lg cl → Wt K H' p ws → Lw ws → Q (.ref p) H'
theorem ok_l_long_word (T : Txt K mg) : OKf P w K mg base 4 "_law_long_word" ["_law_draw", "_law_most_here"] (spLongWord K) := by
  refine T.f_l_long_word.F.ok sc_l_long_word (fun vs H Q E => by clear T; walk_at "k57len") (fun cdv A outer s H vs Q E hr h => ?_)
  obtain ⟨dr, lg, cl, m, rfl, d, hm, k⟩ := h
  refine ⟨_, PSs.nox (pss_cons (ps_set (i := 2) sc_l_long_word.nd rfl (Or.inr rfl) (pe_call (ok_l_pick T) (hr.mono (by decide)) rfl T.f_l_pick.g T.f_l_pick.F.kp T.f_l_pick.b .nil pass0 (pa_cons (pv 0) (pa_cons (pe_lst (pa_cons pe_int (pa_cons pe_int (pa_cons pe_int (pa_cons pe_int (pa_cons pe_int (pa_cons pe_int pa_nil))))))) pa_nil))))
      (pss_one (ps_ret (pe_callTy (tuple_K (K := K)) (by rfl) T.b_tuple bb_tuple (pa_cons (pe_lc (own := [("_law_lap", 3)]) (g := gName 3) (by rfl) sc_l_long_word.nd (pi_range1 (by rfl) T.b_range (pa_cons (pe_call (ok_l_take T) (hr.mono (by decide)) rfl T.f_l_take.g T.f_l_take.F.kp T.f_l_take.b .nil pass0 (pa_cons (pv 0) (pa_cons (pe_op op_add (pv 1) pe_int) pa_nil))) pa_nil)) (blkOk_by (N := ["_law_draw", "_law_most_here", "_law_top", "_law_lap"]) (sc := defScope s_l_long_word) (by decide +kernel)) (fun _ _ _ _ _ => pg_name (i := 3) sc_l_long_word.nd rfl (Or.inl rfl)) (fun _ _ _ _ _ => pts_nil) (fun _ _ _ _ _ => (pe_op op_add pe_int (pe_call (ok_l_take T) (hr.mono (by decide)) rfl T.f_l_take.g T.f_l_take.F.kp T.f_l_take.b .nil pass0 (pa_cons (pv 0) (pa_cons (pv 2) pa_nil)))))) pa_nil))))), ?_⟩
  -- top = pick(draw, [2, 3, 3, 5, 9, 16])
  refine ⟨_, rfl, (by show 6 ≤ sizeLine; decide), fun l nl => ?_⟩
  have s1 := same_upd (o := HO.lst [.int 2, .int 3, .int 3, .int 5, .int 9, .int 16]) nl
  have hl := upd_same (H := H) (a := l) (o := HO.lst [.int 2, .int 3, .int 3, .int 5, .int 9, .int 16])
  have d1 := d.same s1
  have ln : l ∉ Dg dr lg cl := fun h => by
    obtain ⟨_, _, _, _, x⟩ := d
    simp only [Dg, List.mem_cons, List.not_mem_nil, or_false] at h
    rcases h with rfl | rfl | rfl
    · rw [x.d] at nl; cases nl
    · rw [x.g] at nl; cases nl
    · rw [x.c] at nl; cases nl
  refine ⟨dr, lg, cl, l, _, rfl, d1, SqL.of hl, by decide, by decide, ln, fun H2 x hx c2 d2 => ?_⟩
  obtain ⟨t, rfl, t1, t2⟩ : ∃ t : Int, x = .int t ∧ 1 < t ∧ t ≤ 16 := by
    simp only [List.mem_cons, List.not_mem_nil, or_false] at hx
    rcases hx with rfl | rfl | rfl | rfl | rfl | rfl <;> exact ⟨_, rfl, by decide, by decide⟩
  have c12 : Chg K (Dg dr lg cl) H H2 := (Chg.of s1).trans c2 fun x h => .inl h
  -- range(take(draw, most + 1))
  refine ⟨_, rfl, _, rfl, _, _, rfl, rfl, dr, lg, cl, _, rfl, d2, by omega, by omega, fun H3 n hn c3 d3 => ?_⟩
  have c13 := c12.trans c3 fun x h => .inl h
  refine ⟨_, rfl, by omega, by omega, fun M nM => ?_⟩
  have e : ((n : Int)).toNat = n := by omega
  rw [e]
  have Mn : M ∉ Dg dr lg cl := fun h => by
    obtain ⟨_, _, _, _, x⟩ := d3
    simp only [Dg, List.mem_cons, List.not_mem_nil, or_false] at h
    rcases h with rfl | rfl | rfl
    · rw [x.d] at nM; cases nM
    · rw [x.g] at nM; cases nM
    · rw [x.c] at nM; cases nM
  have hMn : H M = none := c13.free Mn nM
  refine lc_it (walk_range0 (n := n)) (fun i H' => Chg K (Dg dr lg cl) H H' ∧ DrAt H' dr lg cl ∧ ∃ ws : List Int, H' M = some (.lst (ws.map V.int)) ∧ ws.length = i ∧ ∀ x ∈ ws, 1 ≤ x ∧ x ≤ 16)
    ⟨c13.then (same_upd nM), d3.same (same_upd nM), [], upd_same, rfl, by simp⟩ (fun _ _ _ _ => trivial) (fun i z H4 H4' hi ⟨c4, d4, ws, h4, hw, hx⟩ hy => ?_) (fun H4 ⟨c4, d4, ws, h4, hw, hx⟩ => ?_)
  · obtain ⟨rfl, rfl⟩ := hy
    refine ⟨rfl, ?_⟩
    unfold tYes
    dsimp only
    rw [if_pos rfl]
    refine ⟨_, rfl, _, rfl, dr, lg, cl, t, rfl, d4, by omega, by omega, fun H5 j hj c5 d5 => ?_⟩
    refine ⟨_, _, rfl, rfl, _, c5.keep _ _ Mn h4, (by rw [List.length_map]; exact line_lt (by omega)), ?_⟩
    have h5 := c5.keep _ _ Mn h4
    have c45 := c4.trans c5 fun x h => .inl h
    have s6 : ∀ o, Chg K (Dg dr lg cl) H (upd H5 M o) := fun o =>
      ⟨fun b u hb e => by
        rw [upd_ne (ne_of_none e hMn)]
        exact c45.keep b u hb e, fun b u s e => by
        rw [upd_ne (ne_of_none e hMn)]
        exact c45.sol b u s e⟩
    refine ⟨s6 _, ?_, ws ++ [1 + (j : Int)], by rw [upd_same]; simp, by simp [hw], fun x hx' => ?_⟩
    · refine d5.cht (K := K) (D := [M]) (Chg.upd h5 trivial (by simp)).t fun x hx => ?_
      intro z
      rw [List.mem_singleton.mp z] at hx
      exact Mn hx
    · rcases List.mem_append.mp hx' with h | h
      · exact hx x h
      · rw [List.mem_singleton.mp h]; omega
  · refine ⟨M, _, rfl, .inl ⟨SqL.of h4, fun u nu => ?_⟩⟩
    have s5 := same_upd (o := HO.tup (ws.map V.int)) nu
    exact k _ u ws (c4.then s5) (d4.same s5) (SqT.of upd_same) ⟨by omega, hx⟩
def spName (K : PySem.W.Frag) : Sp := fun vs H Q _ => ∃ (dr lg cl : Addr), vs = [.ref dr] ∧ DrAt H dr lg cl ∧ ∀ (H' : Hp) (z : Str), Chg K (Dg dr lg cl) H H' → DrAt H' dr lg cl → isNm z = true → Q (.str z) H'
theorem isNm_of {z : Str} (h1 : 1 ≤ z.cps.size) (h2 : z.cps.size ≤ 8) (h : ∀ c ∈ z.cps.toList, c ∈ signs.cps.toList) : isNm z = true := by
  unfold isNm
  rw [decide_eq_true (show 1 ≤ z.length from h1), decide_eq_true (show z.length ≤ 8 from h2)]
  simp only [Bool.true_and, List.all_eq_true, decide_eq_true_eq]
  exact h
theorem ok_l_name (T : Txt K mg) : OKf P w K mg base 3 "_law_name" ["_law_draw"] (spName K) := by
  refine T.f_l_name.F.ok sc_l_name (fun vs H Q E => by clear T; walk_at "k57len") (fun cdv A outer s H vs Q E hr h => ?_)
  obtain ⟨dr, lg, cl, rfl, d, k⟩ := h
  refine ⟨_, PSs.nox (pss_cons (ps_set (i := 1) sc_l_name.nd rfl (Or.inl rfl) pe_str)
      (pss_cons (ps_for PassesOwn.never rfl (pi_range1 (by rfl) T.b_range (pa_cons (pe_op op_add pe_int (pe_call (ok_l_take T) (hr.mono (by decide)) rfl T.f_l_take.g T.f_l_take.F.kp T.f_l_take.b .nil pass0 (pa_cons (pv 0) (pa_cons (pe_ifExp (pt_cmpR op_gt (pe_call (ok_l_take T) (hr.mono (by decide)) rfl T.f_l_take.g T.f_l_take.F.kp T.f_l_take.b .nil pass0 (pa_cons (pv 0) (pa_cons pe_int pa_nil))) pe_int (nomark _)) pe_int pe_int) pa_nil)))) pa_nil)) (pg_name (i := 2) sc_l_name.nd rfl (Or.inl rfl)) (pss_one (ps_set (i := 1) sc_l_name.nd rfl (Or.inl rfl) (pe_op op_add_str (pv 1) (pe_ix ix_str pe_str (pe_call (ok_l_take T) (hr.mono (by decide)) rfl T.f_l_take.g T.f_l_take.F.kp T.f_l_take.b .nil pass0 (pa_cons (pv 0) (pa_cons pe_int pa_nil))) (fun _ _ => rfl))))))
      (pss_one (ps_ret (pv 1))))), ?_⟩
  refine ⟨_, rfl, _, rfl, dr, lg, cl, 5, rfl, d, by decide, by decide, fun H1 i hi c1 d1 => ?_⟩
  have main : ∀ (m : Int), 0 < m → m ≤ 8 → ∀ (H2 : Hp) (j : Nat), (j : Int) < m → Chg K (Dg dr lg cl) H1 H2 → DrAt H2 dr lg cl → 1 + j ≤ 8 ∧ Chg K (Dg dr lg cl) H H2 := fun m m0 m8 H2 j hj c2 d2 => ⟨by omega, c1.trans c2 fun x h => .inl h⟩
  refine ⟨_, _, rfl, rfl, _, rfl, ?_⟩
  refine ite2 (fun h => ?_) fun h => ?_
  all_goals
    refine ⟨dr, lg, cl, _, rfl, d1, by decide, by decide, fun H2 j hj c2 d2 => ?_⟩
    obtain ⟨j8, c12⟩ := main _ (by decide) (by decide) H2 j hj c2 d2
    refine ⟨_, _, rfl, rfl, _, rfl, by omega, by omega, ?_⟩
    rw [show ((1 : Int) + (j : Int)).toNat = 1 + j by omega]
    refine for_range (lo := 0) (n := 1 + j) (fun i σ H' => ∃ (z : Str) (v2 : Option V), σ = [some (.ref dr), some (.str z), v2] ∧ z.cps.size = i ∧ (∀ c ∈ z.cps.toList, c ∈ signs.cps.toList) ∧ Chg K (Dg dr lg cl) H H' ∧ DrAt H' dr lg cl)
      ⟨_, none, rfl, rfl, (fun c hc => absurd (show c ∈ ([] : List Nat) from hc) (by simp)), c12, d2⟩ ?_ ?_
    · rintro i σ H3 hi' ⟨z, v2, rfl, hz, hs, c3, d3⟩
      refine ⟨_, rfl, _, rfl, dr, lg, cl, 26, rfl, d3, by decide, by decide, fun H4 n hn c4 d4 => ?_⟩
      obtain ⟨c, hc⟩ : ∃ c, signs.cps.toList[n]? = some c := ⟨_, List.getElem?_eq_getElem (by
        rw [show signs.cps.toList.length = 26 by decide +kernel]
        omega)⟩
      refine ⟨signs, _, c, rfl, rfl, (by rw [show signs.length = 26 by decide +kernel]; exact line_of (by decide)), atI_nat hc, z, ⟨#[c]⟩, rfl, rfl, ?_, ?_⟩
      · have : z.length = i := hz
        have e : (⟨#[c]⟩ : Str).length = 1 := rfl
        rw [this, e]
        exact line_of (by omega)
      · refine ⟨_, _, rfl, ?_, ?_, c3.trans c4 fun x h => .inl h, d4⟩
        · show (z.cps ++ #[c]).size = i + 1
          rw [Array.size_append, hz]
          rfl
        · intro c' hc'
          have hc2 : c' ∈ (z.cps ++ #[c]).toList := hc'
          rw [Array.toList_append] at hc2
          rcases List.mem_append.mp hc2 with h | h
          · exact hs c' h
          · rw [List.mem_singleton.mp h]
            exact List.mem_of_getElem? hc
    · rintro σ H3 ⟨z, v2, rfl, hz, hs, c3, d3⟩
      exact ⟨_, rfl, k H3 z c3 d3 (isNm_of (by omega) (by omega) hs)⟩
def spDeed (K : PySem.W.Frag) : Sp := fun vs H Q _ => ∃ (dr lg cl a : Addr) (ws : List Int), vs = [.ref dr, .ref a] ∧ DrAt H dr lg cl ∧ Wt K H a ws ∧ ws.length ≤ 100 ∧
  ∀ (H' : Hp) (b : Addr) (dd : Deed), Chg K (Dg dr lg cl) H H' → DrAt H' dr lg cl → SqT K H' b dd.v → dd.ok → Q (.ref b) H'
theorem dg_new {H : Hp} {dr lg cl l : Addr} (d : DrAt H dr lg cl) (n : H l = none) : l ∉ Dg dr lg cl := fun h => by
  obtain ⟨_, _, _, _, x⟩ := d
  simp only [Dg, List.mem_cons, List.not_mem_nil, or_false] at h
  rcases h with rfl | rfl | rfl
  · rw [x.d] at n; cases n
  · rw [x.g] at n; cases n
  · rw [x.c] at n; cases n
theorem ok_l_deed (T : Txt K mg) : OKf P w K mg base 4 "_law_deed" ["_law_draw", "_law_word"] (spDeed K) := by
  refine T.f_l_deed.F.ok sc_l_deed (fun vs H Q E => by clear T; walk_at "k57len") (fun cdv A outer s H vs Q E hr h => ?_)
  obtain ⟨dr, lg, cl, a, ws, rfl, d, ha, hl, k⟩ := h
  refine ⟨_, PSs.nox (pss_cons (ps_set (i := 2) sc_l_deed.nd rfl (Or.inl rfl) (pe_call (ok_l_take T) (hr.mono (by decide)) rfl T.f_l_take.g T.f_l_take.F.kp T.f_l_take.b .nil pass0 (pa_cons (pv 0) (pa_cons pe_int pa_nil))))
      (pss_cons (ps_if (pt_cmpR op_lt (pv 2) pe_int (nomark _)) (pss_one (ps_ret (pe_tup (pa_cons (pe_ifExp (pt_cmpR op_lt (pv 2) pe_int (nomark _)) pe_str pe_str) (pa_cons (pe_op op_add pe_int (pe_call (ok_l_take T) (hr.mono (by decide)) rfl T.f_l_take.g T.f_l_take.F.kp T.f_l_take.b .nil pass0 (pa_cons (pv 0) (pa_cons (pe_call (ok_l_pick T) (hr.mono (by decide)) rfl T.f_l_pick.g T.f_l_pick.F.kp T.f_l_pick.b .nil pass0 (pa_cons (pv 0) (pa_cons (pe_lst (pa_cons pe_int (pa_cons pe_int (pa_cons pe_int pa_nil)))) pa_nil))) pa_nil)))) pa_nil))))) pss_nil)
      (pss_cons (ps_if (pt_cmpR op_lt (pv 2) pe_int (nomark _)) (pss_one (ps_ret (pe_ix (ixl_K (K := K)) (pe_lst (pa_cons (pe_tup (pa_cons pe_str pa_nil)) (pa_cons (pe_tup (pa_cons pe_str pa_nil)) (pa_cons (pe_tup (pa_cons pe_str pa_nil)) pa_nil)))) (pe_op op_sub (pv 2) pe_int) (fun _ _ => rfl)))) pss_nil)
      (pss_one (ps_ret (pe_tup (pa_cons pe_str (pa_cons (pe_call (ok_l_take T) (hr.mono (by decide)) rfl T.f_l_take.g T.f_l_take.F.kp T.f_l_take.b .nil pass0 (pa_cons (pv 0) (pa_cons (pe_op op_add (pe_callB (len_K (K := K)) (by rfl) T.b_len bb_len (pa_cons (pv 1) pa_nil)) pe_int) pa_nil))) pa_nil)))))))), ?_⟩
  refine ⟨_, rfl, dr, lg, cl, 10, rfl, d, by decide, by decide, fun H1 i hi c1 d1 => ?_⟩
  have ha1 := c1.seq _ _ ha
  refine ⟨_, rfl, _, _, rfl, rfl, _, rfl, ?_⟩
  refine ite2 (fun h5 => ?_) fun h5 => ?_
  · -- push, pull
    have tail : ∀ (kd : Str) (mk : Int → Deed), (∀ x, (mk x).v = [.str kd, .int x]) → (∀ x, 1 ≤ x → x ≤ 16 → (mk x).ok) → ∀ (H2 : Hp) (x : V) (j : Int) (H3 : Hp) (t : Nat), x = .int j → 0 < j → j ≤ 16 → Chg K (Dg dr lg cl) H1 H2 → (t : Int) < j → Chg K (Dg dr lg cl) H2 H3 → DrAt H3 dr lg cl →
        ([V.str kd, .int (1 + (t : Int))].length ≤ sizeLine ∧ ∀ p, H3 p = none → Q (.ref p) (upd H3 p (.tup [.str kd, .int (1 + (t : Int))]))) := by
      intro kd mk hmk hok H2 x j H3 t _ j0 j16 c2 ht c3 d3
      refine ⟨by show 2 ≤ sizeLine; decide, fun p np => ?_⟩
      have s4 := same_upd (o := HO.tup [.str kd, .int (1 + (t : Int))]) np
      refine k _ p (mk (1 + (t : Int))) ((c1.trans (c2.trans c3 fun x h => .inl h) fun x h => .inl h).then s4) (d3.same s4) (SqT.of (by rw [upd_same, hmk])) (hok _ (by omega) (by omega))
    refine ⟨_, rfl, _, _, rfl, rfl, _, rfl, ?_⟩
    have mid : ∀ x : V, x ∈ [V.int 3, .int 5, .int 16] → ∃ j : Int, x = .int j ∧ 0 < j ∧ j ≤ 16 := fun x hx => by
      simp only [List.mem_cons, List.not_mem_nil, or_false] at hx
      rcases hx with rfl | rfl | rfl <;> exact ⟨_, rfl, by decide, by decide⟩
    refine ite2 (fun h3 => ?_) fun h3 => ?_
    all_goals
      refine ⟨_, rfl, _, rfl, (by show 3 ≤ sizeLine; decide), fun l nl => ?_⟩
      have s2 := same_upd (o := HO.lst [.int 3, .int 5, .int 16]) nl
      refine ⟨dr, lg, cl, l, _, rfl, d1.same s2, SqL.of upd_same, by decide, by decide, dg_new d1 nl, fun H2 x hx c2 d2 => ?_⟩
      obtain ⟨j, rfl, j0, j16⟩ := mid x hx
      refine ⟨dr, lg, cl, j, rfl, d2, j0, by omega, fun H3 t ht c3 d3 => ?_⟩
      refine ⟨_, _, rfl, rfl, ?_⟩
    · exact tail "push" Deed.push (fun _ => rfl) (fun x a b => ⟨a, b⟩) H2 _ j H3 t rfl j0 j16 ((Chg.of s2).trans c2 fun x h => .inl h) ht c3 d3
    · exact tail "pull" Deed.pull (fun _ => rfl) (fun x a b => ⟨a, b⟩) H2 _ j H3 t rfl j0 j16 ((Chg.of s2).trans c2 fun x h => .inl h) ht c3 d3
  · have h5 : ¬ (i : Int) < 5 := fun z => h5 (decide_eq_true z)
    refine ⟨_, rfl, _, _, rfl, rfl, _, rfl, ?_⟩
    refine ite2 (fun h8 => ?_) fun h8 => ?_
    · have h8 : (i : Int) < 8 := of_decide_eq_true h8
      refine ⟨(by show 1 ≤ sizeLine; decide), fun p1 n1 => ⟨(by show 1 ≤ sizeLine; decide), fun p2 n2 => ⟨(by show 1 ≤ sizeLine; decide), fun p3 n3 => ⟨(by show 3 ≤ sizeLine; decide), fun l nl => ?_⟩⟩⟩⟩
      have s1 := same_upd (o := HO.tup [.str "drop"]) n1
      have s2 := same_upd (o := HO.tup [.str "shed"]) n2
      have s3 := same_upd (o := HO.tup [.str "about"]) n3
      have s4 := same_upd (o := HO.lst [.ref p1, .ref p2, .ref p3]) nl
      have g1 := (s2.trans (s3.trans s4)) _ _ (upd_same (H := H1) (a := p1) (o := HO.tup [.str "drop"]))
      have g2 := (s3.trans s4) _ _ (upd_same (H := upd H1 p1 (.tup [.str "drop"])) (a := p2) (o := HO.tup [.str "shed"]))
      have g3 := s4 _ _ (upd_same (H := upd (upd H1 p1 (.tup [.str "drop"])) p2 (.tup [.str "shed"])) (a := p3) (o := HO.tup [.str "about"]))
      have sa := s1.trans (s2.trans (s3.trans s4))
      have hl4 := upd_same (H := upd (upd (upd H1 p1 (.tup [.str "drop"])) p2 (.tup [.str "shed"])) p3 (.tup [.str "about"])) (a := l) (o := HO.lst [.ref p1, .ref p2, .ref p3])
      generalize upd (upd (upd (upd H1 p1 (.tup [.str "drop"])) p2 (.tup [.str "shed"])) p3 (.tup [.str "about"])) l (.lst [.ref p1, .ref p2, .ref p3]) = H4 at g1 g2 g3 sa hl4 ⊢
      have fin : ∀ (p : Addr) (dd : Deed), H4 p = some (.tup dd.v) → dd.ok → Q (.ref p) H4 := fun p dd h ho => k H4 p dd (c1.then sa) (d1.same sa) (SqT.of h) ho
      have i3 : i = 5 ∨ i = 6 ∨ i = 7 := by omega
      refine ⟨_, rfl, _, _, rfl, rfl, ?_⟩
      rcases i3 with rfl | rfl | rfl
      · exact ⟨l, _, 0, _, rfl, rfl, SqL.of hl4, rfl, fin p1 .drop g1 trivial⟩
      · exact ⟨l, _, 1, _, rfl, rfl, SqL.of hl4, rfl, fin p2 .shed g2 trivial⟩
      · exact ⟨l, _, 2, _, rfl, rfl, SqL.of hl4, rfl, fin p3 .about g3 trivial⟩
    · -- swap
      refine ⟨_, rfl, _, rfl, a, _, rfl, .inr ha1, _, _, rfl, rfl, dr, lg, cl, _, rfl, d1, by omega, by simp; omega, fun H2 t ht c2 d2 => ?_⟩
      refine ⟨by show 2 ≤ sizeLine; decide, fun p np => ?_⟩
      have s3 := same_upd (o := HO.tup [.str "swap", .int (t : Int)]) np
      exact k _ p (.swap t) ((c1.trans c2 fun x h => .inl h).then s3) (d2.same s3) (SqT.of upd_same) trivial
end
end K57
set_option Elab.async false
set_option linter.all false
set_option maxRecDepth 100000
set_option maxHeartbeats 4000000

/-! The start; a deed that can be done. -/
namespace K57
open PySem PySem.Spec PyProof.Rows L2
local macro_rules | `(tactic| walk_at "k57g") => `(tactic| repeat (first | refine ⟨_, rfl, ?_⟩ | refine ⟨_, _, rfl, rfl, ?_⟩ | refine ⟨_, _, rfl, rfl, _, rfl, ?_⟩))
local macro_rules | `(tactic| walk_at "k57len") => `(tactic| (intro h; first | (obtain ⟨e, _⟩ := h; subst e; rfl) | (obtain ⟨_, e, _⟩ := h; subst e; rfl) | (obtain ⟨_, _, e, _⟩ := h; subst e; rfl) | (obtain ⟨_, _, _, e, _⟩ := h; subst e; rfl) | (obtain ⟨_, _, _, _, e, _⟩ := h; subst e; rfl) | (obtain ⟨_, _, _, _, _, e, _⟩ := h; subst e; rfl) | (obtain ⟨_, _, _, _, _, _, e, _⟩ := h; subst e; rfl) | (obtain ⟨_, _, _, _, _, _, _, e, _⟩ := h; subst e; rfl) | (obtain ⟨_, _, _, _, _, _, _, _, e, _⟩ := h; subst e; rfl) | ((repeat (obtain ⟨_, h⟩ := h)); subst_vars; rfl)))

section
variable {P : Program} {w : World} {K : PySem.W.Frag} {mg : Str → Option Value} {base : Heap}
def spDoable (K : PySem.W.Frag) : Sp := fun vs H Q _ => ∃ (dr lg cl a : Addr) (ws : List Int), vs = [.ref dr, .ref a] ∧ DrAt H dr lg cl ∧ Wt K H a ws ∧ Lw ws ∧
  ∀ (H' : Hp) (b : Addr) (dd : Deed) (ws' : List Int), Chg K (Dg dr lg cl) H H' → DrAt H' dr lg cl → SqT K H' b dd.v → dd.ok → after ws dd = some ws' → Q (.ref b) H'
theorem ok_l_doable (T : Txt K mg) : OKf P w K mg base 5 "_law_doable" ["_law_draw", "_law_word"] (spDoable K) := by
  refine T.f_l_doable.F.ok sc_l_doable (fun vs H Q E => by clear T; walk_at "k57len") (fun cdv A outer s H vs Q E hr h => ?_)
  obtain ⟨dr, lg, cl, a, ws, rfl, d, ha, hl, k⟩ := h
  refine ⟨_, PSs.nox (pss_cons (ps_for PassesOwn.never rfl (pi_range1 (by rfl) T.b_range (pa_cons pe_int pa_nil)) (pg_name (i := 2) sc_l_doable.nd rfl (Or.inl rfl)) (pss_cons (ps_set (i := 3) sc_l_doable.nd rfl (Or.inl rfl) (pe_call (ok_l_deed T) (hr.mono (by decide)) rfl T.f_l_deed.g T.f_l_deed.F.kp T.f_l_deed.b .nil pass0 (pa_cons (pv 0) (pa_cons (pv 1) pa_nil))))
      (pss_one (ps_if (pt_cmpR op_notN (pe_call (ok_l_word_on T) (hr.mono (by decide)) rfl T.f_l_word_on.g T.f_l_word_on.F.kp T.f_l_word_on.b .nil pass0 (pa_cons (pv 1) (pa_cons (pv 3) pa_nil))) pe_non (nomark _)) (pss_one (ps_ret (pv 3))) pss_nil))))
      (pss_one (ps_ret (pe_tup (pa_cons pe_str pa_nil))))), ?_⟩
  refine ⟨_, rfl, by decide, by decide, ?_⟩
  refine for_range (lo := 0) (n := 6) (fun i σ H' => ∃ (v2 v3 : Option V), σ = [some (.ref dr), some (.ref a), v2, v3] ∧ Chg K (Dg dr lg cl) H H' ∧ DrAt H' dr lg cl)
    ⟨none, none, rfl, .refl _ _, d⟩ ?_ ?_
  · rintro i σ H1 hi ⟨v2, v3, rfl, c1, d1⟩
    have ha1 := c1.seq _ _ ha
    refine ⟨_, rfl, _, rfl, dr, lg, cl, a, ws, rfl, d1, ha1, by have := hl.len; omega, fun H2 b dd c2 d2 hb ho => ?_⟩
    have c12 := c1.trans c2 fun x h => .inl h
    refine ⟨_, rfl, _, rfl, a, b, ws, dd, rfl, c2.seq _ _ ha1, hl, hb, ?_⟩
    cases e : after ws dd with
    | none =>
      intro H3 s3
      refine ⟨rfl, _, rfl, ?_⟩
      refine iteF ?_
      exact ⟨_, _, rfl, c12.then s3, d2.same s3⟩
    | some ws' =>
      intro p H3 s3 h3
      refine ⟨rfl, _, rfl, ?_⟩
      refine iteT ?_
      exact ⟨_, rfl, k H3 b dd ws' (c12.then s3) (d2.same s3) (sameT s3 hb) ho e⟩
  · rintro σ H1 ⟨v2, v3, rfl, c1, d1⟩
    refine ⟨by show 1 ≤ sizeLine; decide, fun p np => ?_⟩
    have s2 := same_upd (o := HO.tup [.str "about"]) np
    exact k _ p .about _ (c1.then s2) (d1.same s2) (SqT.of upd_same) trivial rfl
def spBegun (K : PySem.W.Frag) : Sp := fun vs H Q _ => ∃ (a : Addr) (ns : List Int), vs = [.ref a] ∧ SqL K H a (ns.map V.int) ∧ ns.length ≤ 1000000 ∧
  ∀ (H' : Hp) (dr lg cl : Addr), Same H H' → H dr = none → H lg = none → H cl = none → DrAt H' dr lg cl → Q (.ref dr) H'
theorem ok_l_begun (T : Txt K mg) : OKf P w K mg base 1 "_law_begun" ["_law_script"] (spBegun K) := by
  refine T.f_l_begun.F.ok sc_l_begun (fun vs H Q E => by clear T; walk_at "k57len") (fun cdv A outer s H vs Q E hr h => ?_)
  obtain ⟨a, ns, rfl, ha, hn, k⟩ := h
  refine ⟨_, PSs.nox (pss_cons (ps_setLc (i := 1) (own := [("_law_grain", 2)]) (g := gName 2) (by rfl) sc_l_begun.nd rfl rfl (sw_true rfl rfl rfl (by decide +kernel)) (pil_K (K := K) (pv 0)) (blkOk_by (N := ["_law_script", "_law_large", "_law_grain"]) (sc := defScope s_l_begun) (by decide +kernel)) (fun _ _ _ _ _ => pg_name (i := 2) sc_l_begun.nd rfl (Or.inl rfl)) (fun _ _ _ _ _ => pts_one (pt_cmpR op_ge (pe_callB call_abs (by rfl) T.b_abs bb_abs (pa_cons (pv 2) pa_nil)) (pe_op op_pow pe_int pe_int) (nomark _))) (fun _ _ _ _ _ => (pe_op op_sub (pe_callB call_abs (by rfl) T.b_abs bb_abs (pa_cons (pv 2) pa_nil)) (pe_op op_pow pe_int pe_int))))
      (pss_one (ps_ret (pe_disp (pps_cons pe_str (pv 1) (pps_cons pe_str pe_int (pps_cons pe_str (pe_lc (own := [("_law_grain", 2)]) (g := gName 2) (by rfl) sc_l_begun.nd (pil_K (K := K) (pv 0)) (blkOk_by (N := ["_law_script", "_law_large", "_law_grain"]) (sc := defScope s_l_begun) (by decide +kernel)) (fun _ _ _ _ _ => pg_name (i := 2) sc_l_begun.nd rfl (Or.inl rfl)) (fun _ _ _ _ _ => pts_nil) (fun _ _ _ _ _ => (pe_callB call_abs (by rfl) T.b_abs bb_abs (pa_cons (pv 2) pa_nil)))) (pps_cons pe_str pe_int pps_nil)))) rfl rfl (by simp) (by decide))))), ?_⟩
  refine ⟨_, rfl, a, rfl, ⟨_, ha⟩, fun M nM => ?_⟩
  refine lcf (walk_list (K := K) (a := a) (xs := ns.map V.int)) (by simp; omega) nM (fun i => decide ((10 : Int) ^ 18 ≤ (if ns.getD i 0 < 0 then - ns.getD i 0 else ns.getD i 0))) (fun i => V.int ((if ns.getD i 0 < 0 then - ns.getD i 0 else ns.getD i 0) - 10 ^ 18)) (fun H s => s.seq ha) yAt_same (fun i x H1 H1' N M' hi s1 hy hN hM => ?_) (fun H1 s1 e => ?_)
  · obtain ⟨rfl, hx⟩ := hy
    obtain ⟨z, hz, rfl⟩ := map_some hx
    have ez : ns.getD i 0 = z := by simp only [List.getD, hz, Option.getD_some]
    rw [ez] at hN hM
    refine ⟨rfl, _, rfl, z, rfl, _, _, rfl, rfl, ⟨by decide, by decide, by decide⟩, _, _, rfl, rfl, _, rfl, ?_⟩
    by_cases c : (10 : Int) ^ 18 ≤ (if z < 0 then -z else z)
    · rw [decide_eq_true (show (10 : Int) ^ (18 : Int).toNat ≤ (if z < 0 then -z else z) from c)]
      refine iteT ⟨_, rfl, z, rfl, _, _, rfl, rfl, ⟨by decide, by decide, by decide⟩, _, _, rfl, rfl, ?_⟩
      exact hN _ (decide_eq_true c) (Same.refl _)
    · rw [decide_eq_false (show ¬ (10 : Int) ^ (18 : Int).toNat ≤ (if z < 0 then -z else z) from c)]
      exact iteF (hM _ (decide_eq_false c) (Same.refl _))
  · -- the dict
    refine fun p np => ?_
    have s2 := same_upd (o := HO.dK []) np
    have s12 := s1.trans s2
    have e2 := s2 _ _ e
    have hp2 := upd_same (H := H1) (a := p) (o := HO.dK [])
    have pn : H p = none := s1.free np
    have pM : p ≠ M := (ne_of_none e np).symm
    generalize upd H1 p (.dK []) = H2 at s2 s12 e2 hp2 ⊢
    refine ⟨_, rfl, _, rfl, a, rfl, ⟨_, s12.seq ha⟩, fun C nC => ?_⟩
    refine lcm (walk_list (K := K) (a := a) (xs := ns.map V.int)) (by simp; omega) nC (fun i => V.int (if ns.getD i 0 < 0 then - ns.getD i 0 else ns.getD i 0)) (fun H s => s.seq (s12.seq ha)) yAt_same (fun i x H3 H3' N' hi s3 hy hN => ?_) (fun H3 s3 e3 => ?_)
    · obtain ⟨rfl, hx⟩ := hy
      obtain ⟨z, hz, rfl⟩ := map_some hx
      have ez : ns.getD i 0 = z := by simp only [List.getD, hz, Option.getD_some]
      have q := hN _ (Same.refl _)
      rw [ez] at q
      exact ⟨rfl, _, rfl, z, rfl, q⟩
    · have hp3 := s3 _ _ hp2
      have eM := s3 _ _ e2
      rw [List.length_map, range_map ns 0 (fun x => V.int (if x < 0 then - x else x))] at e3
      have CM : C ≠ M := (ne_of_none e2 nC).symm
      have Cp : C ≠ p := (ne_of_none hp2 nC).symm
      refine ⟨hp3, [(.inr "large", .ref M), (.inr "rest", .int 0), (.inr "cells", .ref C), (.inr "turn", .int 0)], rfl, (by show 4 ≤ 15; decide), ?_⟩
      show Q (.ref p) (upd H3 p (.dK (drK M C 0 0)))
      refine k _ p M C (same_new (s12.trans s3) pn) pn nM (s12.free nC) ⟨(((List.range (ns.map V.int).length).filter fun i => decide ((10 : Int) ^ 18 ≤ (if ns.getD i 0 < 0 then - ns.getD i 0 else ns.getD i 0))).map fun i => (if ns.getD i 0 < 0 then - ns.getD i 0 else ns.getD i 0) - 10 ^ 18), ns.map (fun x => if x < 0 then - x else x), 0, 0, upd_same, ?_, ?_, Int.le_refl _, ?_, pM, Cp.symm, CM.symm⟩
      · rw [upd_ne pM.symm, eM, List.map_map]
        rfl
      · rw [upd_ne Cp, e3, List.map_map]
        rfl
      · intro x hx
        obtain ⟨i, hi, rfl⟩ := List.mem_map.mp hx
        have := of_decide_eq_true (List.mem_filter.mp hi).2
        omega
end
end K57
set_option Elab.async false
set_option linter.all false
set_option maxRecDepth 100000
set_option maxHeartbeats 4000000

/-! How watched numbers change by a deed. -/
namespace K57
open PySem PySem.Spec PyProof.Rows L2
local macro_rules | `(tactic| walk_at "k57g") => `(tactic| repeat (first | refine ⟨_, rfl, ?_⟩ | refine ⟨_, _, rfl, rfl, ?_⟩ | refine ⟨_, _, rfl, rfl, _, rfl, ?_⟩))
local macro_rules | `(tactic| walk_at "k57len") => `(tactic| (intro h; first | (obtain ⟨e, _⟩ := h; subst e; rfl) | (obtain ⟨_, e, _⟩ := h; subst e; rfl) | (obtain ⟨_, _, e, _⟩ := h; subst e; rfl) | (obtain ⟨_, _, _, e, _⟩ := h; subst e; rfl) | (obtain ⟨_, _, _, _, e, _⟩ := h; subst e; rfl) | (obtain ⟨_, _, _, _, _, e, _⟩ := h; subst e; rfl) | (obtain ⟨_, _, _, _, _, _, e, _⟩ := h; subst e; rfl) | (obtain ⟨_, _, _, _, _, _, _, e, _⟩ := h; subst e; rfl) | (obtain ⟨_, _, _, _, _, _, _, _, e, _⟩ := h; subst e; rfl) | ((repeat (obtain ⟨_, h⟩ := h)); subst_vars; rfl)))

/-- what a deed changes -/
def difOk (d : Deed) (m m' : Nat) : Prop := match d with
  | .push _ | .pull _ => m' = m ∨ m' = m + 1
  | .drop | .shed => m' = m ∨ m = m' + 1
  | .about | .swap _ => m' = m
theorem dif_of {w w' : List Int} {d : Deed} (h : after w d = some w') (k : Nat) : difOk d (shp k (Ln w)) (shp k (Ln w')) := by
  cases d with
  | push x =>
    simp only [after] at h
    split at h
    · cases h
      have := shp_more k w [] x
      simp only [List.append_nil] at this
      show _ ∨ _
      omega
    · cases h
  | pull x =>
    simp only [after] at h
    split at h
    · cases h
      have := shp_more k [] w x
      simp only [List.nil_append, List.singleton_append] at this
      show _ ∨ _
      omega
    · cases h
  | drop =>
    simp only [after] at h
    split at h
    · cases h
    · rename_i hn
      cases h
      have e := List.dropLast_concat_getLast hn
      have := shp_more k w.dropLast [] (w.getLast hn)
      simp only [List.append_nil] at this
      rw [e] at this
      show _ ∨ _
      omega
  | shed =>
    simp only [after] at h
    split at h
    · cases h
    · rename_i hn
      cases h
      obtain ⟨x, t, rfl⟩ := List.exists_cons_of_ne_nil hn
      have := shp_more k [] t x
      simp only [List.nil_append, List.singleton_append] at this
      show _ ∨ _
      simp only [List.tail_cons]
      omega
  | about => cases h; exact shp_about k w
  | swap i =>
    obtain ⟨a, b, c, s, e1, e2, e3, _⟩ := el_some h
    show shp k (Ln w') = shp k (Ln w)
    rw [e3, P_el _ _ e2, ← e1]
theorem swap_ln {w w' : List Int} {i : Nat} (h : after w (.swap i) = some w') : Ln w' = Ln w := by
  obtain ⟨a, b, c, s, e1, e2, e3, _⟩ := el_some h
  rw [e3, P_el _ _ e2, ← e1]
theorem DT.get {K : PySem.W.Frag} {H : Hp} {kvs : List (Key × V)} {E : List Due} (h : DT K H kvs E) (nd : (E.map (·.1)).Nodup) {e : Due} (he : e ∈ E) : ∃ q, valV kvs (.inr e.1) = some (.ref q) ∧ SqT K H q [.int (e.2.1 : Int), .int (e.2.2 : Int)] := by
  induction h with
  | nil => simp at he
  | @cons kv e0 kvs' E' h0 t ih =>
    obtain ⟨kk, vv⟩ := kv
    obtain ⟨h1, q, h2, h3⟩ := h0
    simp only at h1 h2
    subst h1 h2
    rw [List.map_cons, List.nodup_cons] at nd
    rcases List.mem_cons.mp he with rfl | h'
    · exact ⟨q, by simp [valV], h3⟩
    · obtain ⟨q', g1, g2⟩ := ih nd.2 h'
      refine ⟨q', ?_, g2⟩
      have : e0.1 ≠ e.1 := fun z => nd.1 (z ▸ List.mem_map_of_mem h')
      simp only [valV] at g1 ⊢
      rw [List.find?_cons, show (decide ((Sum.inr e0.1 : Key) = Sum.inr e.1)) = false from decide_eq_false fun z => this (Sum.inr.inj z)]
      exact g1
theorem names_id (w : List Int) (D : Dc) (ss : List Str) : ss.map (Prod.fst ∘ dueOf w D) = ss := by
  induction ss with
  | nil => rfl
  | cons a t ih => rw [List.map_cons, ih]; rfl
theorem Paired.atL {α β : Type} {F : α → β → Prop} : ∀ {l : List α} {m : List β}, Paired F l m → ∀ {i : Nat} {x : α}, l[i]? = some x → ∃ y, m[i]? = some y ∧ F x y
  | _, _, .nil, i, x, h => by simp at h
  | _, _, .cons h t, 0, x, e => by cases e; exact ⟨_, rfl, h⟩
  | _, _, .cons h t, i + 1, x, e => Paired.atL t (i := i) (by simpa using e)
theorem no01 {m m' : Nat} (h : m' = m ∨ m' = m + 1) : (!inV (.int ((m' : Int) - (m : Int))) [.int 0, .int 1]) = false := by
  rcases h with h | h
  · rw [h, show (m : Int) - (m : Int) = 0 by omega]; rfl
  · rw [h, show ((m + 1 : Nat) : Int) - (m : Int) = 1 by omega]; rfl
theorem no0m {m m' : Nat} (h : m' = m ∨ m = m' + 1) : (!inV (.int ((m' : Int) - (m : Int))) [.int 0, .int (-1)]) = false := by
  rcases h with h | h
  · rw [h, show (m : Int) - (m : Int) = 0 by omega]; rfl
  · rw [h, show (m' : Int) - ((m' + 1 : Nat) : Int) = -1 by omega]; rfl
theorem no0 {m m' : Nat} (h : m' = m) : (!decide (V.int ((m' : Int) - (m : Int)) = V.int 0)) = false := by
  rw [h, show (m : Int) - (m : Int) = 0 by omega]; rfl
theorem iteF' {p q : Prop} {b : Bool} (e : b = false) (h : q) : if b = true then p else q := by subst e; exact h
section
variable {P : Program} {w : World} {K : PySem.W.Frag} {mg : Str → Option Value} {base : Heap}
def spChanges (K : PySem.W.Frag) : Sp := fun vs H Q _ => ∃ (b o f x y : Addr) (d : Deed) (ko kf : List (Key × V)) (w w' : List Int) (D : Dc) (ss ts : List Str), vs = [.ref b, .ref o, .ref f, .ref x, .ref y] ∧ SqT K H b d.v ∧
  H o = some (.dK ko) ∧ H f = some (.dK kf) ∧ o ≠ f ∧ DT K H ko (ss.map (dueOf w D)) ∧ DT K H kf (ts.map (dueOf w' D)) ∧ ss.Nodup ∧ ts.Nodup ∧ (∀ n ∈ ss, n ∈ ts) ∧ Rt K H x (Ln w) ∧ Rt K H y (Ln w') ∧ after w d = some w' ∧
  ∀ H', Same H H' → Q (.bl true) H'
theorem ok_l_changes_right (T : Txt K mg) : OKf P w K mg base 1 "_law_changes_right" ["_law_deed_here", "_law_old", "_law_fresh", "_law_first", "_law_last"] (spChanges K) := by
  refine T.f_l_changes_right.F.ok sc_l_changes_right (fun vs H Q E => by clear T; walk_at "k57len") (fun cdv A outer s H vs Q E hr h => ?_)
  obtain ⟨b, o, f, x, y, d, ko, kf, w, w', D, ss, ts, rfl, hb, ho, hf, nof, hko, hkf, nds, ndt, sub, hx, hy, haf, k⟩ := h
  refine ⟨_, PSs.nox (pss_cons (ps_lock (ps_for PassesOwn.never rfl (pi_keys (pv 1)) (pg_name (i := 5) sc_l_changes_right.nd rfl (Or.inl rfl)) (pss_cons (ps_set (i := 6) sc_l_changes_right.nd rfl (Or.inl rfl) (pe_op op_sub (pe_ix (ixt_K (K := K)) (pe_dget (u1 hr.units) (pv 2) (pv 5) (fun _ _ => rfl)) pe_int (fun _ _ => rfl)) (pe_ix (ixt_K (K := K)) (pe_dget (u1 hr.units) (pv 1) (pv 5) (fun _ _ => rfl)) pe_int (fun _ _ => rfl))))
      (pss_cons (ps_if (PW.pt (pw_or (PW.pt (pw_and (pt_cmpR (in_K (K := K)) (pe_ix (ixt_K (K := K)) (pv 0) pe_int (fun _ _ => rfl)) (pe_tup (pa_cons pe_str (pa_cons pe_str pa_nil))) (by rfl)) (pw_and1 (pt_cmpR (notIn_K (K := K)) (pv 6) (pe_tup (pa_cons pe_int (pa_cons pe_int pa_nil))) (by rfl))))) (pw_or1 (PW.pt (pw_and (pt_cmpR (in_K (K := K)) (pe_ix (ixt_K (K := K)) (pv 0) pe_int (fun _ _ => rfl)) (pe_tup (pa_cons pe_str (pa_cons pe_str pa_nil))) (by rfl)) (pw_and1 (pt_cmpR (notIn_K (K := K)) (pv 6) (pe_tup (pa_cons pe_int (pa_cons (pe_un un_neg pe_int) pa_nil))) (by rfl)))))))) (pss_one (ps_ret pe_bl)) pss_nil)
      (pss_one (ps_if (PW.pt (pw_and (pt_cmpR (in_K (K := K)) (pe_ix (ixt_K (K := K)) (pv 0) pe_int (fun _ _ => rfl)) (pe_tup (pa_cons pe_str (pa_cons pe_str pa_nil))) (by rfl)) (pw_and1 (pt_cmpR op_ne (pv 6) pe_int (nomark _))))) (pss_one (ps_ret pe_bl)) pss_nil))))))
      (pss_one (ps_ret (pe_or (pe_cmpR op_ne (pe_ix (ixt_K (K := K)) (pv 0) pe_int (fun _ _ => rfl)) pe_str (nomark _)) (pe_one (pe_cmpR (eqD_K (K := K) hr.units) (pv 3) (pv 4) (nomark _))))))), ?_⟩
  have at0 : ∀ {v : V} {r : List V}, d.v = v :: r → atI d.v 0 = some v := fun e => by rw [e]; exact atI_nat (j := 0) rfl
  refine ⟨o, _, ho, trivial, fun od => ?_⟩
  have lk : ∀ a xs, SqT K H a xs → SqT K (upd H o (.frz od (.dK ko))) a xs := fun a xs h => by
    rcases h with (h | ⟨ob, h⟩) | h
    · refine .inl (.inl ?_); rw [upd_ne]; · exact h
      intro z; subst z; rw [ho] at h; cases h
    · refine .inl (.inr ⟨ob, ?_⟩); rw [upd_ne]; · exact h
      intro z; subst z; rw [ho] at h; cases h
    · exact .inr h
  have hbF := lk _ _ hb
  have hkoF := hko.seq lk
  have hkfF := hkf.seq lk
  have hoF : upd H o (.frz od (.dK ko)) o = some (.frz od (.dK ko)) := upd_same
  have hfF : upd H o (.frz od (.dK ko)) f = some (.dK kf) := by rw [upd_ne nof.symm]; exact hf
  have back : ∀ H', Same (upd H o (.frz od (.dK ko))) H' → Same H (upd H' o (.dK ko)) := fun H' s b u e => by
    by_cases z : b = o
    · subst z; rw [ho] at e; cases e; exact upd_same
    · rw [upd_ne z]; exact s _ _ (by rw [upd_ne z]; exact e)
  generalize upd H o (.frz od (.dK ko)) = HF at hbF hkoF hkfF hoF hfF back ⊢
  refine ⟨_, rfl, o, od, rfl, .inl ⟨ko, hoF, ?_⟩⟩
  refine for_it walk_keys (fun i σ H' => ∃ (v5 v6 : Option V), σ = [some (.ref b), some (.ref o), some (.ref f), some (.ref x), some (.ref y), v5, v6] ∧ Same HF H') ⟨none, none, rfl, Same.refl _⟩ ?_ ?_ ?_
  · rintro i σ H1 _ ⟨v5, v6, rfl, s1⟩
    exact s1 _ _ hoF
  · rintro i n σ H1 H1' hi ⟨v5, v6, rfl, s1⟩ ⟨rfl, key, v, hkv, rfl⟩
    obtain ⟨n, q, hn, hvo, hqo, qf, hvf, hqf⟩ : ∃ (n : Str) (q : Addr), key = .inr n ∧ valV ko (.inr n) = some (.ref q) ∧ SqT K HF q [.int ((dv D n : Nat) : Int), .int ((shp (dv D n) (Ln w) : Nat) : Int)] ∧
        ∃ (qf : Addr), valV kf (.inr n) = some (.ref qf) ∧ SqT K HF qf [.int ((dv D n : Nat) : Int), .int ((shp (dv D n) (Ln w') : Nat) : Int)] := by
      obtain ⟨e, he, hk1, _⟩ := Paired.atL hkoF hkv
      obtain ⟨n, hn, rfl⟩ := map_some he
      have hm := List.mem_of_getElem? hn
      obtain ⟨q1, g1, g2⟩ := hkoF.get (by rw [List.map_map]; show (ss.map (Prod.fst ∘ dueOf w D)).Nodup; rw [names_id]; exact nds) (List.mem_map_of_mem (f := dueOf w D) hm)
      obtain ⟨q2, g3, g4⟩ := hkfF.get (by rw [List.map_map]; show (ts.map (Prod.fst ∘ dueOf w' D)).Nodup; rw [names_id]; exact ndt) (List.mem_map_of_mem (f := dueOf w' D) (sub n hm))
      exact ⟨n, q1, hk1, g1, g2, q2, g3, g4⟩
    subst hn
    have hdif := dif_of haf (dv D n)
    have hb1 := sameT s1 hbF
    refine ⟨_, rfl, _, rfl, f, .ref qf, rfl, .inl ⟨kf, .inr n, .inl (s1 _ _ hfF), rfl, hvf.symm⟩, qf, _, _, _, rfl, rfl, sameT s1 hqf, atI_nat (j := 1) rfl, ?_⟩
    refine ⟨_, rfl, _, rfl, o, .ref q, rfl, .inl ⟨ko, .inr n, .inr ⟨od, s1 _ _ hoF⟩, rfl, hvo.symm⟩, q, _, _, _, rfl, rfl, sameT s1 hqo, atI_nat (j := 1) rfl, ?_⟩
    refine ⟨_, _, rfl, rfl, ?_⟩
    have hs : ∃ x r, d.v = .str x :: r := by cases d <;> exact ⟨_, _, rfl⟩
    obtain ⟨sx, r, ex⟩ := hs
    refine ⟨_, rfl, b, _, _, _, rfl, rfl, hb1, at0 ex, (by show 2 ≤ sizeLine; decide), fun u nu => ?_⟩
    have s2 := s1.trans (same_upd (o := HO.tup [.str "push", .str "pull"]) nu)
    refine ⟨_, _, rfl, .inr (SqT.of upd_same), rfl, rfl, _, rfl, ?_⟩
    generalize upd H1' u (.tup [.str "push", .str "pull"]) = H2 at s2 ⊢
    -- the tests
    have hb2 := sameT s2 hbF
    cases d with
    | push c =>
      cases ex
      refine iteT ?_
      refine ⟨_, rfl, (by show 2 ≤ sizeLine; decide), fun u2 nu2 => ⟨_, _, rfl, .inr (SqT.of upd_same), rfl, rfl, _, rfl, ?_⟩⟩
      have s3 := s2.trans (same_upd (o := HO.tup [.int 0, .int 1]) nu2)
      have e : (!inV (.int (((shp (dv D n) (Ln w') : Nat) : Int) - ((shp (dv D n) (Ln w) : Nat) : Int))) [.int 0, .int 1]) = false := no01 hdif
      generalize upd H2 u2 (.tup [.int 0, .int 1]) = H3 at s3 ⊢
      refine iteF' e ?_
      have hb3 := sameT s3 hbF
      refine ⟨_, rfl, b, _, _, _, rfl, rfl, hb3, at0 rfl, (by show 2 ≤ sizeLine; decide), fun u nu => ?_⟩
      have s4 := s3.trans (same_upd (o := HO.tup [.str "drop", .str "shed"]) nu)
      refine ⟨_, _, rfl, .inr (SqT.of upd_same), rfl, rfl, _, rfl, ?_⟩
      generalize upd H3 u (.tup [.str "drop", .str "shed"]) = H4 at s4 ⊢
      refine iteF ?_
      have hb4 := sameT s4 hbF
      refine ⟨_, rfl, b, _, _, _, rfl, rfl, hb4, at0 rfl, (by show 2 ≤ sizeLine; decide), fun u nu => ?_⟩
      have s5 := s4.trans (same_upd (o := HO.tup [.str "about", .str "swap"]) nu)
      refine ⟨_, _, rfl, .inr (SqT.of upd_same), rfl, rfl, _, rfl, ?_⟩
      refine iteF ?_
      exact ⟨_, _, rfl, s5⟩
    | pull c =>
      cases ex
      refine iteT ?_
      refine ⟨_, rfl, (by show 2 ≤ sizeLine; decide), fun u2 nu2 => ⟨_, _, rfl, .inr (SqT.of upd_same), rfl, rfl, _, rfl, ?_⟩⟩
      have s3 := s2.trans (same_upd (o := HO.tup [.int 0, .int 1]) nu2)
      have e : (!inV (.int (((shp (dv D n) (Ln w') : Nat) : Int) - ((shp (dv D n) (Ln w) : Nat) : Int))) [.int 0, .int 1]) = false := no01 hdif
      generalize upd H2 u2 (.tup [.int 0, .int 1]) = H3 at s3 ⊢
      refine iteF' e ?_
      have hb3 := sameT s3 hbF
      refine ⟨_, rfl, b, _, _, _, rfl, rfl, hb3, at0 rfl, (by show 2 ≤ sizeLine; decide), fun u nu => ?_⟩
      have s4 := s3.trans (same_upd (o := HO.tup [.str "drop", .str "shed"]) nu)
      refine ⟨_, _, rfl, .inr (SqT.of upd_same), rfl, rfl, _, rfl, ?_⟩
      generalize upd H3 u (.tup [.str "drop", .str "shed"]) = H4 at s4 ⊢
      refine iteF ?_
      have hb4 := sameT s4 hbF
      refine ⟨_, rfl, b, _, _, _, rfl, rfl, hb4, at0 rfl, (by show 2 ≤ sizeLine; decide), fun u nu => ?_⟩
      have s5 := s4.trans (same_upd (o := HO.tup [.str "about", .str "swap"]) nu)
      refine ⟨_, _, rfl, .inr (SqT.of upd_same), rfl, rfl, _, rfl, ?_⟩
      refine iteF ?_
      exact ⟨_, _, rfl, s5⟩
    | drop =>
      cases ex
      refine iteF ?_
      refine ⟨_, rfl, b, _, _, _, rfl, rfl, hb2, at0 rfl, (by show 2 ≤ sizeLine; decide), fun u nu => ?_⟩
      have s4 := s2.trans (same_upd (o := HO.tup [.str "drop", .str "shed"]) nu)
      refine ⟨_, _, rfl, .inr (SqT.of upd_same), rfl, rfl, _, rfl, ?_⟩
      generalize upd H2 u (.tup [.str "drop", .str "shed"]) = H4 at s4 ⊢
      have hb4 := sameT s4 hbF
      refine iteT ?_
      refine ⟨_, rfl, _, rfl, (by show 2 ≤ sizeLine; decide), fun u2 nu2 => ⟨_, _, rfl, .inr (SqT.of upd_same), rfl, rfl, _, rfl, ?_⟩⟩
      have s3 := s4.trans (same_upd (o := HO.tup [.int 0, .int (-1)]) nu2)
      have e : (!inV (.int (((shp (dv D n) (Ln w') : Nat) : Int) - ((shp (dv D n) (Ln w) : Nat) : Int))) [.int 0, .int (-1)]) = false := no0m hdif
      generalize upd H4 u2 (.tup [.int 0, .int (-1)]) = H3 at s3 ⊢
      refine iteF' e ?_
      have hb3 := sameT s3 hbF
      refine ⟨_, rfl, b, _, _, _, rfl, rfl, hb3, at0 rfl, (by show 2 ≤ sizeLine; decide), fun u nu => ?_⟩
      have s5 := s3.trans (same_upd (o := HO.tup [.str "about", .str "swap"]) nu)
      refine ⟨_, _, rfl, .inr (SqT.of upd_same), rfl, rfl, _, rfl, ?_⟩
      refine iteF ?_
      exact ⟨_, _, rfl, s5⟩
    | shed =>
      cases ex
      refine iteF ?_
      refine ⟨_, rfl, b, _, _, _, rfl, rfl, hb2, at0 rfl, (by show 2 ≤ sizeLine; decide), fun u nu => ?_⟩
      have s4 := s2.trans (same_upd (o := HO.tup [.str "drop", .str "shed"]) nu)
      refine ⟨_, _, rfl, .inr (SqT.of upd_same), rfl, rfl, _, rfl, ?_⟩
      generalize upd H2 u (.tup [.str "drop", .str "shed"]) = H4 at s4 ⊢
      have hb4 := sameT s4 hbF
      refine iteT ?_
      refine ⟨_, rfl, _, rfl, (by show 2 ≤ sizeLine; decide), fun u2 nu2 => ⟨_, _, rfl, .inr (SqT.of upd_same), rfl, rfl, _, rfl, ?_⟩⟩
      have s3 := s4.trans (same_upd (o := HO.tup [.int 0, .int (-1)]) nu2)
      have e : (!inV (.int (((shp (dv D n) (Ln w') : Nat) : Int) - ((shp (dv D n) (Ln w) : Nat) : Int))) [.int 0, .int (-1)]) = false := no0m hdif
      generalize upd H4 u2 (.tup [.int 0, .int (-1)]) = H3 at s3 ⊢
      refine iteF' e ?_
      have hb3 := sameT s3 hbF
      refine ⟨_, rfl, b, _, _, _, rfl, rfl, hb3, at0 rfl, (by show 2 ≤ sizeLine; decide), fun u nu => ?_⟩
      have s5 := s3.trans (same_upd (o := HO.tup [.str "about", .str "swap"]) nu)
      refine ⟨_, _, rfl, .inr (SqT.of upd_same), rfl, rfl, _, rfl, ?_⟩
      refine iteF ?_
      exact ⟨_, _, rfl, s5⟩
    | about =>
      cases ex
      refine iteF ?_
      refine ⟨_, rfl, b, _, _, _, rfl, rfl, hb2, at0 rfl, (by show 2 ≤ sizeLine; decide), fun u nu => ?_⟩
      have s4 := s2.trans (same_upd (o := HO.tup [.str "drop", .str "shed"]) nu)
      refine ⟨_, _, rfl, .inr (SqT.of upd_same), rfl, rfl, _, rfl, ?_⟩
      generalize upd H2 u (.tup [.str "drop", .str "shed"]) = H4 at s4 ⊢
      have hb4 := sameT s4 hbF
      refine iteF ?_
      refine ⟨_, rfl, b, _, _, _, rfl, rfl, hb4, at0 rfl, (by show 2 ≤ sizeLine; decide), fun u nu => ?_⟩
      have s5 := s4.trans (same_upd (o := HO.tup [.str "about", .str "swap"]) nu)
      refine ⟨_, _, rfl, .inr (SqT.of upd_same), rfl, rfl, _, rfl, ?_⟩
      generalize upd H4 u (.tup [.str "about", .str "swap"]) = H5 at s5 ⊢
      refine iteT ?_
      have e : (!decide (V.int (((shp (dv D n) (Ln w') : Nat) : Int) - ((shp (dv D n) (Ln w) : Nat) : Int)) = V.int 0)) = false := no0 hdif
      refine ⟨_, rfl, rfl, _, rfl, ?_⟩
      refine iteF' e ?_
      exact ⟨_, _, rfl, s5⟩
    | swap j =>
      cases ex
      refine iteF ?_
      refine ⟨_, rfl, b, _, _, _, rfl, rfl, hb2, at0 rfl, (by show 2 ≤ sizeLine; decide), fun u nu => ?_⟩
      have s4 := s2.trans (same_upd (o := HO.tup [.str "drop", .str "shed"]) nu)
      refine ⟨_, _, rfl, .inr (SqT.of upd_same), rfl, rfl, _, rfl, ?_⟩
      generalize upd H2 u (.tup [.str "drop", .str "shed"]) = H4 at s4 ⊢
      have hb4 := sameT s4 hbF
      refine iteF ?_
      refine ⟨_, rfl, b, _, _, _, rfl, rfl, hb4, at0 rfl, (by show 2 ≤ sizeLine; decide), fun u nu => ?_⟩
      have s5 := s4.trans (same_upd (o := HO.tup [.str "about", .str "swap"]) nu)
      refine ⟨_, _, rfl, .inr (SqT.of upd_same), rfl, rfl, _, rfl, ?_⟩
      generalize upd H4 u (.tup [.str "about", .str "swap"]) = H5 at s5 ⊢
      refine iteT ?_
      have e : (!decide (V.int (((shp (dv D n) (Ln w') : Nat) : Int) - ((shp (dv D n) (Ln w) : Nat) : Int)) = V.int 0)) = false := no0 hdif
      refine ⟨_, rfl, rfl, _, rfl, ?_⟩
      refine iteF' e ?_
      exact ⟨_, _, rfl, s5⟩
  · rintro σ H1 ⟨v5, v6, rfl, s1⟩
    refine ⟨s1 _ _ hoF, ?_⟩
    have b1 := back _ s1
    generalize upd H1 o (.dK ko) = H2 at b1 ⊢
    have hb2 := sameT b1 hb
    have hs : ∃ x r, d.v = .str x :: r := by cases d <;> exact ⟨_, _, rfl⟩
    obtain ⟨sx, r, ex⟩ := hs
    refine ⟨_, rfl, b, _, _, _, rfl, rfl, hb2, at0 ex, rfl, ?_⟩
    cases d with
    | swap j =>
      cases ex
      refine ⟨_, rfl, ?_⟩
      refine iteF ?_
      refine ⟨_, rfl, _, rfl, _, _, dp_rows (hx.same b1), dp_rows (hy.same b1), shaped_rows _, shaped_rows _, ?_⟩
      rw [swap_ln haf]
      have e : PyData.eqv (.tuple (dRows (Ln w))) (.tuple (dRows (Ln w))) = true := by
        show PyData.eqvAll _ _ = true
        rw [eqv_rows]; simp
      rw [e]
      exact k _ b1
    | _ =>
      cases ex
      refine ⟨_, rfl, ?_⟩
      refine iteT ?_
      exact k _ b1
end
end K57
set_option Elab.async false
set_option linter.all false
set_option maxRecDepth 100000
set_option maxHeartbeats 4000000

/-! _law_watch. -/
namespace K57
open PySem PySem.Spec PyProof.Rows L2 LamX
local macro_rules | `(tactic| walk_at "k57g") => `(tactic| repeat (first | refine ⟨_, rfl, ?_⟩ | refine ⟨_, _, rfl, rfl, ?_⟩ | refine ⟨_, _, rfl, rfl, _, rfl, ?_⟩))
local macro_rules | `(tactic| walk_at "k57len") => `(tactic| (intro h; first | (obtain ⟨e, _⟩ := h; subst e; rfl) | (obtain ⟨_, e, _⟩ := h; subst e; rfl) | (obtain ⟨_, _, e, _⟩ := h; subst e; rfl) | (obtain ⟨_, _, _, e, _⟩ := h; subst e; rfl) | (obtain ⟨_, _, _, _, e, _⟩ := h; subst e; rfl) | (obtain ⟨_, _, _, _, _, e, _⟩ := h; subst e; rfl) | (obtain ⟨_, _, _, _, _, _, e, _⟩ := h; subst e; rfl) | (obtain ⟨_, _, _, _, _, _, _, e, _⟩ := h; subst e; rfl) | (obtain ⟨_, _, _, _, _, _, _, _, e, _⟩ := h; subst e; rfl) | ((repeat (obtain ⟨_, h⟩ := h)); subst_vars; rfl)))

/-- one statement, then the rest, from what is chosen to hold between -/
def tCut (t u : TS) : TS := fun D σ H => ∃ N : L2.St → Hp → Prop, t { D with nx := N } σ H ∧ ∀ σ' H', N σ' H' → u D σ' H'
theorem pss_cut {X : Cx} {st : Stmt} {rest : List Stmt} {t u : TS} (a : PS X st t) (b : PSs X rest u) : PSs X (st :: rest) (tCut t u) := by
  constructor
  rintro pins s σ H D I ⟨N, h, k⟩
  have q1 := a.run pins s σ H { D with nx := N } I h
  apply wpAny_execs_cons
  refine thn q1 fun f s1 q => ?_
  rcases f with _ | _ | _ | v
  · obtain ⟨σ', H', J, n⟩ := q
    exact b.run pins s1 σ' H' D J (k σ' H' n)
  all_goals exact q
section
variable {X : Cx}
/-- a dict against the empty one -/
def rNeE : R2 := fun x y H Q => ∃ a b ks, x = .ref a ∧ y = .ref b ∧ H a = some (.dK ks) ∧ H b = some (.dK []) ∧ Q (.bl (!ks.isEmpty)) H
theorem op_neE (hu : X.A.units + 1 < cLine) : OpR X (compareOp .NotEq) rNeE := by
  rintro pins s σ H x y v u Q I rx ry ⟨a, b, ks, rfl, rfl, ea, eb, q⟩
  cases (show v = Value.ref a from rx)
  cases (show u = Value.ref b from ry)
  have wa : ObjOk X.prog X.w H s.heap a (.dK ks) := I.hok a _ ea
  have wb : ObjOk X.prog X.w H s.heap b (.dK []) := I.hok b _ eb
  obtain ⟨-, ga, la, pa, ta⟩ := wa
  obtain ⟨-, gb, lb, pb, tb⟩ := wb
  have nb : lb.length = 0 := pb.length.symm
  have na : la.length = ks.length := pa.length.symm
  have hb : lb = [] := List.eq_nil_of_length_eq_zero nb
  subst hb
  cases ks with
  | nil =>
    have ha : la = [] := List.eq_nil_of_length_eq_zero na
    subst ha
    refine PySem.W.keq_ne (knd := mixKind X.prog X.w) (r := true) ga gb ta tb (by omega) (fun _ => .nil) ?_
    exact fin_bl I q rfl
  | cons z t =>
    obtain ⟨z', t', rfl⟩ := List.exists_cons_of_length_pos (show 0 < la.length by rw [na]; simp)
    refine PySem.W.keq_ne (knd := mixKind X.prog X.w) (r := false) ga gb ta tb (by omega) (fun z => by simp at z) ?_
    exact fin_bl I q rfl
end
theorem passF {P : Program} {w : World} {X : Cx} : Passes (L2.CX P w) X (fun _ _ _ => False) := by
  rintro pins σ H s e s' - ⟨a, B, H', cls, d, -, -, -, -, -, -, -, h⟩
  exact h.elim
/-- o.m(k = v, ..) with nothing ahead of the keywords -/
def tMKN (C : Addr) (m : Str) (sp : Sp) (n : Nat) (gV : List V → List V → List V) (E : XK) (ta : TE) (tk : TA) : TE := fun σ H Q => ta σ H fun x H1 => ∃ a dx fs, x = .ref a ∧ H1 a = some (.ins C dx fs) ∧ fs.lookup m = none ∧
  tk σ H1 fun zs H2 => zs.length = n ∧ sp (gV [.ref a] zs) H2 Q E
theorem methKN {X : Cx} {CX : CXT} {k : Nat} {f C : Addr} {fd : FuncData} {ps ks : List Str} {sp : Sp} {E : XK} {m : Str} {pos apos : Pos} {o : Expr} {kws : List Keyword} {ta : TE} {tk : TA} {g : List Value → List Value → List Value} {gV : List V → List V → List V} {pl : Sem Bool}
    (he : PE X o ta) (c : Cls X.K C) (hm : Meth X.K C m f) (F : FnOk X.prog X.w X.K X.mg X.base CX k f fd ps sp) (hr : Room k X.A) (hb : KBn X.K fd ps 1 ks g gV) (hx : Passes CX X E) (hkw : PK X kws tk)
    (hall : (backToKw pos (keywordEach kws X.env)).all (·.1.isSome) = true := by rfl) (hks : (backToKw pos (keywordEach kws X.env)).filterMap (·.1) = ks := by rfl)
    (hp : ((backTo pos (starEach [] X.env)).any (·.1) || (backToKw pos (keywordEach kws X.env)).any (·.1.isNone)) = false := by rfl)
    (ht : eval (.Call (.Attribute o m apos) [] kws pos) X.env = (do
      let ov ← eval o X.env
      standAt apos.atName
      let (f, first) ← holding [ov] (getMethod ov m pl)
      callWith pos f first (backTo pos (starEach [] X.env)) (backToKw pos (keywordEach kws X.env))) := by rfl) : PE X (.Call (.Attribute o m apos) [] kws pos) (tMKN C m sp ks.length gV E ta tk) := by
  constructor
  intro pins s σ H Q I h
  refine PySem.W.methodCall_KW (pl := pl) (thn (he.run pins s σ H _ I h) ?_) ht
  rintro u s1 ⟨x, H1, I1, rx, a, dx, fs, rfl, ea, l, q⟩
  cases (show u = Value.ref a from rx)
  refine getmeth_ok I1 ea c hm l ?_
  refine PySem.W.callWith_KW0 (first := [.ref a]) (h₀ := X.base) I1.ok.mod.kin hm.kp hall (thn (hkw.run pos pins s1 σ H1 _ I1 q) ?_) hp
  rintro ws s2 ⟨zs, H2, I2, rz, l2, q2⟩
  refine ⟨I2.kIn, ?_⟩
  rw [hks]
  exact run_fnN (us := [.ref a]) (vs := [.ref a]) F hr hb hx I2 (.cons rfl .nil) rz rfl l2 q2
section
variable {P : Program} {w : World} {K : PySem.W.Frag} {mg : Str → Option Value} {base : Heap}
theorem isNm_len {n : Str} (h : isNm n = true) : n.length ≤ 100 := by
  unfold isNm at h
  simp only [Bool.and_eq_true, decide_eq_true_eq] at h
  omega
theorem dGet_drop (D : Dc) (n : Str) : dGet (dDrop D n) n = none := by
  unfold dGet dDrop
  rw [List.find?_eq_none.mpr]
  · rfl
  · intro x hx
    have := (List.mem_filter.mp hx).2
    simpa using this
theorem vals_rev {vs : List V} {us : List Value} (h : Vals vs us) : Vals vs.reverse us.reverse := by
  induction h with
  | nil => exact .nil
  | cons h _ ih =>
    rw [List.reverse_cons, List.reverse_cons]
    exact ih.append (.cons h .nil)
theorem kb_watch (T : Txt K mg) : KBn K (fdOf K (mLW K "watch")) ["self", "name", "many"] 1 ["many", "name"] (fun us ws => us ++ ws.reverse) (fun us ws => us ++ ws.reverse) := by
  obtain ⟨oc, od, dV, kV, doc, pm, an, cdv, ct, osl, eF, lk, hcd, hD, hK⟩ := T.f_LW_watch.F.ex
  rw [eF]
  refine ⟨fun s us ws _ l1 l2 => ?_, fun r1 r2 => ?_⟩
  · match us, l1, ws, l2 with
    | [u], _, [a, b], _ =>
      rcases hD with ⟨_, rfl⟩ | ⟨e, _⟩
      · exact .of_eq rfl
      · exact absurd rfl e
  · exact r1.append (vals_rev r2)
/-! ### what the law stands on -/
theorem LiveAt.mem {K : PySem.W.Frag} {H : Hp} {p : Addr} {F : List Addr} {S0 : List St1} {w : List Int} {D : Dc} {dn la : List Deed} (L : LiveAt K H p F S0 w D dn la) {x : Addr} (hx : x ∈ F) : ∃ o, H x = some o ∧ (∀ ps, o ≠ .tbl ps) ∧ Mov o := by
  obtain ⟨dx, sa, da, aa, qs, dqs, lqs, T0, t, e, b, f, g, wa, ln, R, rfl, _⟩ := L
  simp only [Foot, List.mem_cons] at hx
  rcases hx with rfl | rfl | rfl | rfl | hx
  · exact ⟨_, R.o, (fun ps z => by cases z), trivial⟩
  · exact ⟨_, R.s, (fun ps z => by cases z), trivial⟩
  · exact ⟨_, R.d, (fun ps z => by cases z), trivial⟩
  · exact ⟨_, R.a, (fun ps z => by cases z), trivial⟩
  · obtain ⟨t', h1, rfl⟩ := List.mem_map.mp hx
    obtain ⟨i, hi⟩ := List.getElem?_of_mem h1
    obtain ⟨_, _, _, _, _, z⟩ := Paired.at R.ss hi
    exact ⟨_, z, (fun ps z => by cases z), trivial⟩
theorem DrAt.mem {H : Hp} {dr lg cl : Addr} (d : DrAt H dr lg cl) {x : Addr} (hx : x ∈ Dg dr lg cl) : ∃ o, H x = some o ∧ (∀ ps, o ≠ .tbl ps) ∧ Mov o := by
  obtain ⟨_, _, _, _, z⟩ := d
  simp only [Dg, List.mem_cons, List.not_mem_nil, or_false] at hx
  rcases hx with rfl | rfl | rfl
  · exact ⟨_, z.d, (fun ps z => by cases z), trivial⟩
  · exact ⟨_, z.g, (fun ps z => by cases z), trivial⟩
  · exact ⟨_, z.c, (fun ps z => by cases z), trivial⟩
theorem LiveAt.obj {K : PySem.W.Frag} {H : Hp} {p : Addr} {F : List Addr} {S0 : List St1} {w : List Int} {D : Dc} {dn la : List Deed} (L : LiveAt K H p F S0 w D dn la) : ∃ dx, ∃ e b W G f g s d a : V, H p = some (.ins (LWc K) dx (flds e b W G f g s d a)) := by
  obtain ⟨dx, sa, da, aa, qs, dqs, lqs, T0, t, e, b, f, g, wa, ln, R, _⟩ := L
  exact ⟨dx, _, _, _, _, _, _, _, _, _, R.o⟩
structure Wl (K : PySem.W.Frag) (tabs : List (Addr × Str)) (dr lg cl p : Addr) (F : List Addr) (S0 : List St1) (w : List Int) (D : Dc) (dn la : List Deed) (H : Hp) : Prop where
  d : DrAt H dr lg cl
  L : LiveAt K H p F S0 w D dn la
  T : Tabs tabs H
  n : ∀ x ∈ F, x ∉ Dg dr lg cl
section
variable {tabs : List (Addr × Str)} {dr lg cl p : Addr} {F : List Addr} {S0 : List St1} {w0 : List Int} {D : Dc} {dn la : List Deed} {H H' : Hp}
theorem tab_not {D : List Addr} (T : Tabs tabs H) (h : ∀ x ∈ D, ∃ o, H x = some o ∧ (∀ ps, o ≠ .tbl ps) ∧ Mov o) : ∀ q ∈ tabs, q.1 ∉ D := fun q hq hx => by
  obtain ⟨o, h1, h2, _⟩ := h _ hx
  obtain ⟨ps, e, _⟩ := T q hq
  rw [e] at h1
  cases h1
  exact h2 ps rfl
theorem Wl.cht {G : List Addr} (W : Wl K tabs dr lg cl p F S0 w0 D dn la H) (c : ChT K G H H') (h1 : ∀ x ∈ F, x ∉ G) (h2 : ∀ x ∈ Dg dr lg cl, x ∉ G) (t : Tabs tabs H') : Wl K tabs dr lg cl p F S0 w0 D dn la H' :=
  ⟨W.d.cht c h2, W.L.cht c h1, t, W.n⟩
theorem Wl.chg {G : List Addr} (W : Wl K tabs dr lg cl p F S0 w0 D dn la H) (c : Chg K G H H') (h1 : ∀ x ∈ F, x ∉ G) (h2 : ∀ x ∈ Dg dr lg cl, x ∉ G) (h3 : ∀ q ∈ tabs, q.1 ∉ G) : Wl K tabs dr lg cl p F S0 w0 D dn la H' :=
  W.cht c.t h1 h2 (Tabs.chg W.T c h3)
theorem Wl.same (W : Wl K tabs dr lg cl p F S0 w0 D dn la H) (s : Same H H') : Wl K tabs dr lg cl p F S0 w0 D dn la H' :=
  W.chg (.of (D := []) s) (by simp) (by simp) (by simp)
theorem Wl.dg (W : Wl K tabs dr lg cl p F S0 w0 D dn la H) (c : Chg K (Dg dr lg cl) H H') (d : DrAt H' dr lg cl) : Wl K tabs dr lg cl p F S0 w0 D dn la H' :=
  ⟨d, W.L.cht c.t W.n, Tabs.chg W.T c (tab_not W.T fun x h => W.d.mem h), W.n⟩
theorem Wl.lv {F' : List Addr} {S1 : List St1} {w1 : List Int} {D1 : Dc} {dn1 la1 : List Deed} (W : Wl K tabs dr lg cl p F S0 w0 D dn la H) (c : Chg K F H H') (L : LiveAt K H' p F' S1 w1 D1 dn1 la1) (f : ∀ x ∈ F', x ∈ F ∨ H x = none) : Wl K tabs dr lg cl p F' S1 w1 D1 dn1 la1 H' := by
  refine ⟨W.d.cht c.t fun x h z => W.n x z h, L, Tabs.chg W.T c (tab_not W.T fun x h => W.L.mem h), fun x h z => ?_⟩
  rcases f x h with h | h
  · exact W.n x h z
  · obtain ⟨o, e, _⟩ := W.d.mem z
    rw [h] at e
    cases e
end
def spLWatch (K : PySem.W.Frag) (tabs : List (Addr × Str)) : Sp := fun vs H Q _ => ∃ (dr lg cl p t : Addr) (F : List Addr) (S0 : List St1) (w : List Int) (D : Dc) (dn la : List Deed), vs = [.ref dr, .ref p, .ref t] ∧ Wl K tabs dr lg cl p F S0 w D dn la H ∧
  H t = some (.dK (kvD D)) ∧ DOk (fun n => isNm n = true) D ∧ D.length < 60 ∧ t ∉ F ∧ t ∉ Dg dr lg cl ∧
  ∀ (H' : Hp) (f : Addr) (D' : Dc), ChT K (F ++ Dg dr lg cl) H H' → Wl K tabs dr lg cl p F S0 w D' dn la H' → H f = none → H' f = some (.dK (kvD D')) → DOk (fun n => isNm n = true) D' → D'.length ≤ D.length + 1 → Q (.ref f) H'
theorem ok_l_watch {tabs : List (Addr × Str)} (T : Txt K mg) (XT : XTxt P w K mg base) (LT : LTxt K mg base tabs "_law_is_let_go") (nw : mg "NoWatch" = some (.ref (He.ga K "NoWatch"))) : OKf P w K mg base 10 "_law_watch" ["_law_draw", "_law_live", "_law_seen"] (spLWatch K tabs) := by
  refine T.f_l_watch.F.ok sc_l_watch (fun vs H Q E => by clear T XT LT nw; walk_at "k57len") (fun cdv A outer s H vs Q E hr h => ?_)
  obtain ⟨dr, lg, cl, p, t, F, S0, w, D, dn, la, rfl, W, ht, hD, hl, htF, htD, k⟩ := h
  refine ⟨_, PSs.nox (pss_cons (ps_par (i := 3) (j := 4) rfl sc_l_watch.nd rfl rfl (by decide) rfl rfl (pa_cons (pe_callTy call_dictD (by rfl) T.b_dict bb_dict (pa_cons (pv 2) pa_nil)) (pa_cons (pe_call (ok_l_name T) (hr.mono (by decide)) rfl T.f_l_name.g T.f_l_name.F.kp T.f_l_name.b .nil pass0 (pa_cons (pv 0) pa_nil)) pa_nil)) (by rfl))
      (pss_cut (ps_if (PW.pt (pw_and (pt_cmpR (op_neE (u1 hr.units)) (pv 2) pe_dnewK (nomark _)) (pw_and1 (pt_cmpR op_eq (pe_call (ok_l_take T) (hr.mono (by decide)) rfl T.f_l_take.g T.f_l_take.F.kp T.f_l_take.b .nil pass0 (pa_cons (pv 0) (pa_cons pe_int pa_nil))) pe_int (nomark _))))) (pss_cons (ps_set (i := 4) sc_l_watch.nd rfl (Or.inl rfl) (pe_call (ok_l_pick T) (hr.mono (by decide)) rfl T.f_l_pick.g T.f_l_pick.F.kp T.f_l_pick.b .nil pass0 (pa_cons (pv 0) (pa_cons (pe_callB (call_sortedD rfl) (by rfl) T.b_sorted bb_sorted (pa_cons (pv 2) pa_nil)) pa_nil))))
      (pss_one (ps_if (pt_cmpR op_eq (pe_call (ok_l_take T) (hr.mono (by decide)) rfl T.f_l_take.g T.f_l_take.F.kp T.f_l_take.b .nil pass0 (pa_cons (pv 0) (pa_cons pe_int pa_nil))) pe_int (nomark _)) (pss_cons (ps_expr (pe_dpop1 (pv 3) (pv 4) ⟨rfl, rfl, rfl, rfl⟩))
      (pss_one (ps_ret (pe_ifExp (PW.pt (pw_and (pt_cmpR op_isN (pe_meth (E := fun _ _ _ => False) (pv 1) T.cl_LW T.f_LW_unwatch.m (ok_LW_unwatch T XT) (hr.mono (by decide)) T.f_LW_unwatch.b .nil passF (pa_cons (pv 4) pa_nil)) pe_non (nomark _)) (pw_and1 (pt_val (pe_call (ok_l_is_let_go T XT LT nw) (hr.mono (by decide)) rfl T.f_l_is_let_go.g T.f_l_is_let_go.F.kp T.f_l_is_let_go.b .nil pass0 (pa_cons (pv 1) (pa_cons (pv 4) pa_nil))))))) (pv 3) pe_non)))) pss_nil))) pss_nil)
      (pss_cut (ps_if (PW.pt (pw_and (pt_cmp (pc_dnotin (u1 hr.units) (pv 4) (pv 2))) (pw_and1 (pt_not (pt_val (pe_call (ok_l_is_let_go T XT LT nw) (hr.mono (by decide)) rfl T.f_l_is_let_go.g T.f_l_is_let_go.F.kp T.f_l_is_let_go.b .nil pass0 (pa_cons (pv 1) (pa_cons (pv 4) pa_nil)))))))) (pss_one (ps_ret pe_non)) pss_nil)
      (pss_cons (ps_dput (u1 hr.units) (pv 3) (pv 4) (pe_call (ok_l_pick T) (hr.mono (by decide)) rfl T.f_l_pick.g T.f_l_pick.F.kp T.f_l_pick.b .nil pass0 (pa_cons (pv 0) (pa_cons (pe_lst (pa_cons pe_int (pa_cons pe_int (pa_cons pe_int (pa_cons pe_int (pa_cons pe_int (pa_cons pe_int (pa_cons pe_int (pa_cons pe_int pa_nil))))))))) pa_nil))) rfl)
      (pss_one (ps_ret (pe_ifExp (pt_cmpR op_isN (methKN (pv 1) T.cl_LW T.f_LW_watch.m (ok_LW_watch T XT) (hr.mono (by decide)) (kb_watch T) passF (pk_cons (pe_dget (u1 hr.units) (pv 3) (pv 4) (fun _ _ => rfl)) (pk_cons (pv 4) pk_nil))) pe_non (nomark _)) (pv 3) pe_non))))))), ?_⟩
  -- fresh, name = dict(seen), name(draw)
  refine ⟨_, rfl, t, kvD D, rfl, .inl ht, fun f nf => ?_⟩
  have s1 := same_upd (o := HO.dK (kvD D)) nf
  have W1 := W.same s1
  have fF : ∀ {x}, x ∈ F → x ≠ f := fun h z => by obtain ⟨_, e, _⟩ := W.L.mem h; rw [z, nf] at e; cases e
  have fD : ∀ {x}, x ∈ Dg dr lg cl → x ≠ f := fun h z => by obtain ⟨_, e, _⟩ := W.d.mem h; rw [z, nf] at e; cases e
  refine ⟨_, rfl, dr, lg, cl, rfl, W1.d, fun H2 z c2 d2 hz => ?_⟩
  have W2 := W1.dg c2 d2
  have f2 := c2.keep f _ (fun h => fD h rfl) (upd_same (H := H) (a := f) (o := HO.dK (kvD D)))
  have c12 : ChT K (F ++ Dg dr lg cl) H H2 := ((ChT.of (K := K) s1).trans c2.t fun x h => .inl h).more fun x h => .inl (List.mem_append_right _ (by simpa using h))
  have ht2 := c12.keep t _ (by simp only [List.mem_append, not_or]; exact ⟨htF, htD⟩) (fun ps z => by cases z) ht
  have hft : f ≠ t := fun z => by rw [z, ht] at nf; cases nf
  refine ⟨_, _, rfl, ?_⟩
  -- if seen != {} and take(draw, 2) == 0
  refine ⟨fun (σ : L2.St) (H3 : Hp) => ∃ n : Str, σ = [some (V.ref dr), some (V.ref p), some (V.ref t), some (V.ref f), some (V.str n)] ∧ isNm n = true ∧ ChT K (F ++ Dg dr lg cl) H H3 ∧ Wl K tabs dr lg cl p F S0 w D dn la H3 ∧ H3 f = some (.dK (kvD D)) ∧ H3 t = some (.dK (kvD D)), ?_, ?_⟩
  · refine ⟨_, rfl, fun e ne => ?_⟩
    have s3 := same_upd (o := HO.dK []) ne
    have W3 := W2.same s3
    have f3 := s3 _ _ f2
    have t3 := s3 _ _ ht2
    have c13 := c12.then s3
    have e3 := upd_same (H := H2) (a := e) (o := HO.dK [])
    generalize upd H2 e (.dK []) = H3 at s3 W3 f3 t3 c13 e3 ⊢
    refine ⟨t, e, kvD D, rfl, rfl, t3, e3, _, rfl, ?_⟩
    refine ite2 (fun h1 => ?_) fun h1 => ?_
    · have hne : D ≠ [] := fun z => by subst z; simp [kvD] at h1
      refine ⟨_, rfl, dr, lg, cl, _, rfl, W3.d, by decide, by decide, fun H4 i4 _ c4 d4 => ?_⟩
      have W4 := W3.dg c4 d4
      have c14 := c13.trans c4.t fun x h => .inl (List.mem_append_right _ h)
      have f4 := c4.keep f _ (fun h => fD h rfl) f3
      have t4 := c4.keep t _ htD t3
      refine ⟨rfl, _, rfl, ?_⟩
      refine ite2 (fun h2 => ?_) fun h2 => ?_
      · -- name = pick(draw, sorted(seen))
        refine ⟨_, rfl, _, rfl, t, kvD D, D.map (·.1), rfl, .inl t4, keys_kvD D, (by rw [List.length_map]; omega), fun ss l hpm hss nl => ?_⟩
        have s5 := same_upd (o := HO.lst (ss.map V.str)) nl
        have h5 := upd_same (H := H4) (a := l) (o := HO.lst (ss.map V.str))
        have lD : l ∉ Dg dr lg cl := fun h => by obtain ⟨_, e, _⟩ := W4.d.mem h; rw [nl] at e; cases e
        have W5 := W4.same s5
        have f5 := s5 _ _ f4
        have t5 := s5 _ _ t4
        have c5 := c14.then s5
        generalize upd H4 l (.lst (ss.map V.str)) = H5 at s5 h5 W5 f5 t5 c5 ⊢
        have hlen : ss.length = D.length := by rw [hpm.length_eq, List.length_map]
        have hpos : 0 < D.length := List.length_pos_iff.mpr hne
        refine ⟨dr, lg, cl, l, _, rfl, W5.d, SqL.of h5, (by rw [List.length_map]; omega), (by rw [List.length_map]; omega), lD, fun H6 x hx c6 d6 => ?_⟩
        obtain ⟨n, hn, rfl⟩ := List.mem_map.mp hx
        have hnD := hpm.mem_iff.mp hn
        have hnm : isNm n = true := by
          obtain ⟨y, h1, rfl⟩ := List.mem_map.mp hnD
          exact (hD.nm y h1).1
        have W6 := W5.dg c6 d6
        have c56 := c5.trans c6.t fun x h => .inl (List.mem_append_right _ h)
        have f6 := c6.keep f _ (fun h => fD h rfl) f5
        have t6 := c6.keep t _ htD t5
        -- if take(draw, 2) == 0
        refine ⟨_, rfl, dr, lg, cl, _, rfl, W6.d, by decide, by decide, fun H7 i7 _ c7 d7 => ?_⟩
        have W7 := W6.dg c7 d7
        have c17 := c56.trans c7.t fun x h => .inl (List.mem_append_right _ h)
        have f7 := c7.keep f _ (fun h => fD h rfl) f6
        have t7 := c7.keep t _ htD t6
        refine ⟨rfl, _, rfl, ?_⟩
        refine ite2 (fun h3 => ?_) fun h3 => ?_
        · -- fresh.pop(name)
          have hg := dv_of hnD
          refine ⟨_, rfl, f, rfl, .inl ⟨_, .inl f7⟩, _, rfl, kvD D, .inr n, _, f7, rfl, (by rw [valV_kvD, hg]; rfl), ?_⟩
          rw [drop_kvD]
          have z8 : ∀ x ∈ [f], ∃ o, H7 x = some o ∧ (∀ ps, o ≠ .tbl ps) ∧ Mov o := fun x h => by
            have : x = f := by simpa using h
            subst this
            exact ⟨_, f7, (fun ps z => by cases z), trivial⟩
          have c8 : Chg K [f] H7 (upd H7 f (.dK (kvD (dDrop D n)))) := Chg.upd f7 trivial (by simp)
          have W8 := W7.chg c8 (fun x h z => fF h (by simpa using z)) (fun x h z => fD h (by simpa using z)) (tab_not W7.T z8)
          have f8 := upd_same (H := H7) (a := f) (o := HO.dK (kvD (dDrop D n)))
          have c18 : ChT K (F ++ Dg dr lg cl) H _ := c17.trans c8.t fun x h => .inr (by have : x = f := by simpa using h
                                                                                        rw [this]; exact nf)
          generalize upd H7 f (.dK (kvD (dDrop D n))) = H8 at c8 W8 f8 c18 ⊢
          -- return fresh if live.unwatch(name) is None and is_let_go(live, name) else None
          obtain ⟨dx, o1, o2, o3, o4, o5, o6, o7, o8, o9, hp⟩ := W8.L.obj
          refine ⟨_, rfl, p, dx, _, rfl, hp, rfl, _, rfl, ?_⟩
          refine ⟨p, F, S0, w, D, dn, la, .str n, isNm n, rfl, W8.L, .str n (isNm_len hnm), (fun z => by rw [hnm] at z; cases z), fun _ => ⟨n, rfl, (fun z => by rw [z] at hg; cases hg), fun _ H9 c9 L9 => ?_⟩⟩
          refine ⟨rfl, _, rfl, ?_⟩
          refine iteT ?_
          have W9 := W8.lv c9 L9 fun x h => .inl h
          have f9 := c9.keep f _ (fun h => fF h rfl) f8
          have c19 := c18.trans c9.t fun x h => .inl (List.mem_append_left _ h)
          refine ⟨_, rfl, _, rfl, p, F, S0, w, dDrop D n, dn, la, n, rfl, W9.L, isNm_len hnm, dGet_drop D n, W9.T, fun HA cA tA => ?_⟩
          refine ⟨_, rfl, ?_⟩
          refine iteT ?_
          refine ⟨_, rfl, ?_⟩
          have WA := W9.cht cA (by simp) (by simp) tA
          exact k HA f _ (c19.trans cA (by simp)) WA nf (cA.keep f _ (by simp) (fun ps z => by cases z) f9) hD.drop (by have := dDrop_len D n; omega)
        · exact ⟨n, rfl, hnm, c17, W7, f7, t7⟩
      · exact ⟨_, rfl, hz, c14, W4, f4, t4⟩
    · exact ⟨_, rfl, hz, c13, W3, f3, t3⟩
  · rintro σ H3 ⟨n, rfl, hn, c3, W3, f3, t3⟩
    refine ⟨fun (σ : L2.St) (H4 : Hp) => σ = [some (V.ref dr), some (V.ref p), some (V.ref t), some (V.ref f), some (V.str n)] ∧ ChT K (F ++ Dg dr lg cl) H H4 ∧ Wl K tabs dr lg cl p F S0 w D dn la H4 ∧ H4 f = some (.dK (kvD D)), ?_, ?_⟩
    · refine ⟨_, rfl, _, rfl, t, dGet D n |>.map fun (m : Nat) => V.int (m : Int), rfl, .inl ⟨kvD D, .inr n, .inl t3, rfl, (valV_kvD n D).symm⟩, ?_⟩
      cases e : dGet D n with
      | some m =>
        refine ⟨_, rfl, ?_⟩
        refine iteF ?_
        exact ⟨rfl, c3, W3, f3⟩
      | none =>
        refine ⟨_, rfl, ?_⟩
        refine iteT ?_
        refine ⟨_, rfl, _, rfl, p, F, S0, w, D, dn, la, n, rfl, W3.L, isNm_len hn, e, W3.T, fun H4 c4 t4 => ?_⟩
        refine ⟨_, rfl, ?_⟩
        have W4 := W3.cht c4 (by simp) (by simp) t4
        have f4 := c4.keep f _ (by simp) (fun ps z => by cases z) f3
        exact ⟨rfl, c3.trans c4 (by simp), W4, f4⟩
    · rintro σ H4 ⟨rfl, c4, W4, f4⟩
      -- fresh[name] = pick(draw, [0, 1, 1, 2, 2, 3, 4, 16])
      refine ⟨_, rfl, (by show 8 ≤ sizeLine; decide), fun l nl => ?_⟩
      have s5 := same_upd (o := HO.lst [.int 0, .int 1, .int 1, .int 2, .int 2, .int 3, .int 4, .int 16]) nl
      have h5 := upd_same (H := H4) (a := l) (o := HO.lst [.int 0, .int 1, .int 1, .int 2, .int 2, .int 3, .int 4, .int 16])
      have lD : l ∉ Dg dr lg cl := fun h => by obtain ⟨_, e, _⟩ := W4.d.mem h; rw [nl] at e; cases e
      have W5 := W4.same s5
      have f5 := s5 _ _ f4
      have c5 := c4.then s5
      generalize upd H4 l (.lst [.int 0, .int 1, .int 1, .int 2, .int 2, .int 3, .int 4, .int 16]) = H5 at s5 h5 W5 f5 c5 ⊢
      refine ⟨dr, lg, cl, l, _, rfl, W5.d, SqL.of h5, by decide, by decide, lD, fun H6 x hx c6 d6 => ?_⟩
      obtain ⟨m, rfl, hm⟩ : ∃ m : Nat, x = .int (m : Int) ∧ m ≤ 16 := by
        simp only [List.mem_cons, List.not_mem_nil, or_false] at hx
        rcases hx with rfl | rfl | rfl | rfl | rfl | rfl | rfl | rfl
        · exact ⟨0, rfl, by decide⟩
        · exact ⟨1, rfl, by decide⟩
        · exact ⟨1, rfl, by decide⟩
        · exact ⟨2, rfl, by decide⟩
        · exact ⟨2, rfl, by decide⟩
        · exact ⟨3, rfl, by decide⟩
        · exact ⟨4, rfl, by decide⟩
        · exact ⟨16, rfl, by decide⟩
      have W6 := W5.dg c6 d6
      have c56 := c5.trans c6.t fun x h => .inl (List.mem_append_right _ h)
      have f6 := c6.keep f _ (fun h => fD h rfl) f5
      have z7 : ∀ x ∈ [f], ∃ o, H6 x = some o ∧ (∀ ps, o ≠ .tbl ps) ∧ Mov o := fun x h => by
        have : x = f := by simpa using h
        subst this
        exact ⟨_, f6, (fun ps z => by cases z), trivial⟩
      have c7 : Chg K [f] H6 (upd H6 f (.dK (kvD (dPut D n m)))) := Chg.upd f6 trivial (by simp)
      have W7 := W6.chg c7 (fun x h z => fF h (by simpa using z)) (fun x h z => fD h (by simpa using z)) (tab_not W6.T z7)
      have f7 := upd_same (H := H6) (a := f) (o := HO.dK (kvD (dPut D n m)))
      have c67 : ChT K (F ++ Dg dr lg cl) H _ := c56.trans c7.t fun x h => .inr (by have : x = f := by simpa using h
                                                                                    rw [this]; exact nf)
      refine ⟨_, rfl, _, rfl, f, _, rfl, DPut.k (k := .inr n) f6 (by rw [show (kvD D).length = D.length from List.length_map ..]; exact line_lt (by omega)), ?_⟩
      rw [put_kvD]
      generalize upd H6 f (.dK (kvD (dPut D n m))) = H7 at c7 W7 f7 c67 ⊢
      obtain ⟨dx, o1, o2, o3, o4, o5, o6, o7, o8, o9, hp⟩ := W7.L.obj
      refine ⟨_, rfl, p, dx, _, rfl, hp, rfl, ?_⟩
      refine ⟨_, rfl, _, rfl, f, .int (m : Int), rfl, .inl ⟨kvD (dPut D n m), .inr n, .inl f7, rfl, (by rw [valV_kvD, dGet_put, if_pos rfl]; rfl)⟩, ?_⟩
      refine ⟨_, rfl, rfl, ?_⟩
      refine ⟨p, F, S0, w, D, dn, la, .str n, .int (m : Int), isNm n, rfl, W7.L, by omega, .str n (isNm_len hn), by constructor, (fun z => by rw [hn] at z; cases z), (fun _ z => ?_), fun _ _ => ⟨n, m, rfl, rfl, fun H8 c8 L8 => ?_⟩⟩
      · exfalso
        have : btw (.int (m : Int)) 0 16 = true := by
          show (decide ((0 : Int) ≤ (m : Int)) && decide ((m : Int) ≤ 16)) = true
          rw [decide_eq_true (by omega), decide_eq_true (by omega)]; rfl
        rw [this] at z
        cases z
      · refine ⟨rfl, _, rfl, ?_⟩
        refine iteT ?_
        refine ⟨_, rfl, ?_⟩
        have W8 := W7.lv c8 L8 fun x h => .inl h
        exact k H8 f _ (c67.trans c8.t fun x h => .inl (List.mem_append_left _ h)) W8 nf (c8.keep f _ (fun h => fF h rfl) f7) (hD.put hn hm) (dPut_len D n m)
end
end K57
set_option Elab.async false
set_option linter.all false
set_option maxRecDepth 100000
set_option maxHeartbeats 4000000

/-! Calls that ask what stands around: repr. -/
namespace K57
open PySem PySem.Spec PyProof.Rows L2 LamX
local macro_rules | `(tactic| walk_at "k57g") => `(tactic| repeat (first | refine ⟨_, rfl, ?_⟩ | refine ⟨_, _, rfl, rfl, ?_⟩ | refine ⟨_, _, rfl, rfl, _, rfl, ?_⟩))
local macro_rules | `(tactic| walk_at "k57len") => `(tactic| (intro h; first | (obtain ⟨e, _⟩ := h; subst e; rfl) | (obtain ⟨_, e, _⟩ := h; subst e; rfl) | (obtain ⟨_, _, e, _⟩ := h; subst e; rfl) | (obtain ⟨_, _, _, e, _⟩ := h; subst e; rfl) | (obtain ⟨_, _, _, _, e, _⟩ := h; subst e; rfl) | (obtain ⟨_, _, _, _, _, e, _⟩ := h; subst e; rfl) | (obtain ⟨_, _, _, _, _, _, e, _⟩ := h; subst e; rfl) | (obtain ⟨_, _, _, _, _, _, _, e, _⟩ := h; subst e; rfl) | (obtain ⟨_, _, _, _, _, _, _, _, e, _⟩ := h; subst e; rfl) | ((repeat (obtain ⟨_, h⟩ := h)); subst_vars; rfl)))

/-- a promise kept where no guard stands -/
structure FnG (P : Program) (w : World) (K : PySem.W.Frag) (mg : Str → Option Value) (base : Heap) (CX : CXT) (k : Nat) (f : Addr) (fd : FuncData) (ps : List Str) (sp : Sp) : Prop where
  len : ∀ vs H Q E, sp vs H Q E → vs.length = ps.length
  run : ∀ (A : Around) (outer : List Env) (s : Shared) (H : Hp) (args : Args) (us : List Value) (vs : List V) (Q : VK) (E : XK), A.guards = some [] → Room k A → Env0 P w K mg base A outer s H → BindsTo s fd args (ps.zip us) → Vals vs us → sp vs H Q E →
    codeAny (model P w) A (.call (.ref f) args) (CR CX outer P w H s Q E) s
theorem okG {CX : CXT} {P : Program} {w : World} {K : PySem.W.Frag} {mg : Str → Option Value} {base : Heap} {x qual : Str} {params : Arguments} {body : List Stmt} {scope : Scope} {dvs : List V} {kws : List (Str × V)} {f : Addr} {fd : FuncData} {N ps : List Str} {k : Nat} {sp : Sp}
    (F : FunD K x qual params body scope dvs kws f fd) (S : FnScope N ps scope) (len : ∀ vs H Q E, sp vs H Q E → vs.length = ps.length)
    (hbody : ∀ (cdv : Value) (A : Around) (outer : List Env) (s : Shared) (H : Hp) (vs : List V) (Q : VK) (E : XK), A.guards = some [] → Room k (A.deeper (envOfC qual scope s.heap.objs.size f cdv)) → sp vs H Q E →
      ∃ t, PSs (cxOf CX P w K mg base N qual scope f cdv A outer s H E) body t ∧ t { nx := fun _ H' => Q .non H', rt := Q } (L2.start N vs) H) : FnG P w K mg base CX (k + 1) f fd ps sp := by
  obtain ⟨oc, od, dV, kV, doc, pm, an, cdv, ct, osl, rfl, lk, hcd, _, _⟩ := F.ex
  exact ⟨len, fun A outer s H args us vs Q E hg hr e0 hb r hsp => run_ofS lk hcd S hr e0 hb r (len _ _ _ _ hsp) fun hr' => hbody cdv A outer s H vs Q E hg hr' hsp⟩
theorem guards_deeper {A : Around} (h : A.guards = some []) (e : Env) : (A.deeper e).guards = some [] := by
  first | exact h | (simp [Around.deeper, h, pushGuards, Code.guards, Code.isGuard])
section
variable {X : Cx} {CX : CXT} {k : Nat} {f C : Addr} {fd : FuncData} {ps : List Str} {sp : Sp} {dvs : List V} {ds : List Value} {E : XK} {x m : Str} {p pos apos : Pos} {e o : Expr} {es : List Expr} {ta : TE} {t : TA}
theorem callG (F : FnG X.prog X.w X.K X.mg X.base CX k f fd ps sp) (hG : X.A.guards = some []) (hr : Room k X.A) (hg : Gl X x) (hm : X.mg x = some (.ref f)) (hk : PySem.W.keepIn X.K (.ref f) = true) (hb : Binds X.K fd ps []) (hx : Passes CX X E)
    (ha : PA X (e :: es) t) (hdb : (x == ("__debug__" : Str)) = false := by decide) (he : starEach (e :: es) X.env = (false, eval e X.env) :: starEach es X.env := by rfl) (hpl : (backTo pos (starEach es X.env)).any (·.1) = false := by rfl) :
    PE X (.Call (.Name x p) (e :: es) [] pos) (tCall sp [] E t) := by
  constructor
  intro pins s σ H Q I h
  apply wpAny_Call_Name_kw
  refine ld_glob I hg hm ?_ hdb
  refine PySem.W.callWith_K (h₀ := X.base) I.ok.mod.kin hk (thn (ha.run pos pins s σ H _ I h) ?_) he hpl
  rintro us s1 ⟨vs, H1, J, r, q⟩
  refine ⟨J.kIn, ?_⟩
  have q : sp (vs ++ []) H1 Q E := q
  rw [List.append_nil] at q
  have n : us.length = ps.length := by rw [← r.length]; exact F.len _ _ _ _ q
  have hb' := hb s1 us J.kIn (by simpa using n)
  rw [List.append_nil] at hb'
  refine wpAny_call (codeAny_mono (F.run X.A X.stack s1 H1 ⟨us, []⟩ us vs Q E hG hr J.env0 hb' r q) fun z s' hq => ?_)
  rcases z with e | fl
  · exact hx pins σ H1 s1 e s' J hq
  · rcases fl with _ | _ | _ | u
    all_goals first | exact J.after hq | exact False.elim hq
/-- repr of a list or a tuple -/
theorem call_reprG (hG : X.A.guards = some []) (hu : X.A.units + 64 < cLine) : CallR X (.builtin "repr") (fun xs H Q => ∃ a d, xs = [.ref a] ∧ Dp X.K H (.ref a) d ∧ d.showable = true ∧ d.hasDict = false ∧ d.depth ≤ 60 ∧ d.shown.length ≤ sizeLine ∧ Q (.str d.shown) H) := by
  rintro pins s σ H xs us Q I r ⟨a, d, rfl, hd, h1, h2, h3, h4, q⟩
  obtain ⟨u, rfl, rx⟩ := vals1 r
  cases (show u = Value.ref a from rx)
  obtain ⟨as, rd⟩ := Dp.reads I d _ (.ref a) hd rfl
  exact repr_of_reads' rd h1 (PyData.noDict_hsm h2) hG (by omega) (fun _ _ e => e) (fun h' u tk hk => ⟨.str d.shown, H, I.kept (t' := tk) hk, ⟨u, rfl⟩, q⟩) h4
end
end K57
set_option Elab.async false
set_option linter.all false
set_option maxRecDepth 100000
set_option maxHeartbeats 4000000

/-! Dicts of pairs compared by the law. -/
namespace K57
open PySem PySem.Spec PyProof.Rows L2 LamX
local macro_rules | `(tactic| walk_at "k57g") => `(tactic| repeat (first | refine ⟨_, rfl, ?_⟩ | refine ⟨_, _, rfl, rfl, ?_⟩ | refine ⟨_, _, rfl, rfl, _, rfl, ?_⟩))
local macro_rules | `(tactic| walk_at "k57len") => `(tactic| (intro h; first | (obtain ⟨e, _⟩ := h; subst e; rfl) | (obtain ⟨_, e, _⟩ := h; subst e; rfl) | (obtain ⟨_, _, e, _⟩ := h; subst e; rfl) | (obtain ⟨_, _, _, e, _⟩ := h; subst e; rfl) | (obtain ⟨_, _, _, _, e, _⟩ := h; subst e; rfl) | (obtain ⟨_, _, _, _, _, e, _⟩ := h; subst e; rfl) | (obtain ⟨_, _, _, _, _, _, e, _⟩ := h; subst e; rfl) | (obtain ⟨_, _, _, _, _, _, _, e, _⟩ := h; subst e; rfl) | (obtain ⟨_, _, _, _, _, _, _, _, e, _⟩ := h; subst e; rfl) | ((repeat (obtain ⟨_, h⟩ := h)); subst_vars; rfl)))

theorem sorted_uniq {α : Type} {r : α → α → Prop} (anti : ∀ a b, r a b → r b a → a = b) : ∀ {l m : List α}, l.Pairwise r → m.Pairwise r → l.Perm m → l = m
  | [], m, _, _, p => (p.nil_eq)
  | a :: l, [], _, _, p => absurd p.length_eq (by simp)
  | a :: l, b :: m, hl, hm, p => by
    have e : a = b := by
      have h1 : a ∈ b :: m := p.mem_iff.mp (List.mem_cons_self ..)
      have h2 : b ∈ a :: l := p.mem_iff.mpr (List.mem_cons_self ..)
      rcases List.mem_cons.mp h1 with h | h
      · exact h
      · rcases List.mem_cons.mp h2 with h' | h'
        · exact h'.symm
        · exact anti _ _ ((List.pairwise_cons.mp hl).1 _ h') ((List.pairwise_cons.mp hm).1 _ h)
    subst e
    rw [sorted_uniq anti (List.pairwise_cons.mp hl).2 (List.pairwise_cons.mp hm).2 p.cons_inv]
def leS (a b : Str) : Prop := a.cps.toList ≤ b.cps.toList
theorem leS_anti (a b : Str) (h : leS a b) (k : leS b a) : a = b := by
  have e : a.cps.toList = b.cps.toList := List.le_antisymm h k
  obtain ⟨⟨x⟩⟩ := a
  obtain ⟨⟨y⟩⟩ := b
  simp only at e
  rw [e]
theorem leS_trans {a b c : Str} (h : leS a b) (k : leS b c) : leS a c := List.le_trans h k
theorem leS_of {a b : Str} (h : (!ltCps b.cps.toList a.cps.toList) = true) : leS a b := by
  rw [ltCps_eq] at h
  have : ¬ b.cps.toList < a.cps.toList := by simpa using h
  exact List.not_lt.mp this
theorem rising_pw : ∀ (l : List Str) (p : Str), risingS p l = true → (p :: l).Pairwise leS
  | [], p, _ => by simp
  | x :: r, p, h => by
    simp only [risingS, Bool.and_eq_true] at h
    have q := rising_pw r x h.2
    have px := leS_of h.1
    rw [List.pairwise_cons]
    refine ⟨fun y hy => ?_, q⟩
    rcases List.mem_cons.mp hy with rfl | hy
    · exact px
    · exact leS_trans px ((List.pairwise_cons.mp q).1 y hy)
theorem sorted_pw : ∀ (l : List Str), sortedS l = true → l.Pairwise leS
  | [], _ => .nil
  | x :: r, h => rising_pw r x h
theorem sorted_eq {l m : List Str} (h : sortedS l = true) (k : sortedS m = true) (p : l.Perm m) : l = m := sorted_uniq leS_anti (sorted_pw l h) (sorted_pw m k) p
def dStrs (ns : List Str) : List PyData := ns.map .str
theorem dp_strs {K : PySem.W.Frag} {H : Hp} {a : Addr} {ns : List Str} (h : SqL K H a (ns.map V.str)) : Dp K H (.ref a) (.list (dStrs ns)) := by
  refine .lst h ?_
  clear h
  induction ns with
  | nil => exact .nil
  | cons n t ih => exact .cons (.str n) ih
theorem eqv_strs : ∀ ns : List Str, PyData.eqvAll (dStrs ns) (dStrs ns) = true
  | [] => rfl
  | n :: t => by
    show (PyData.eqv (.str n) (.str n) && PyData.eqvAll (dStrs t) (dStrs t)) = true
    rw [eqv_strs t]
    simp [PyData.eqv]
theorem depth_strs : ∀ ns : List Str, PyData.depthAll (dStrs ns) = 0
  | [] => rfl
  | n :: t => by
    show max (PyData.depth (.str n)) (PyData.depthAll (dStrs t)) = 0
    rw [depth_strs t]; rfl
/-- numbers that are told short -/
def dDue (e : Due) : PyData := .tuple [.int (e.2.1 : Int), .int (e.2.2 : Int)]
def dDues (E : List Due) : List PyData := E.map dDue
def Low (E : List Due) : Prop := ∀ e ∈ E, e.2.1 ≤ 16 ∧ e.2.2 ≤ 16
theorem dp_dues {K : PySem.W.Frag} {H : Hp} {kvs : List (Key × V)} {E : List Due} (h : DT K H kvs E) : DpAll K H (kvs.map (·.2)) (dDues E) := by
  induction h with
  | nil => exact .nil
  | cons h t ih =>
    obtain ⟨_, q, h2, h3⟩ := h
    rw [List.map_cons, h2]
    exact .cons (.tup h3 (.cons (.int _) (.cons (.int _) .nil))) ih
theorem low_short (n : Nat) (h : n ≤ 16) : (decide ((PyData.shown (.int (n : Int))).length ≤ 13)) = true ∧ decide ((n : Int).natAbs.log2 < 1920) = true := by
  have : ∀ n : Nat, n < 17 → (decide ((PyData.shown (.int (n : Int))).length ≤ 13)) = true ∧ decide ((n : Int).natAbs.log2 < 1920) = true := by decide +kernel
  exact this n (by omega)
theorem low_weight (n : Nat) (h : n ≤ 16) : PyData.weight (.int (n : Int)) ≤ 5 := by
  have : ∀ n : Nat, n < 17 → PyData.weight (.int (n : Int)) ≤ 5 := by decide +kernel
  exact this n (by omega)
structure ShowOk (d : PyData) : Prop where
  s : d.showable = true
  n : d.hasDict = false
  dp : d.depth ≤ 60
  l : d.shown.length ≤ sizeLine
theorem show_dues {E : List Due} (h : Low E) (hl : E.length ≤ 64) : ShowOk (.list (dDues E)) := by
  have key : PyData.showableAll (dDues E) = true ∧ PyData.canLayAll0 (dDues E) = true ∧ PyData.depthAll (dDues E) ≤ 1 ∧ PyData.weightAll (dDues E) ≤ 13 * E.length ∧ PyData.intsShortAll 13 (dDues E) = true := by
    clear hl
    induction E with
    | nil => exact ⟨rfl, rfl, Nat.zero_le _, Nat.zero_le _, rfl⟩
    | cons e t ih =>
      obtain ⟨i1, i2, i3, i4, i5⟩ := ih fun x hx => h x (List.mem_cons_of_mem _ hx)
      obtain ⟨h1, h2⟩ := h e (List.mem_cons_self ..)
      have w1 := low_weight _ h1
      have w2 := low_weight _ h2
      obtain ⟨a1, b1⟩ := low_short _ h1
      obtain ⟨a2, b2⟩ := low_short _ h2
      refine ⟨?_, ?_, ?_, ?_, ?_⟩
      · show (PyData.showableAll [.int (e.2.1 : Int), .int (e.2.2 : Int)] && PyData.showableAll (dDues t)) = true
        rw [i1]
        show ((decide ((e.2.1 : Int).natAbs.log2 < 1920) && (decide ((e.2.2 : Int).natAbs.log2 < 1920) && true)) && true) = true
        rw [b1, b2]; rfl
      · show (PyData.canLayAll0 [.int (e.2.1 : Int), .int (e.2.2 : Int)] && PyData.canLayAll0 (dDues t)) = true
        rw [i2]; rfl
      · show max (PyData.depth (dDue e)) (PyData.depthAll (dDues t)) ≤ 1
        refine Nat.max_le.mpr ⟨?_, i3⟩
        show PyData.depthAll [.int (e.2.1 : Int), .int (e.2.2 : Int)] + 1 ≤ 1
        exact Nat.le_of_eq rfl
      · show PyData.weight (dDue e) + 1 + PyData.weightAll (dDues t) ≤ 13 * (t.length + 1)
        have : PyData.weight (dDue e) = PyData.weight (.int (e.2.1 : Int)) + 1 + (PyData.weight (.int (e.2.2 : Int)) + 1 + 0) := rfl
        omega
      · show ((decide ((PyData.shown (.int (e.2.1 : Int))).length ≤ 13) && (decide ((PyData.shown (.int (e.2.2 : Int))).length ≤ 13) && true)) && PyData.intsShortAll 13 (dDues t)) = true
        rw [i5, a1, a2]; rfl
  obtain ⟨k1, k2, k3, k4, k5⟩ := key
  have hd : (PyData.list (dDues E)).depth ≤ 2 := by show PyData.depthAll (dDues E) + 1 ≤ 2; omega
  have hw : (PyData.list (dDues E)).weight ≤ 2 ^ 20 := by show PyData.weightAll (dDues E) ≤ 2 ^ 20; omega
  have hL : PyData.layable0 (.list (dDues E)) = true := by
    show (PyData.canLay0 (.list (dDues E)) && decide (PyData.depth (.list (dDues E)) ≤ 64) && decide (PyData.weight (.list (dDues E)) ≤ 2 ^ 20)) = true
    rw [decide_eq_true hw, decide_eq_true (show PyData.depth (.list (dDues E)) ≤ 64 by omega)]
    show ((PyData.canLayAll0 (dDues E)) && true && true) = true
    rw [k2]; rfl
  refine ⟨k1, PyData.hasDict_of_layable hL, by omega, ?_⟩
  have := shown_le13 hL k5
  rw [sizeLine_eq]
  omega
section
variable {P : Program} {w : World} {K : PySem.W.Frag} {mg : Str → Option Value} {base : Heap}
def spSame (K : PySem.W.Frag) : Sp := fun vs H Q _ => ∃ (f d : Addr) (kf kd : List (Key × V)) (g : Str → Due) (ss ns : List Str), vs = [.ref f, .ref d] ∧ H f = some (.dK kf) ∧ H d = some (.dK kd) ∧ f ≠ d ∧ (∀ n, (g n).1 = n) ∧
  DT K H kf (ss.map g) ∧ DT K H kd (ns.map g) ∧ ss.Perm ns ∧ sortedS ss = true ∧ ns.Nodup ∧ ns.length < 64 ∧ Low (ss.map g) ∧ (∀ n ∈ ss, PyData.strOk n = true) ∧ ∀ H', Same H H' → Q (.bl true) H'
theorem lay_strs : ∀ {ns : List Str}, (∀ n ∈ ns, PyData.strOk n = true) → PyData.canLayAll0 (dStrs ns) = true
  | [], _ => rfl
  | n :: t, h => by
    show (PyData.strOk n && PyData.canLayAll0 (dStrs t)) = true
    rw [h n (List.mem_cons_self ..), lay_strs fun x hx => h x (List.mem_cons_of_mem _ hx)]; rfl
theorem val_mem {κ : Type} [DecidableEq κ] : ∀ {kvs : List (κ × V)} {k : κ} {v : V}, (kvs.map (·.1)).Nodup → (k, v) ∈ kvs → valV kvs k = some v
  | (k0, v0) :: t, k, v, nd, h => by
    rw [List.map_cons, List.nodup_cons] at nd
    rcases List.mem_cons.mp h with e | h
    · cases e
      exact valV_pos rfl
    · rw [valV_neg (fun z => nd.1 (by rw [show k0 = k from z]; exact List.mem_map.mpr ⟨(k, v), h, rfl⟩))]
      exact val_mem nd.2 h
theorem map_getD {α : Type} (kvs : List (α × V)) : (List.range kvs.length).map (fun i => ((kvs[i]?).map (·.2)).getD .non) = kvs.map (·.2) := by
  refine List.ext_getElem? fun i => ?_
  rw [List.getElem?_map, List.getElem?_map]
  by_cases h : i < kvs.length
  · rw [List.getElem?_range h]
    simp [h]
  · rw [List.getElem?_eq_none (by simpa using h), List.getElem?_eq_none (by omega)]
    rfl
theorem strs_getD (zs : List Str) (f : Str → V) : (List.range zs.length).map (fun i => ((zs[i]?).map f).getD .non) = zs.map f := by
  refine List.ext_getElem? fun i => ?_
  rw [List.getElem?_map, List.getElem?_map]
  by_cases h : i < zs.length
  · rw [List.getElem?_range h]
    simp [h]
  · rw [List.getElem?_eq_none (by simpa using h), List.getElem?_eq_none (by omega)]
    rfl
theorem dp_pick {K : PySem.W.Frag} {H : Hp} {kd : List (Key × V)} (zs : List Str) (g : Str → Due) (h : ∀ n ∈ zs, ∃ q, valV kd (.inr n) = some (.ref q) ∧ SqT K H q [.int ((g n).2.1 : Int), .int ((g n).2.2 : Int)]) :
    DpAll K H (zs.map fun n => (valV kd (.inr n)).getD .non) (dDues (zs.map g)) := by
  induction zs with
  | nil => exact .nil
  | cons n t ih =>
    obtain ⟨q, h1, h2⟩ := h n (List.mem_cons_self ..)
    rw [List.map_cons, h1]
    exact .cons (.tup h2 (.cons (.int _) (.cons (.int _) .nil))) (ih fun x hx => h x (List.mem_cons_of_mem _ hx))
theorem names_g {g : Str → Due} (hg : ∀ n, (g n).1 = n) (ns : List Str) : (ns.map g).map (·.1) = ns := by
  induction ns with
  | nil => rfl
  | cons a t ih => rw [List.map_cons, List.map_cons, ih, hg]
theorem ok_l_same_dict (T : Txt K mg) : FnG P w K mg base CX0 1 (He.ga K "_law_same_dict") (fdOf K (He.ga K "_law_same_dict")) ["_law_found", "_law_due"] (spSame K) := by
  refine okG T.f_l_same_dict.F sc_l_same_dict (fun vs H Q E => by clear T; walk_at "k57len") (fun cdv A outer s H vs Q E hG hr h => ?_)
  obtain ⟨f, d, kf, kd, g, ss, ns, rfl, hf, hd, nfd, hg, Df, Dd, pm, so, nd, h64, low, sok, k⟩ := h
  refine ⟨_, PSs.nox (pss_cons (ps_if (PW.pt (pw_or (pt_not (pt_val (pe_callB (isi_K (K := K)) (by rfl) T.b_isinstance bb_isinstance (pa_cons (pv 0) (pa_cons (pe_bltn (v := .ty "dict") (by rfl) T.b_dict bb_dict rfl) pa_nil))))) (pw_or1 (pt_cmpR (neD_K (K := K) hr.units) (pe_callTy (call_listD rfl) (by rfl) T.b_list bb_list (pa_cons (pv 0) pa_nil)) (pe_callB (call_sortedD rfl) (by rfl) T.b_sorted bb_sorted (pa_cons (pv 1) pa_nil)) (nomark _))))) (pss_one (ps_ret pe_bl)) pss_nil)
      (pss_one (ps_ret (pe_cmpR op_eq (pe_callB (call_reprG (guards_deeper hG _) hr.units) (by rfl) T.b_repr bb_repr (pa_cons (pe_lock (pe_lc (own := [("_law_key", 2)]) (g := gName 2) (by rfl) sc_l_same_dict.nd (pi_keys (pv 0)) (blkOk_by (N := ["_law_found", "_law_due", "_law_key"]) (sc := defScope s_l_same_dict) (by decide +kernel)) (fun _ _ _ _ _ => pg_name (i := 2) sc_l_same_dict.nd rfl (Or.inl rfl)) (fun _ _ _ _ _ => pts_nil) (fun _ _ _ _ _ => (pe_dget (u1 hr.units) (pv 0) (pv 2) (fun _ _ => rfl))))) pa_nil)) (pe_callB (call_reprG (guards_deeper hG _) hr.units) (by rfl) T.b_repr bb_repr (pa_cons (pe_lc (own := [("_law_key", 2)]) (g := gName 2) (by rfl) sc_l_same_dict.nd (pil_K (K := K) (pe_callB (call_sortedD rfl) (by rfl) T.b_sorted bb_sorted (pa_cons (pv 1) pa_nil))) (blkOk_by (N := ["_law_found", "_law_due", "_law_key"]) (sc := defScope s_l_same_dict) (by decide +kernel)) (fun _ _ _ _ _ => pg_name (i := 2) sc_l_same_dict.nd rfl (Or.inl rfl)) (fun _ _ _ _ _ => pts_nil) (fun _ _ _ _ _ => (pe_dget (u1 hr.units) (pv 1) (pv 2) (fun _ _ => rfl)))) pa_nil)) (nomark _))))), ?_⟩
  have lenf : kf.length = ss.length := by have := Paired.len Df; rw [List.length_map] at this; exact this
  have keyf : kf.map (·.1) = ss.map Sum.inr := by rw [Df.keys, names_g hg]
  have keyd : kd.map (·.1) = ns.map Sum.inr := by rw [Dd.keys, names_g hg]
  refine ⟨_, rfl, _, _, _, _, true, rfl, .ty _, .base (.dK hf), kit_ty (by decide +kernel), _, rfl, ?_⟩
  refine iteF ?_
  refine ⟨_, rfl, f, kf, rfl, .inl hf, fun l nl => ?_⟩
  have s1 := same_upd (o := HO.lst (kf.map fun kv => kV kv.1)) nl
  have el : (kf.map fun kv => kV kv.1) = ss.map V.str := by
    have := congrArg (List.map kV) keyf
    rw [List.map_map, List.map_map] at this
    exact this
  rw [el] at s1 ⊢
  have l1 := upd_same (H := H) (a := l) (o := HO.lst (ss.map V.str))
  generalize upd H l (.lst (ss.map V.str)) = H1 at s1 l1 ⊢
  refine ⟨_, rfl, d, kd, ns, rfl, .inl (s1 _ _ hd), keyd, h64, fun ys m py sy nm => ?_⟩
  obtain rfl : ys = ss := sorted_eq sy so (py.trans pm.symm)
  have s2 := s1.trans (same_upd (o := HO.lst (ys.map V.str)) nm)
  have l2 := (same_upd (o := HO.lst (ys.map V.str)) nm) _ _ l1
  have m2 := upd_same (H := H1) (a := m) (o := HO.lst (ys.map V.str))
  generalize upd H1 m (.lst (ys.map V.str)) = H2 at s2 l2 m2 ⊢
  have shp : SeqAt.shaped (.list (dStrs ys)) = true := by
    show (PyData.canLayAll0 (dStrs ys) && decide (PyData.depthAll (dStrs ys) + 1 ≤ 64)) = true
    rw [depth_strs, lay_strs sok]; rfl
  refine ⟨_, _, dp_strs (SqL.of l2), dp_strs (SqL.of m2), shp, shp, _, rfl, ?_⟩
  rw [show PyData.eqv (.list (dStrs ys)) (.list (dStrs ys)) = true from eqv_strs ys]
  refine iteF ?_
  have f2 := s2 _ _ hf
  have d2 := s2 _ _ hd
  -- repr([found[key] for key in found])
  refine ⟨f, _, f2, trivial, fun od => ?_⟩
  refine ⟨_, rfl, f, od, rfl, .inl ⟨kf, upd_same, fun M nM => ?_⟩⟩
  have ff : upd H2 f (.frz od (.dK kf)) f = some (.frz od (.dK kf)) := upd_same
  have back : ∀ H', Same (upd H2 f (.frz od (.dK kf))) H' → Same H2 (upd H' f (.dK kf)) := fun H' s b u e => by
    by_cases z : b = f
    · subst z; rw [f2] at e; cases e; exact upd_same
    · rw [upd_ne z]; exact s _ _ (by rw [upd_ne z]; exact e)
  have nMf : M ≠ f := fun z => by rw [z, ff] at nM; cases nM
  generalize upd H2 f (.frz od (.dK kf)) = HF at nM ff back ⊢
  refine lcm (walk_keys (d := f) (o := od) (kvs := kf)) (by rw [lenf, pm.length_eq]; omega) nM (fun i => ((kf[i]?).map (·.2)).getD .non) (fun H s => s _ _ ff) (fun i H x H' h => by rw [h.1]; exact Same.refl _) (fun i x H3 H3' N hi s3 hy hN => ?_) (fun H3 s3 e3 => ?_)
  · obtain ⟨rfl, key, v, hkv, rfl⟩ := hy
    have hv : valV kf key = some v := val_mem (by rw [keyf]; exact (pm.nodup_iff.mpr nd).map Sum.inr (fun a b h z => h (Sum.inr.inj z))) (List.mem_of_getElem? hkv)
    have q := hN _ (Same.refl _)
    rw [hkv] at q
    exact ⟨rfl, _, rfl, _, rfl, f, v, rfl, .inl ⟨kf, key, .inr ⟨od, s3 _ _ ff⟩, rfl, hv.symm⟩, q⟩
  · have b3 := back _ s3
    have e3' : (upd H3 f (.dK kf)) M = some (.lst (kf.map (·.2))) := by
      rw [upd_ne nMf, e3, map_getD]
    refine ⟨s3 _ _ ff, ?_⟩
    have s23 := s2.trans b3
    have d3 := b3 _ _ d2
    generalize upd H3 f (.dK kf) = H4 at b3 e3' s23 d3 ⊢
    have so1 := show_dues low (by rw [List.length_map, pm.length_eq]; omega)
    refine ⟨M, .list (dDues (ys.map g)), rfl, .lst (SqL.of e3') (dp_dues (Df.seq fun _ _ h => sameT s23 h)), so1.s, so1.n, so1.dp, so1.l, ?_⟩
    -- repr([due[key] for key in sorted(due)])
    refine ⟨_, rfl, d, kd, ns, rfl, .inl d3, keyd, h64, fun zs mm pz sz nm2 => ?_⟩
    obtain rfl : zs = ys := sorted_eq sz so (pz.trans pm.symm)
    have s4 := same_upd (o := HO.lst (zs.map V.str)) nm2
    have l4 := upd_same (H := H4) (a := mm) (o := HO.lst (zs.map V.str))
    have s24 := s23.trans s4
    have d4 := s4 _ _ d3
    generalize upd H4 mm (.lst (zs.map V.str)) = H5 at s4 l4 s24 d4 ⊢
    refine ⟨mm, rfl, ⟨_, SqL.of l4⟩, fun M2 nM2 => ?_⟩
    have Dd5 := Dd.seq (H' := H5) fun _ _ h => sameT s24 h
    refine lcm (walk_list (K := K) (a := mm) (xs := zs.map V.str)) (by rw [List.length_map, pm.length_eq]; omega) nM2 (fun i => (((zs[i]?).map fun n => (valV kd (.inr n)).getD .non)).getD .non) (fun H s => s.seq (SqL.of l4)) yAt_same (fun i x H6 H6' N hi s6 hy hN => ?_) (fun H6 s6 e6 => ?_)
    · obtain ⟨rfl, hz⟩ := hy
      obtain ⟨n, hn, rfl⟩ := str_get hz
      obtain ⟨q, hq, _⟩ := Dd5.get (by rw [names_g hg]; exact nd) (List.mem_map_of_mem (f := g) (pm.mem_iff.mp (List.mem_of_getElem? hn)))
      rw [hg] at hq
      have r := hN _ (Same.refl _)
      rw [hn] at r
      exact ⟨rfl, _, rfl, _, rfl, d, _, rfl, .inl ⟨kd, .inr n, .inl (s6 _ _ d4), rfl, (by show some ((valV kd (.inr n)).getD V.non) = valV kd (.inr n); rw [hq]; rfl)⟩, r⟩
    · have d6 := s6 _ _ d4
      have e6' : H6 M2 = some (.lst (zs.map fun n => (valV kd (.inr n)).getD .non)) := by
        rw [e6, List.length_map, strs_getD]
      have Dd6 := Dd.seq (H' := H6) fun _ _ h => sameT (s24.trans s6) h
      have D6 : DpAll K H6 (zs.map fun n => (valV kd (.inr n)).getD .non) (dDues (zs.map g)) := by
        refine dp_pick zs g fun n hn => ?_
        obtain ⟨q, hq, h3⟩ := Dd6.get (by rw [names_g hg]; exact nd) (List.mem_map_of_mem (f := g) (pm.mem_iff.mp hn))
        rw [hg] at hq
        exact ⟨q, hq, h3⟩
      refine ⟨M2, .list (dDues (zs.map g)), rfl, .lst (SqL.of e6') D6, so1.s, so1.n, so1.dp, so1.l, ?_⟩
      refine ⟨rfl, ?_⟩
      rw [decide_eq_true rfl]
      exact k _ (s24.trans s6)
end
end K57
set_option Elab.async false
set_option linter.all false
set_option maxRecDepth 100000
set_option maxHeartbeats 4000000

/-! _law_looked. -/
namespace K57
open PySem PySem.Spec PyProof.Rows L2 LamX
local macro_rules | `(tactic| walk_at "k57g") => `(tactic| repeat (first | refine ⟨_, rfl, ?_⟩ | refine ⟨_, _, rfl, rfl, ?_⟩ | refine ⟨_, _, rfl, rfl, _, rfl, ?_⟩))
local macro_rules | `(tactic| walk_at "k57len") => `(tactic| (intro h; first | (obtain ⟨e, _⟩ := h; subst e; rfl) | (obtain ⟨_, e, _⟩ := h; subst e; rfl) | (obtain ⟨_, _, e, _⟩ := h; subst e; rfl) | (obtain ⟨_, _, _, e, _⟩ := h; subst e; rfl) | (obtain ⟨_, _, _, _, e, _⟩ := h; subst e; rfl) | (obtain ⟨_, _, _, _, _, e, _⟩ := h; subst e; rfl) | (obtain ⟨_, _, _, _, _, _, e, _⟩ := h; subst e; rfl) | (obtain ⟨_, _, _, _, _, _, _, e, _⟩ := h; subst e; rfl) | (obtain ⟨_, _, _, _, _, _, _, _, e, _⟩ := h; subst e; rfl) | ((repeat (obtain ⟨_, h⟩ := h)); subst_vars; rfl)))

theorem shp_len (k : Nat) : ∀ w : List Int, shp k (Ln w) ≤ w.length
  | [] => by
    show shp k (Ln []) ≤ 0
    have e : Ln [] = [] := rfl
    rw [e]
    simp [shp]
  | x :: t => by
    have h := (shp_more k [] t x).2
    simp only [List.nil_append, List.singleton_append] at h
    have := shp_len k t
    simp only [List.length_cons]
    omega
theorem isNm_ok {n : Str} (h : isNm n = true) : PyData.strOk n = true := by
  unfold isNm at h
  simp only [Bool.and_eq_true, List.all_eq_true, decide_eq_true_eq] at h
  have low : ∀ c ∈ signs.cps.toList, c < 0x110000 := by decide +kernel
  unfold PyData.strOk
  rw [Array.all_eq_true']
  intro c hc
  exact decide_eq_true (low c (h.2 c (by simpa using hc)))
theorem low_dues {D : Dc} {w : List Int} (hD : DOk (fun n => isNm n = true) D) (hw : w.length ≤ 16) (ss : List Str) (h : ∀ n ∈ ss, n ∈ D.map (·.1)) : Low (ss.map (dueOf w D)) := by
  intro e he
  obtain ⟨n, hn, rfl⟩ := List.mem_map.mp he
  refine ⟨?_, ?_⟩
  · show dv D n ≤ 16
    exact (hD.nm _ (dGet_mem (dv_of (h n hn)))).2
  · have := shp_len (dv D n) w
    show shp (dv D n) (Ln w) ≤ 16
    omega
theorem lk_seq {K : PySem.W.Frag} {H : Hp} {t : Addr} {kvs : List (Key × V)} {o : HO} (ht : H t = some (.dK kvs)) (a : Addr) (xs : List V) (h : SqT K H a xs) : SqT K (upd H t o) a xs := by
  rcases h with (h | ⟨ob, h⟩) | h
  · refine .inl (.inl ?_); rw [upd_ne]; · exact h
    intro z; subst z; rw [ht] at h; cases h
  · refine .inl (.inr ⟨ob, ?_⟩); rw [upd_ne]; · exact h
    intro z; subst z; rw [ht] at h; cases h
  · exact .inr h
theorem ul_seq {K : PySem.W.Frag} {H : Hp} {t : Addr} {od : Obj} {kvs : List (Key × V)} {o : HO} (ht : H t = some (.frz od (.dK kvs))) (a : Addr) (xs : List V) (h : SqT K H a xs) : SqT K (upd H t o) a xs := by
  rcases h with (h | ⟨ob, h⟩) | h
  · refine .inl (.inl ?_); rw [upd_ne]; · exact h
    intro z; subst z; rw [ht] at h; cases h
  · refine .inl (.inr ⟨ob, ?_⟩); rw [upd_ne]; · exact h
    intro z; subst z; rw [ht] at h; cases h
  · exact .inr h
theorem lk_back {H : Hp} {t : Addr} {od : Obj} {kvs : List (Key × V)} (ht : H t = some (.dK kvs)) {H' : Hp} (s : Same (upd H t (.frz od (.dK kvs))) H') : Same H (upd H' t (.dK kvs)) := fun b u e => by
  by_cases z : b = t
  · subst z; rw [ht] at e; cases e; exact upd_same
  · rw [upd_ne z]; exact s _ _ (by rw [upd_ne z]; exact e)
theorem LiveAt.word {K : PySem.W.Frag} {H : Hp} {p : Addr} {F : List Addr} {S0 : List St1} {w : List Int} {D : Dc} {dn la : List Deed} (L : LiveAt K H p F S0 w D dn la) :
    Lw w ∧ ∃ (dx wa ln : Addr) (e b f g s d a : V), H p = some (.ins (LWc K) dx (flds e b (.ref wa) (.ref ln) f g s d a)) ∧ Wt K H wa w ∧ Rt K H ln (Ln w) := by
  obtain ⟨dx, sa, da, aa, qs, dqs, lqs, T0, t, e, b, f, g, wa, ln, R, _, _, h3, h4, h5, _⟩ := L
  exact ⟨h5, dx, wa, ln, e, b, f, g, _, _, _, R.o, h3, h4⟩
theorem kv_at {D : Dc} (nd : (D.map (·.1)).Nodup) {i : Nat} {key : Key} {v : V} (h : (kvD D)[i]? = some (key, v)) : ∃ n, key = .inr n ∧ (D.map (·.1))[i]? = some n ∧ v = .int (dv D n : Int) ∧ valV (kvD D) (.inr n) = some (.int (dv D n : Int)) := by
  unfold kvD at h
  rw [List.getElem?_map] at h
  obtain ⟨⟨n, m⟩, h1, h2⟩ := Option.map_eq_some_iff.mp h
  cases h2
  have hn : n ∈ D.map (·.1) := List.mem_map.mpr ⟨(n, m), List.mem_of_getElem? h1, rfl⟩
  have e : dv D n = m := by
    have := dGet_of nd (List.mem_of_getElem? h1)
    unfold dv; rw [this]; rfl
  refine ⟨n, rfl, ?_, by rw [e], ?_⟩
  · rw [List.getElem?_map, h1]; rfl
  · rw [valV_kvD, dv_of hn]; rfl
section
variable {P : Program} {w : World} {K : PySem.W.Frag} {mg : Str → Option Value} {base : Heap}
def spLooked (K : PySem.W.Frag) : Sp := fun vs H Q _ => ∃ (p wa t : Addr) (F : List Addr) (S0 : List St1) (w : List Int) (D : Dc) (dn la : List Deed), vs = [.ref p, .ref wa, .ref t] ∧ LiveAt K H p F S0 w D dn la ∧ Wt K H wa w ∧
  H t = some (.dK (kvD D)) ∧ DOk (fun n => isNm n = true) D ∧ D.length < 64 ∧ t ∉ F ∧ ∀ H', Same H H' → Q (.bl true) H'
theorem ok_l_looked (T : Txt K mg) : FnG P w K mg base CX0 7 (He.ga K "_law_looked") (fdOf K (He.ga K "_law_looked")) ["_law_live", "_law_word", "_law_seen"] (spLooked K) := by
  refine okG T.f_l_looked.F sc_l_looked (fun vs H Q E => by clear T; walk_at "k57len") (fun cdv A outer s H vs Q E hG hr h => ?_)
  obtain ⟨p, wa, t, F, S0, w, D, dn, la, rfl, L, hw, ht, hD, h64, tF, k⟩ := h
  refine ⟨_, PSs.nox (pss_cons (ps_par (i := 4) (j := 5) rfl sc_l_looked.nd rfl rfl (by decide) rfl rfl (pa_cons (pe_callTy (call_dictP rfl) (by rfl) T.b_dict bb_dict (pa_cons (pe_lock (pe_lc (own := [("_law_name_here", 3)]) (g := gName 3) (by rfl) sc_l_looked.nd (pi_keys (pv 2)) (blkOk_by (N := ["_law_live", "_law_word", "_law_seen", "_law_name_here", "_law_due", "_law_told", "_law_row"]) (sc := defScope s_l_looked) (by decide +kernel)) (fun _ _ _ _ _ => pg_name (i := 3) sc_l_looked.nd rfl (Or.inl rfl)) (fun _ _ _ _ _ => pts_nil) (fun _ _ _ _ _ => (pe_tup (pa_cons (pv 3) (pa_cons (pe_tup (pa_cons (pe_dget (u1 hr.units) (pv 2) (pv 3) (fun _ _ => rfl)) (pa_cons (pe_call (ok_l_most T) (hr.mono (by decide)) rfl T.f_l_most.g T.f_l_most.F.kp T.f_l_most.b .nil pass0 (pa_cons (pv 1) (pa_cons (pe_dget (u1 hr.units) (pv 2) (pv 3) (fun _ _ => rfl)) pa_nil))) pa_nil))) pa_nil)))))) pa_nil)) (pa_cons (pe_meth0 (pv 0) T.cl_LW T.f_LW_watched.m (ok_LW_watched (N := fun n => isNm n = true) T) (hr.mono (by decide)) T.f_LW_watched.b .nil pass0) pa_nil)) (by rfl))
      (pss_cons (ps_if (pt_not (pt_val (callG (ok_l_same_dict T) (guards_deeper hG _) (hr.mono (by decide)) rfl T.f_l_same_dict.g T.f_l_same_dict.F.kp T.f_l_same_dict.b pass0 (pa_cons (pv 5) (pa_cons (pv 4) pa_nil))))) (pss_one (ps_ret pe_bl)) pss_nil)
      (pss_cons (ps_lock (ps_for PassesOwn.never rfl (pi_keys (pv 2)) (pg_name (i := 3) sc_l_looked.nd rfl (Or.inl rfl)) (pss_one (ps_if (pt_cmpR op_ne (pe_callB (sum_K (K := K)) (by rfl) T.b_sum bb_sum (pa_cons (pe_lc (own := [("_law_row", 6)]) (g := gName 6) (by rfl) sc_l_looked.nd (pit_K (K := K) (pe_call (ok_rising_lot T) (hr.mono (by decide)) rfl T.f_rising_lot.g T.f_rising_lot.F.kp T.f_rising_lot.b .nil pass0 (pa_cons (pe_fld (pv 0) rfl) (pa_cons (pe_dget (u1 hr.units) (pv 2) (pv 3) (fun _ _ => rfl)) pa_nil)))) (blkOk_by (N := ["_law_live", "_law_word", "_law_seen", "_law_name_here", "_law_due", "_law_told", "_law_row"]) (sc := defScope s_l_looked) (by decide +kernel)) (fun _ _ _ _ _ => pg_name (i := 6) sc_l_looked.nd rfl (Or.inl rfl)) (fun _ _ _ _ _ => pts_nil) (fun _ _ _ _ _ => (pe_callB (len_K (K := K)) (by rfl) T.b_len bb_len (pa_cons (pv 6) pa_nil)))) pa_nil)) (pe_ix (ixt_K (K := K)) (pe_dget (u1 hr.units) (pv 4) (pv 3) (fun _ _ => rfl)) pe_int (fun _ _ => rfl)) (nomark _)) (pss_one (ps_ret pe_bl)) pss_nil))))
      (pss_cons (ps_expr (pe_dclear (pv 5)))
      (pss_one (ps_ret (callG (ok_l_same_dict T) (guards_deeper hG _) (hr.mono (by decide)) rfl T.f_l_same_dict.g T.f_l_same_dict.F.kp T.f_l_same_dict.b pass0 (pa_cons (pe_meth0 (pv 0) T.cl_LW T.f_LW_watched.m (ok_LW_watched (N := fun n => isNm n = true) T) (hr.mono (by decide)) T.f_LW_watched.b .nil pass0) (pa_cons (pv 4) pa_nil))))))))), ?_⟩
  have hlw := L.word.1.len
  have hlen : (kvD D).length = D.length := List.length_map ..
  -- due = dict([.. for name in seen])
  refine ⟨t, _, ht, trivial, fun od => ?_⟩
  refine ⟨_, rfl, t, od, rfl, .inl ⟨kvD D, upd_same, fun M nM => ?_⟩⟩
  have ff : upd H t (.frz od (.dK (kvD D))) t = some (.frz od (.dK (kvD D))) := upd_same
  have hwF := lk_seq (o := .frz od (.dK (kvD D))) ht _ _ hw
  have back : ∀ H', Same (upd H t (.frz od (.dK (kvD D)))) H' → Same H (upd H' t (.dK (kvD D))) := fun H' s => lk_back ht s
  have nMt : M ≠ t := fun z => by rw [z, ff] at nM; cases nM
  generalize upd H t (.frz od (.dK (kvD D))) = HF at nM ff back hwF ⊢
  refine lcrm (walk_keys (d := t) (o := od) (kvs := kvD D)) (by rw [hlen]; omega) nM
    (fun i y H' => ∃ tt q n, (D.map (·.1))[i]? = some n ∧ y = .ref tt ∧ tt ≠ M ∧ q ≠ M ∧ SqT K H' tt [.str n, .ref q] ∧ SqT K H' q [.int (dv D n : Int), .int (shp (dv D n) (Ln w) : Int)])
    (fun i y H1 H2 ⟨tt, q, n, h1, h2, h3, h4, h5, h6⟩ bt => ⟨tt, q, n, h1, h2, h3, h4, sqT_but bt h3 h5, sqT_but bt h4 h6⟩) (fun H s => s _ _ ff) (fun i H x H' h => by rw [h.1]; exact Same.refl _) (fun i z H4 H4' ys N hi s4 hM hy hN => ?_) (fun H4 ys s4 e pr => ?_)
  · obtain ⟨rfl, key, v, hkv, rfl⟩ := hy
    obtain ⟨n, rfl, hn, rfl, hv⟩ := kv_at hD.nd hkv
    have g4 : DGet H4' t (.str n) (some (.int (dv D n : Int))) := .inl ⟨kvD D, .inr n, .inr ⟨od, s4 _ _ ff⟩, rfl, hv.symm⟩
    refine ⟨rfl, _, rfl, _, rfl, _, rfl, t, _, rfl, g4, ?_⟩
    refine ⟨_, rfl, _, rfl, _, rfl, t, _, rfl, g4, wa, w, dv D n, rfl, sameT s4 hwF, by omega, fun H5 s5 => ?_⟩
    refine ⟨(by show 2 ≤ sizeLine; decide), fun q nq => ⟨(by show 2 ≤ sizeLine; decide), fun t2 nt2 => ?_⟩⟩
    have s6 := same_upd (o := HO.tup [.int (dv D n : Int), .int (shp (dv D n) (Ln w) : Int)]) nq
    have s7 := same_upd (o := HO.tup [.str n, .ref q]) nt2
    have m5 := s5 _ _ hM
    have m6 := s6 _ _ m5
    exact hN _ _ (s5.trans (s6.trans s7)) ⟨t2, q, n, hn, rfl, (ne_of_none m6 nt2).symm, (ne_of_none m5 nq).symm, SqT.of upd_same, SqT.of (s7 _ _ upd_same)⟩
  · rw [hlen] at pr
    have f4 := s4 _ _ ff
    refine ⟨f4, ?_⟩
    have b4 := back _ s4
    have u4 : ∀ a xs, SqT K H4 a xs → SqT K (upd H4 t (.dK (kvD D))) a xs := fun a xs h => ul_seq (o := .dK (kvD D)) f4 a xs h
    have e4 : upd H4 t (.dK (kvD D)) M = some (.lst ys) := by rw [upd_ne nMt]; exact e
    obtain ⟨ps, kvs, rfl, h1, h2⟩ := dt_of (K := K) (H := upd H4 t (.dK (kvD D))) (E := (D.map (·.1)).map (dueOf w D)) (ys := ys) (Paired.ofRange (xs := (D.map (·.1)).map (dueOf w D)) (by rw [List.length_map, List.length_map]; exact pr) fun i x y hx hG => by
      obtain ⟨n, hn, rfl⟩ := Option.map_eq_some_iff.mp (by rw [← List.getElem?_map]; exact hx)
      obtain ⟨tt, q, n', hn', h2, _, _, h5, h6⟩ := hG
      rw [hn] at hn'
      cases hn'
      exact ⟨tt, q, h2, u4 _ _ h5, u4 _ _ h6⟩)
    generalize upd H4 t (.dK (kvD D)) = H5 at b4 e4 h1 h2 ⊢
    have hk := h2.keys
    have he : ((D.map (·.1)).map (dueOf w D)).map (·.1) = D.map (·.1) := by rw [List.map_map]; exact names_id w D _
    rw [he] at hk
    have hnd : (kvs.map (·.1)).Nodup := by
      rw [hk]
      exact hD.nd.map (f := Sum.inr) (fun a b h z => h (by injection z))
    refine ⟨M, ps, kvs, rfl, SqL.of e4, h1, fun d nd => ?_⟩
    rw [merge_nd hnd]
    have s6 := b4.trans (same_upd (o := HO.dK kvs) nd)
    have Dd := h2.seq fun a xs h => sameT (same_upd (o := HO.dK kvs) nd) h
    have d6 := upd_same (H := H5) (a := d) (o := HO.dK kvs)
    generalize upd H5 d (.dK kvs) = H6 at s6 Dd d6 ⊢
    -- told = live.watched()
    have L6 := L.same s6
    obtain ⟨_, dx, wa2, ln, ee, bb, fF, gg, ss, dd, aa, hp, hwa, hln⟩ := L6.word
    refine ⟨_, rfl, p, dx, _, rfl, hp, rfl, p, F, S0, w, D, dn, la, rfl, L6, hD, h64, fun td kt ns H7 s7 ntd htd pm so Dt => ?_⟩
    refine ⟨_, _, rfl, ?_⟩
    have s17 := s6.trans s7
    have Dd7 := Dd.seq fun a xs h => sameT s7 h
    have d7 := s7 _ _ d6
    have dtd : td ≠ d := fun z => by rw [z, d6] at ntd; cases ntd
    have t7 := s17 _ _ ht
    have dnt : d ≠ t := fun z => by rw [z] at nd; rw [b4 _ _ ht] at nd; cases nd
    have tdt : td ≠ t := fun z => by rw [z] at ntd; rw [s6 _ _ ht] at ntd; cases ntd
    have lowN : ∀ n ∈ ns, n ∈ D.map (·.1) := fun n hn => pm.mem_iff.mp hn
    have lw := low_dues (w := w) hD (by omega) ns lowN
    have sok : ∀ n ∈ ns, PyData.strOk n = true := fun n hn => by
      obtain ⟨y, h1, rfl⟩ := List.mem_map.mp (lowN n hn)
      exact isNm_ok (hD.nm y h1).1
    have hl64 : (D.map (·.1)).length < 64 := by rw [List.length_map]; exact h64
    -- if not same_dict(told, due)
    refine ⟨_, rfl, _, rfl, td, d, kt, kvs, dueOf w D, ns, D.map (fun x : Str × Nat => x.1), rfl, htd, d7, dtd, fun _ => rfl, Dt, Dd7, pm, so, hD.nd, hl64, lw, sok, fun H8 s8 => ?_⟩
    refine ⟨_, rfl, ?_⟩
    refine iteF ?_
    have s18 := s17.trans s8
    have t8 := s8 _ _ t7
    have d8 := s8 _ _ d7
    have td8 := s8 _ _ htd
    have Dd8 := Dd7.seq fun a xs h => sameT s8 h
    have L8 := L6.same (s7.trans s8)
    -- for name in seen
    refine ⟨t, _, t8, trivial, fun od2 => ?_⟩
    have g8 : upd H8 t (.frz od2 (.dK (kvD D))) t = some (.frz od2 (.dK (kvD D))) := upd_same
    have back8 : ∀ H', Same (upd H8 t (.frz od2 (.dK (kvD D)))) H' → Same H8 (upd H' t (.dK (kvD D))) := fun H' s => lk_back t8 s
    have c8 : Chg K [t] H8 (upd H8 t (.frz od2 (.dK (kvD D)))) := Chg.upd t8 trivial (by simp)
    have LF := L8.chg c8 fun x h z => tF (by have : x = t := by simpa using z
                                             exact this ▸ h)
    have dF : upd H8 t (.frz od2 (.dK (kvD D))) d = some (.dK kvs) := by rw [upd_ne dnt]; exact d8
    have DdF := Dd8.seq fun a xs h => c8.seq a xs h
    generalize upd H8 t (.frz od2 (.dK (kvD D))) = HG at g8 back8 c8 LF dF DdF ⊢
    refine ⟨_, rfl, t, od2, rfl, .inl ⟨kvD D, g8, ?_⟩⟩
    refine for_it walk_keys (fun i σ H' => ∃ (v3 v6 : Option V), σ = [some (.ref p), some (.ref wa), some (.ref t), v3, some (.ref d), some (.ref td), v6] ∧ Same HG H') ⟨_, _, rfl, Same.refl _⟩ ?_ ?_ ?_
    · rintro i σ H9 _ ⟨v3, v6, rfl, s9⟩
      exact s9 _ _ g8
    · rintro i x σ H9 H9' hi ⟨v3, v6, rfl, s9⟩ ⟨rfl, key, v, hkv, rfl⟩
      obtain ⟨n, rfl, hn, rfl, hv⟩ := kv_at hD.nd hkv
      have hnD := List.mem_of_getElem? hn
      have hdv : dv D n ≤ 16 := (hD.nm _ (dGet_mem (dv_of hnD))).2
      obtain ⟨q, hq, hq2⟩ := DdF.get (by rw [he]; exact hD.nd) (List.mem_map_of_mem (f := dueOf w D) hnD)
      have hq : valV kvs (.inr n) = some (.ref q) := hq
      have hq2 : SqT K HG q [.int (dv D n : Int), .int (shp (dv D n) (Ln w) : Int)] := hq2
      obtain ⟨hlw9, dx9, wa9, ln9, e9, b9, f9, g9, st9, dd9, aa9, hp9, hwa9, _⟩ := (LF.same s9).word
      have g4 : DGet H9' t (.str n) (some (.int (dv D n : Int))) := .inl ⟨kvD D, .inr n, .inr ⟨od2, s9 _ _ g8⟩, rfl, hv.symm⟩
      refine ⟨_, rfl, p, _, dx9, _, _, rfl, hp9, T.cl_LW, T.na_word, rfl, _, rfl, _, rfl, t, _, rfl, g4, ?_⟩
      refine ⟨wa9, w, dv D n, rfl, hwa9, hlw9, hdv, fun rp rows HA sA hR hsum hrl => ?_⟩
      obtain ⟨qs, hqs, hpr⟩ := hR
      refine ⟨rp, rfl, ⟨_, hqs⟩, fun M2 nM2 => ?_⟩
      refine lcm (walk_tup (K := K) (a := rp) (xs := qs.map V.ref)) (by rw [List.length_map, Paired.len hpr]; omega) nM2 (fun i => V.int ((rows.getD i []).length : Int)) (fun H s => sameT s hqs) yAt_same (fun i x HB HB' N hi sB hy hN => ?_) (fun HB sB eB => ?_)
      · obtain ⟨rfl, hz⟩ := hy
        obtain ⟨q1, hq1, rfl⟩ := map_some hz
        obtain ⟨r1, hr1, hw1⟩ := Paired.at' hpr hq1
        have z := hN _ (Same.refl _)
        rw [show rows.getD i [] = r1 by rw [List.getD, hr1]; rfl] at z
        refine ⟨rfl, _, rfl, q1, _, rfl, .inr (sameT sB hw1), ?_⟩
        rw [List.length_map]
        exact z
      · rw [List.length_map, Paired.len hpr, range_map rows [] (fun r => V.int (r.length : Int))] at eB
        have eB' : HB M2 = some (.lst ((rows.map fun r => (r.length : Int)).map V.int)) := by rw [eB, List.map_map]; rfl
        refine ⟨M2, rows.map fun r => (r.length : Int), rfl, SqL.of eB', ?_⟩
        have sall := (s9.trans sA).trans sB
        have esum : (rows.map fun r => (r.length : Int)).sum = (shp (dv D n) (Ln w) : Int) := by
          rw [← hsum]
          clear hsum hpr hqs eB eB' hrl
          induction rows with
          | nil => rfl
          | cons r t ih => rw [List.map_cons, List.sum_cons, ih, List.map_cons, List.sum_cons]; omega
        rw [esum]
        refine ⟨_, rfl, _, rfl, d, .ref q, rfl, .inl ⟨kvs, .inr n, .inl (sall _ _ dF), rfl, hq.symm⟩, q, _, _, _, rfl, rfl, sameT sall hq2, atI_nat (j := 1) rfl, ?_⟩
        refine ⟨rfl, _, rfl, ?_⟩
        rw [show (!decide (V.int (shp (dv D n) (Ln w) : Int) = V.int (shp (dv D n) (Ln w) : Int))) = false by simp]
        refine iteF ?_
        exact ⟨_, _, rfl, sall⟩
    · rintro σ H9 ⟨v3, v6, rfl, s9⟩
      refine ⟨s9 _ _ g8, ?_⟩
      have b9 := back8 _ s9
      generalize upd H9 t (.dK (kvD D)) = HA at b9 ⊢
      -- told.clear()
      have tdA := b9 _ _ td8
      refine ⟨_, rfl, .inr (.inr (.inl ⟨rfl, .inl ⟨_, tdA⟩⟩)), td, _, rfl, rfl, tdA, ?_⟩
      have sA : Same H (upd HA td (.dK [])) := fun b u e => by
        have z : b ≠ td := fun z => by rw [z] at e; rw [s6 _ _ e] at ntd; cases ntd
        rw [upd_ne z]
        exact b9 _ _ (s18 _ _ e)
      have dA : upd HA td (.dK []) d = some (.dK kvs) := by rw [upd_ne dtd.symm]; exact b9 _ _ d8
      have DdA := Dd8.seq fun a xs h => (Chg.upd (K := K) (D := [td]) (o := .dK []) tdA trivial (by simp)).seq _ _ (sameT b9 h)
      generalize upd HA td (.dK []) = HB at sA dA DdA ⊢
      have LB := L.same sA
      obtain ⟨_, dxB, waB, lnB, eB, bB, fB, gB, stB, ddB, aaB, hpB, _⟩ := LB.word
      refine ⟨_, rfl, p, dxB, _, rfl, hpB, rfl, p, F, S0, w, D, dn, la, rfl, LB, hD, h64, fun td2 kt2 ns2 HC sC ntd2 htd2 pm2 so2 Dt2 => ?_⟩
      have lowN2 : ∀ n ∈ ns2, n ∈ D.map (·.1) := fun n hn => pm2.mem_iff.mp hn
      have lw2 := low_dues (w := w) hD (by omega) ns2 lowN2
      have sok2 : ∀ n ∈ ns2, PyData.strOk n = true := fun n hn => by
        obtain ⟨y, h1, rfl⟩ := List.mem_map.mp (lowN2 n hn)
        exact isNm_ok (hD.nm y h1).1
      have dtd2 : td2 ≠ d := fun z => by rw [z, dA] at ntd2; cases ntd2
      exact ⟨_, rfl, td2, d, kt2, kvs, dueOf w D, ns2, D.map (fun x : Str × Nat => x.1), rfl, htd2, sC _ _ dA, dtd2, fun _ => rfl, Dt2, DdA.seq fun a xs h => sameT sC h, pm2, so2, hD.nd, hl64, lw2, sok2, fun HD sD => k HD (sA.trans (sC.trans sD))⟩
end
end K57
set_option Elab.async false
set_option linter.all false
set_option maxRecDepth 100000
set_option maxHeartbeats 4000000

/-! The law. -/
namespace K57
open PySem PySem.Spec PyProof.Rows L2 LamX
local macro_rules | `(tactic| walk_at "k57g") => `(tactic| repeat (first | refine ⟨_, rfl, ?_⟩ | refine ⟨_, _, rfl, rfl, ?_⟩ | refine ⟨_, _, rfl, rfl, _, rfl, ?_⟩))
local macro_rules | `(tactic| walk_at "k57len") => `(tactic| (intro h; first | (obtain ⟨e, _⟩ := h; subst e; rfl) | (obtain ⟨_, e, _⟩ := h; subst e; rfl) | (obtain ⟨_, _, e, _⟩ := h; subst e; rfl) | (obtain ⟨_, _, _, e, _⟩ := h; subst e; rfl) | (obtain ⟨_, _, _, _, e, _⟩ := h; subst e; rfl) | (obtain ⟨_, _, _, _, _, e, _⟩ := h; subst e; rfl) | (obtain ⟨_, _, _, _, _, _, e, _⟩ := h; subst e; rfl) | (obtain ⟨_, _, _, _, _, _, _, e, _⟩ := h; subst e; rfl) | (obtain ⟨_, _, _, _, _, _, _, _, e, _⟩ := h; subst e; rfl) | ((repeat (obtain ⟨_, h⟩ := h)); subst_vars; rfl)))

theorem sll_K {X : Cx} {K : PySem.W.Frag} (e : X.K = K := by rfl) : SlR X (rSlL K) := by subst e; exact sl_list
theorem and2 {c A B : Prop} [Decidable c] (hB : B) (hA : c → B → A) : if c then A else B := by
  by_cases h : c
  · rw [if_pos h]; exact hA h hB
  · rw [if_neg h]; exact hB
theorem lk_backT {K : PySem.W.Frag} {H : Hp} {t : Addr} {od : Obj} {kvs : List (Key × V)} (ht : H t = some (.dK kvs)) {H' : Hp} (s : ChT K [] (upd H t (.frz od (.dK kvs))) H') : ChT K [] H (upd H' t (.dK kvs)) := by
  refine ⟨fun b u hb n e => ?_, fun b u z e => ?_⟩
  · by_cases z : b = t
    · subst z; rw [ht] at e; cases e; exact upd_same
    · rw [upd_ne z]; exact s.keep _ _ hb n (by rw [upd_ne z]; exact e)
  · by_cases y : b = t
    · subst y; rw [ht] at e; cases e; exact upd_same
    · rw [upd_ne y]; exact s.sol _ _ z (by rw [upd_ne y]; exact e)
theorem tabs_ul {T : List (Addr × Str)} {H : Hp} {t : Addr} {od : Obj} {u o : HO} (h : Tabs T H) (ht : H t = some (.frz od u)) : Tabs T (upd H t o) := fun p hp => by
  obtain ⟨ps, h1, h2, h3⟩ := h p hp
  refine ⟨ps, (by rw [upd_ne (fun z => by rw [z, ht] at h1; cases h1)]; exact h1), h2, fun pos cv hc => ?_⟩
  obtain ⟨c0, e1, e2⟩ := h3 pos cv hc
  exact ⟨c0, e1, by rw [upd_ne (fun z => by rw [z, ht] at e2; cases e2)]; exact e2⟩
/-- what has been done, from the first word on -/
inductive Past : List St1 → List Deed → List Int → Prop
  | nil {w : List Int} : Past [] [] w
  | snoc {S : List St1} {dn : List Deed} {w0 : List Int} {D0 : Dc} {d : Deed} {w : List Int} : Past S dn w0 → d.ok → after w0 d = some w → Past (S ++ [(w0, D0)]) (dn ++ [d]) w
/-- what was taken back, the next last -/
inductive Next : List Int → List Deed → Prop
  | nil {w : List Int} : Next w []
  | snoc {w w' : List Int} {la : List Deed} {d : Deed} : d.ok → after w d = some w' → Next w' la → Next w (la ++ [d])
theorem Past.inv {S1 S : List St1} {dn : List Deed} {w0 w : List Int} {D0 : Dc} (h : Past S dn w) (e : S = S1 ++ [(w0, D0)]) : ∃ dn1 d, dn = dn1 ++ [d] ∧ Past S1 dn1 w0 ∧ d.ok ∧ after w0 d = some w := by
  cases h with
  | nil => exact absurd (congrArg List.length e) (by simp)
  | snoc h1 h2 h3 =>
    obtain ⟨rfl, e2⟩ := List.append_inj' e rfl
    cases e2
    exact ⟨_, _, rfl, h1, h2, h3⟩
theorem Past.len {S : List St1} {dn : List Deed} {w : List Int} (h : Past S dn w) : dn.length = S.length := by
  induction h with
  | nil => rfl
  | snoc _ _ _ ih => simp [ih]
theorem Next.inv {la0 la : List Deed} {d : Deed} {w : List Int} (h : Next w la) (e : la = la0 ++ [d]) : ∃ w', d.ok ∧ after w d = some w' ∧ Next w' la0 := by
  cases h with
  | nil => exact absurd (congrArg List.length e) (by simp)
  | snoc h1 h2 h3 =>
    obtain ⟨rfl, e2⟩ := List.append_inj' e rfl
    cases e2
    exact ⟨_, h1, h2, h3⟩
theorem paired_last {α β : Type} {F : α → β → Prop} {l : List α} {m : List β} {y : β} (h : Paired F l (m ++ [y])) : ∃ l0 x, l = l0 ++ [x] ∧ Paired F l0 m ∧ F x y := by
  obtain ⟨l1, l2, rfl, h1, h2⟩ := Paired.split h
  cases h2 with
  | cons h3 t =>
    cases t
    exact ⟨l1, _, rfl, h1, h3⟩
/-- the law's own list of states -/
def StL (K : PySem.W.Frag) (dr lg cl : Addr) (F : List Addr) (H : Hp) (q : Addr) (s : St1) : Prop :=
  ∃ wa t, SqT K H q [.ref wa, .ref t] ∧ Wt K H wa s.1 ∧ H t = some (.dK (kvD s.2)) ∧ t ∉ F ∧ t ∉ Dg dr lg cl
theorem StL.step {K : PySem.W.Frag} {dr lg cl q : Addr} {F F' : List Addr} {H H' : Hp} {s : St1} (h : StL K dr lg cl F H q s) (c : ChT K (F ++ Dg dr lg cl) H H') (f : ∀ x ∈ F', x ∈ F ∨ H x = none) : StL K dr lg cl F' H' q s := by
  obtain ⟨wa, t, h1, h2, h3, h4, h5⟩ := h
  refine ⟨wa, t, c.seq _ _ h1, c.seq _ _ h2, c.keep _ _ (by simp only [List.mem_append, not_or]; exact ⟨h4, h5⟩) (fun ps z => by cases z) h3, fun z => ?_, h5⟩
  rcases f t z with e | e
  · exact h4 e
  · rw [h3] at e; cases e
structure LwI (K : PySem.W.Frag) (tabs : List (Addr × Str)) (dr lg cl p sl lt : Addr) (F : List Addr) (S0 : List St1) (w : List Int) (D : Dc) (dn la : List Deed) (qs lqs : List Addr) (n : Nat) (H : Hp) : Prop where
  W : Wl K tabs dr lg cl p F S0 w D dn la H
  s : H sl = some (.lst (qs.map V.ref))
  ss : Paired (fun q s => StL K dr lg cl F H q s) qs (S0 ++ [(w, D)])
  l : H lt = some (.lst (lqs.map V.ref))
  ll : Paired (fun q d => SqT K H q (Deed.v d)) lqs la
  pa : Past S0 dn w
  nx : Next w la
  ok : ∀ s ∈ S0 ++ [(w, D)], DOk (fun n => isNm n = true) s.2 ∧ s.2.length ≤ n
  b1 : S0.length ≤ n
  b2 : la.length ≤ n
  ns : sl ∉ F ∧ sl ∉ Dg dr lg cl
  nl : lt ∉ F ∧ lt ∉ Dg dr lg cl
  ne : lt ≠ sl
section
variable {K : PySem.W.Frag} {tabs : List (Addr × Str)} {dr lg cl p sl lt : Addr} {F : List Addr} {S0 : List St1} {w : List Int} {D : Dc} {dn la : List Deed} {qs lqs : List Addr} {n : Nat} {H H' : Hp}
theorem LwI.keep (I : LwI K tabs dr lg cl p sl lt F S0 w D dn la qs lqs n H) (c : ChT K (F ++ Dg dr lg cl) H H') (W' : Wl K tabs dr lg cl p F S0 w D dn la H') : LwI K tabs dr lg cl p sl lt F S0 w D dn la qs lqs n H' where
  W := W'
  s := c.keep _ _ (by simp only [List.mem_append, not_or]; exact I.ns) (fun ps z => by cases z) I.s
  ss := Paired.mapP I.ss fun _ _ h => h.step c fun x h => .inl h
  l := c.keep _ _ (by simp only [List.mem_append, not_or]; exact I.nl) (fun ps z => by cases z) I.l
  ll := Paired.mapP I.ll fun _ _ h => c.seq _ _ h
  pa := I.pa
  nx := I.nx
  ok := I.ok
  b1 := I.b1
  b2 := I.b2
  ns := I.ns
  nl := I.nl
  ne := I.ne
theorem LwI.same (I : LwI K tabs dr lg cl p sl lt F S0 w D dn la qs lqs n H) (s : Same H H') : LwI K tabs dr lg cl p sl lt F S0 w D dn la qs lqs n H' := I.keep (.of s) (I.W.same s)
theorem LwI.dg (I : LwI K tabs dr lg cl p sl lt F S0 w D dn la qs lqs n H) (c : Chg K (Dg dr lg cl) H H') (d : DrAt H' dr lg cl) : LwI K tabs dr lg cl p sl lt F S0 w D dn la qs lqs n H' :=
  I.keep (c.t.more fun x h => .inl (List.mem_append_right _ h)) (I.W.dg c d)
theorem LwI.more {m : Nat} (I : LwI K tabs dr lg cl p sl lt F S0 w D dn la qs lqs n H) (h : n ≤ m) : LwI K tabs dr lg cl p sl lt F S0 w D dn la qs lqs m H :=
  ⟨I.W, I.s, I.ss, I.l, I.ll, I.pa, I.nx, fun s hs => ⟨(I.ok s hs).1, by have := (I.ok s hs).2; omega⟩, by have := I.b1; omega, by have := I.b2; omega, I.ns, I.nl, I.ne⟩
end
section
variable {P : Program} {w : World} {K : PySem.W.Frag} {mg : Str → Option Value} {base : Heap}
def spLaw (K : PySem.W.Frag) (tabs : List (Addr × Str)) : Sp := fun vs H Q _ => ∃ (a : Addr) (ns : List Int), vs = [.ref a] ∧ SqL K H a (ns.map V.int) ∧ ns.length ≤ 1000000 ∧ Tabs tabs H ∧ ∀ H', Q (.bl true) H'
theorem ok_law {tabs : List (Addr × Str)} (T : Txt K mg) (XT : XTxt P w K mg base) (LT : LTxt K mg base tabs "_law_is_let_go") (LT2 : LTxt K mg base tabs "_law_refused") (nw : mg "NoWatch" = some (.ref (He.ga K "NoWatch"))) (bnu : mg "BadNumber" = some (.ref (He.ga K "BadNumber"))) :
    FnG P w K mg base CX0 11 (He.ga K "law") (fdOf K (He.ga K "law")) ["_law_script"] (spLaw K tabs) := by
  refine okG T.f_law.F sc_law (fun vs H Q E => by clear T XT LT LT2 nw bnu; walk_at "k57len") (fun cdv A outer s H vs Q E hG hr h => ?_)
  obtain ⟨a, ns, rfl, ha, hn, hT, k⟩ := h
  refine ⟨_, PSs.nox (pss_cons (ps_set (i := 1) sc_law.nd rfl (Or.inl rfl) (pe_call (ok_l_begun T) (hr.mono (by decide)) rfl T.f_l_begun.g T.f_l_begun.F.kp T.f_l_begun.b .nil pass0 (pa_cons (pv 0) pa_nil)))
      (pss_cons (ps_set (i := 2) sc_law.nd rfl (Or.inr rfl) (pe_make T.mk_LW (ok_LW_init T) (hr.mono (by decide)) rfl T.g_LW T.f_LW_init.b .nil pass0 (pa_cons (pe_call (ok_l_pick T) (hr.mono (by decide)) rfl T.f_l_pick.g T.f_l_pick.F.kp T.f_l_pick.b .nil pass0 (pa_cons (pv 1) (pa_cons (pe_lst (pa_cons pe_int (pa_cons pe_int (pa_cons pe_int pa_nil)))) pa_nil))) (pa_cons (pe_call (ok_l_long_word T) (hr.mono (by decide)) rfl T.f_l_long_word.g T.f_l_long_word.F.kp T.f_l_long_word.b .nil pass0 (pa_cons (pv 1) (pa_cons pe_int pa_nil))) pa_nil))))
      (pss_cons (ps_asg (pe_tup (pa_cons (pe_lst (pa_cons (pe_tup (pa_cons (pe_fld (pv 2) rfl) (pa_cons pe_dnewK pa_nil))) pa_nil)) (pa_cons (pe_lst pa_nil) pa_nil))) (pg_tup rfl (pgs_cons (pg_name (i := 3) sc_law.nd rfl (Or.inr rfl)) (pgs_cons (pg_name (i := 4) sc_law.nd rfl (Or.inl rfl)) pgs_nil))))
      (pss_cons (ps_for PassesOwn.never rfl (pi_range1 (by rfl) T.b_range (pa_cons (pe_op op_add pe_int (pe_call (ok_l_take T) (hr.mono (by decide)) rfl T.f_l_take.g T.f_l_take.F.kp T.f_l_take.b .nil pass0 (pa_cons (pv 1) (pa_cons pe_int pa_nil)))) pa_nil)) (pg_name (i := 5) sc_law.nd rfl (Or.inl rfl)) (pss_cons (ps_asg (pe_ix (ixl_K (K := K)) (pv 3) (pe_un un_neg pe_int) (fun _ _ => rfl)) (pg_tup rfl (pgs_cons (pg_name (i := 6) sc_law.nd rfl (Or.inl rfl)) (pgs_cons (pg_name (i := 7) sc_law.nd rfl (Or.inl rfl)) pgs_nil))))
      (pss_cons (ps_par3 (i := 8) (j := 9) (l := 10) rfl sc_law.nd rfl rfl rfl (by decide) (by decide) (by decide) rfl rfl rfl (pa_cons (pe_call (ok_l_take T) (hr.mono (by decide)) rfl T.f_l_take.g T.f_l_take.F.kp T.f_l_take.b .nil pass0 (pa_cons (pv 1) (pa_cons pe_int pa_nil))) (pa_cons (pe_meth0 (pv 2) T.cl_LW T.f_LW_watched.m (ok_LW_watched (N := fun n => isNm n = true) T) (hr.mono (by decide)) T.f_LW_watched.b .nil pass0) (pa_cons (pe_fld (pv 2) rfl) pa_nil))) (by rfl))
      (pss_cut (ps_if (PW.pt (pw_and (pt_cmpR op_eq (pv 8) pe_int (nomark _)) (pw_and1 (pt_cmpR op_gt (pe_callB (len_K (K := K)) (by rfl) T.b_len bb_len (pa_cons (pv 3) pa_nil)) pe_int (nomark _))))) (pss_cons (ps_set (i := 4) sc_law.nd rfl (Or.inl rfl) (pe_op op_cat (pv 4) (pe_lst (pa_cons (pe_ix (ixl_K (K := K)) (pe_meth0 (pv 2) T.cl_LW T.f_LW_deeds.m (ok_LW_deeds T) (hr.mono (by decide)) T.f_LW_deeds.b .nil pass0) (pe_un un_neg pe_int) (fun _ _ => rfl)) pa_nil))))
      (pss_cons (ps_expr (pe_meth0 (pv 2) T.cl_LW T.f_LW_undo.m (ok_LW_undo T) (hr.mono (by decide)) T.f_LW_undo.b .nil pass0))
      (pss_cons (ps_set (i := 3) sc_law.nd rfl (Or.inr rfl) (pe_slice (sll_K (K := K)) (pv 3) po_none (po_some (pe_un un_neg pe_int))))
      (pss_one (ps_if (pt_cmpR (neD_K (K := K) hr.units) (pe_lock (pe_lc (own := [("_law_name_here", 13)]) (g := gName 13) (by rfl) sc_law.nd (pi_keys (pv 7)) (blkOk_by (N := ["_law_script", "_law_draw", "_law_live", "_law_states_here", "_law_later", "_law_lap", "_law_word", "_law_seen", "_law_way", "_law_old", "_law_lines", "_law_fresh", "_law_deed_here", "_law_name_here"]) (sc := defScope s_law) (by decide +kernel)) (fun _ _ _ _ _ => pg_name (i := 13) sc_law.nd rfl (Or.inl rfl)) (fun _ _ _ _ _ => pts_one (PW.pt (pw_and (pt_cmp (pc_dnotin (u1 hr.units) (pv 13) (pe_ix (ixt_K (K := K)) (pe_ix (ixl_K (K := K)) (pv 3) (pe_un un_neg pe_int) (fun _ _ => rfl)) pe_int (fun _ _ => rfl)))) (pw_and1 (pt_not (pt_val (pe_call (ok_l_is_let_go T XT LT nw) (hr.mono (by decide)) rfl T.f_l_is_let_go.g T.f_l_is_let_go.F.kp T.f_l_is_let_go.b .nil pass0 (pa_cons (pv 2) (pa_cons (pv 13) pa_nil))))))))) (fun _ _ _ _ _ => (pv 13)))) (pe_lst pa_nil) (nomark _)) (pss_one (ps_ret pe_bl)) pss_nil))))) (pss_one (ps_if (pt_cmpR op_lt (pv 8) pe_int (nomark _)) (pss_cons (ps_set (i := 11) sc_law.nd rfl (Or.inl rfl) (pe_call (ok_l_watch T XT LT nw) (hr.mono (by decide)) rfl T.f_l_watch.g T.f_l_watch.F.kp T.f_l_watch.b .nil pass0 (pa_cons (pv 1) (pa_cons (pv 2) (pa_cons (pv 7) pa_nil)))))
      (pss_cons (ps_if (pt_cmpR op_isN (pv 11) pe_non (nomark _)) (pss_one (ps_ret pe_bl)) pss_nil)
      (pss_one (ps_asg (pe_tup (pa_cons (pv 6) (pa_cons (pv 11) pa_nil))) (pg_sub (pv 3) (pe_un un_neg pe_int) set_list))))) (pss_cut (ps_set (i := 12) sc_law.nd rfl (Or.inl rfl) (pe_ifExp (PW.pt (pw_and (pt_cmpR op_eq (pv 8) pe_int (nomark _)) (pw_and1 (pt_cmpR (neD_K (K := K) hr.units) (pv 4) (pe_lst pa_nil) (nomark _))))) (pe_ix (ixl_K (K := K)) (pv 4) (pe_un un_neg pe_int) (fun _ _ => rfl)) (pe_call (ok_l_doable T) (hr.mono (by decide)) rfl T.f_l_doable.g T.f_l_doable.F.kp T.f_l_doable.b .nil pass0 (pa_cons (pv 1) (pa_cons (pv 6) pa_nil)))))
      (pss_cut (ps_if (PW.pt (pw_and (pt_cmpR op_eq (pv 8) pe_int (nomark _)) (pw_and1 (pt_cmpR (neD_K (K := K) hr.units) (pv 4) (pe_lst pa_nil) (nomark _))))) (pss_cons (ps_expr (pe_meth0 (pv 2) T.cl_LW T.f_LW_redo.m (ok_LW_redo T) (hr.mono (by decide)) T.f_LW_redo.b .nil pass0))
      (pss_one (ps_set (i := 4) sc_law.nd rfl (Or.inl rfl) (pe_slice (sll_K (K := K)) (pv 4) po_none (po_some (pe_un un_neg pe_int)))))) (pss_cons (ps_expr (pe_meth (pv 2) T.cl_LW T.f_LW_do.m (ok_LW_do T) (hr.mono (by decide)) T.f_LW_do.b .nil pass0 (pa_cons (pv 12) pa_nil)))
      (pss_one (ps_set (i := 4) sc_law.nd rfl (Or.inl rfl) (pe_lst pa_nil)))))
      (pss_cons (ps_set (i := 3) sc_law.nd rfl (Or.inr rfl) (pe_op op_cat (pv 3) (pe_lst (pa_cons (pe_tup (pa_cons (pe_call (ok_l_word_on T) (hr.mono (by decide)) rfl T.f_l_word_on.g T.f_l_word_on.F.kp T.f_l_word_on.b .nil pass0 (pa_cons (pv 6) (pa_cons (pv 12) pa_nil))) (pa_cons (pv 7) pa_nil))) pa_nil))))
      (pss_one (ps_if (pt_not (pt_val (pe_call (ok_l_changes_right T) (hr.mono (by decide)) rfl T.f_l_changes_right.g T.f_l_changes_right.F.kp T.f_l_changes_right.b .nil pass0 (pa_cons (pv 12) (pa_cons (pv 9) (pa_cons (pe_meth0 (pv 2) T.cl_LW T.f_LW_watched.m (ok_LW_watched (N := fun n => isNm n = true) T) (hr.mono (by decide)) T.f_LW_watched.b .nil pass0) (pa_cons (pv 10) (pa_cons (pe_fld (pv 2) rfl) pa_nil)))))))) (pss_one (ps_ret pe_bl)) pss_nil))))))))
      (pss_one (ps_if (PW.pt (pw_or (pt_cmpR (neD_K (K := K) hr.units) (pe_fld (pv 2) rfl) (pe_ix (ixt_K (K := K)) (pe_ix (ixl_K (K := K)) (pv 3) (pe_un un_neg pe_int) (fun _ _ => rfl)) pe_int (fun _ _ => rfl)) (nomark _)) (pw_or1 (pt_not (pt_val (callG (ok_l_looked T) (guards_deeper hG _) (hr.mono (by decide)) rfl T.f_l_looked.g T.f_l_looked.F.kp T.f_l_looked.b pass0 (pa_cons (pv 2) (pa_cons (pe_ix (ixt_K (K := K)) (pe_ix (ixl_K (K := K)) (pv 3) (pe_un un_neg pe_int) (fun _ _ => rfl)) pe_int (fun _ _ => rfl)) (pa_cons (pe_ix (ixt_K (K := K)) (pe_ix (ixl_K (K := K)) (pv 3) (pe_un un_neg pe_int) (fun _ _ => rfl)) pe_int (fun _ _ => rfl)) pa_nil))))))))) (pss_one (ps_ret pe_bl)) pss_nil))))))
      (pss_one (ps_ret (pe_call (ok_l_refused T XT LT2 nw bnu) (hr.mono (by decide)) rfl T.f_l_refused.g T.f_l_refused.F.kp T.f_l_refused.b .nil pass0 (pa_cons (pv 2) pa_nil)))))))), ?_⟩
  -- draw = begun(script)
  refine ⟨_, rfl, a, ns, rfl, ha, hn, fun H1 dr lg cl s1 n1 n2 n3 d1 => ?_⟩
  -- live = LiveWord(pick(draw, [2, 3, 5]), long_word(draw, 5))
  refine ⟨_, rfl, (by show 3 ≤ sizeLine; decide), fun l nl => ?_⟩
  have s2 := same_upd (o := HO.lst [.int 2, .int 3, .int 5]) nl
  have l2 := upd_same (H := H1) (a := l) (o := HO.lst [.int 2, .int 3, .int 5])
  have lD : l ∉ Dg dr lg cl := fun h => by obtain ⟨_, e, _⟩ := d1.mem h; rw [nl] at e; cases e
  have d2 := d1.same s2
  have T2 : Tabs tabs _ := Tabs.chg (K := K) hT (Chg.of (D := []) (s1.trans s2)) (by simp)
  generalize upd H1 l (.lst [.int 2, .int 3, .int 5]) = H2 at s2 l2 d2 T2 ⊢
  refine ⟨dr, lg, cl, l, _, rfl, d2, SqL.of l2, by decide, by decide, lD, fun H3 x hx c3 d3 => ?_⟩
  obtain ⟨e, rfl, e1, e2⟩ : ∃ e : Int, x = .int e ∧ 2 ≤ e ∧ e ≤ 20 := by
    simp only [List.mem_cons, List.not_mem_nil, or_false] at hx
    rcases hx with rfl | rfl | rfl <;> exact ⟨_, rfl, by decide, by decide⟩
  have T3 := Tabs.chg T2 c3 (tab_not T2 fun x h => d2.mem h)
  refine ⟨_, rfl, dr, lg, cl, 5, rfl, d3, by decide, fun H4 wp w0 c4 d4 hw4 hl4 => ?_⟩
  have T4 := Tabs.chg T3 c4 (tab_not T3 fun x h => d3.mem h)
  refine fun p dx np ndx ne => ?_
  have s5 : Same H4 (upd (upd H4 dx (.own p)) p (.ins (He.ga K "LiveWord") dx [])) := (same_upd ndx).trans (same_upd (by rw [upd_ne ne.symm]; exact np))
  have p5 : upd (upd H4 dx (.own p)) p (.ins (He.ga K "LiveWord") dx []) p = some (.ins (LWc K) dx []) := upd_same
  have pD : p ∉ Dg dr lg cl := fun h => by obtain ⟨_, e, _⟩ := d4.mem h; rw [np] at e; cases e
  generalize upd (upd H4 dx (.own p)) p (.ins (He.ga K "LiveWord") dx []) = H5 at s5 p5 ⊢
  have T5 : Tabs tabs H5 := Tabs.chg (K := K) T4 (Chg.of (D := []) s5) (by simp)
  refine ⟨p, dx, wp, e, w0, rfl, p5, e1, e2, sameT s5 hw4, hl4, fun H6 F c6 L6 f6 => ⟨rfl, ?_⟩⟩
  have d5 := d4.same s5
  have T6 : Tabs tabs H6 := Tabs.chg T5 c6 (tab_not T5 fun x h => by
    have : x = p := by simpa using h
    subst this
    exact ⟨_, p5, (fun ps z => by cases z), trivial⟩)
  have W6 : Wl K tabs dr lg cl p F [] w0 [] [] [] H6 := ⟨d5.cht c6.t fun x h z => by
      have : x = p := by simpa using z
      exact pD (this ▸ h), L6, T6, fun x h z => by
      rcases f6 x h with e | e
      · exact pD (e ▸ z)
      · obtain ⟨_, q, _⟩ := d5.mem z
        rw [e] at q
        cases q⟩
  -- states, later = [(live.word, {})], []
  obtain ⟨_, dx6, wa, ln, ee, bb, fF, gg, st, dd, aa, hp, hwa, _⟩ := L6.word
  refine ⟨_, rfl, p, _, dx6, _, _, rfl, hp, T.cl_LW, T.na_word, rfl, ?_⟩
  refine fun t nt => ⟨(by show 2 ≤ sizeLine; decide), fun q nq => ⟨(by show 1 ≤ sizeLine; decide), fun sl nsl => ⟨(by show 0 ≤ sizeLine; decide), fun lt nlt => ⟨(by show 2 ≤ sizeLine; decide), fun u nu => ?_⟩⟩⟩⟩
  refine ⟨u, _, rfl, SqT.of upd_same, rfl, _, _, rfl, _, _, rfl, rfl, ?_⟩
  have notF : ∀ {x : Addr}, H6 x = none → x ∉ F ∧ x ∉ Dg dr lg cl := fun {x} e => ⟨(fun h => by obtain ⟨_, z, _⟩ := W6.L.mem h; rw [e] at z; cases z), (fun h => by obtain ⟨_, z, _⟩ := W6.d.mem h; rw [e] at z; cases z)⟩
  have sa := same_upd (o := HO.dK []) nt
  have ta := upd_same (H := H6) (a := t) (o := HO.dK [])
  have tn := notF nt
  generalize upd H6 t (.dK []) = Ha at sa ta nq nsl nlt nu ⊢
  have sb := sa.trans (same_upd (o := HO.tup [.ref wa, .ref t]) nq)
  have tb := (same_upd (o := HO.tup [.ref wa, .ref t]) nq) _ _ ta
  have qb := upd_same (H := Ha) (a := q) (o := HO.tup [.ref wa, .ref t])
  generalize upd Ha q (.tup [.ref wa, .ref t]) = Hb at sb tb qb nsl nlt nu ⊢
  have sc := same_upd (o := HO.lst [.ref q]) nsl
  have lc := upd_same (H := Hb) (a := sl) (o := HO.lst [.ref q])
  have sln := notF (sb.free nsl)
  have sbc := sb.trans sc
  generalize upd Hb sl (.lst [.ref q]) = Hc at sc lc sbc nlt nu ⊢
  have lne : lt ≠ sl := fun z => by rw [z, lc] at nlt; cases nlt
  have sd := same_upd (o := HO.lst []) nlt
  have ld := upd_same (H := Hc) (a := lt) (o := HO.lst [])
  have ltn := notF (sbc.free nlt)
  have sbd := sbc.trans sd
  have scd := sc.trans sd
  have lcd := sd _ _ lc
  generalize upd Hc lt (.lst []) = Hd at sd ld sbd scd lcd nu ⊢
  have se := same_upd (o := HO.tup [.ref sl, .ref lt]) nu
  have sce := scd.trans se
  have s6e := sbd.trans se
  have I0 : LwI K tabs dr lg cl p sl lt F [] w0 [] [] [] [q] [] 0 (upd Hd u (.tup [.ref sl, .ref lt])) := {
    W := W6.same s6e
    s := se _ _ lcd
    ss := .cons ⟨wa, t, sameT sce (SqT.of qb), sameT s6e hwa, sce _ _ tb, tn.1, tn.2⟩ .nil
    l := se _ _ ld
    ll := .nil
    pa := .nil
    nx := .nil
    ok := fun s hs => by
      have : s = (w0, []) := by simpa using hs
      subst this
      exact ⟨.nil, Nat.le_refl _⟩
    b1 := Nat.le_refl _
    b2 := Nat.le_refl _
    ns := sln
    nl := ltn
    ne := lne }
  generalize upd Hd u (.tup [.ref sl, .ref lt]) = H7 at I0 ⊢
  -- for lap in range(4 + take(draw, 7))
  refine ⟨_, rfl, dr, lg, cl, _, rfl, I0.W.d, by decide, by decide, fun H8 m hm c8 d8 => ?_⟩
  have I8 := I0.dg c8 d8
  have hm : m < 7 := by omega
  refine ⟨_, _, rfl, rfl, _, rfl, by omega, by omega, ?_⟩
  rw [show ((4 : Int) + (m : Int)).toNat = 4 + m by omega]
  refine for_range (lo := 0) (n := 4 + m) (fun i σ H' => ∃ (v5 v6 v7 v8 v9 v10 v11 v12 v13 : Option V) (sl lt : Addr) (F : List Addr) (S0 : List St1) (w : List Int) (D : Dc) (dn la : List Deed) (qs lqs : List Addr),
    σ = [some (.ref a), some (.ref dr), some (.ref p), some (.ref sl), some (.ref lt), v5, v6, v7, v8, v9, v10, v11, v12, v13] ∧ LwI K tabs dr lg cl p sl lt F S0 w D dn la qs lqs i H') ⟨_, _, _, _, _, _, _, _, _, sl, lt, F, _, _, _, _, _, _, _, rfl, I8⟩ ?_ ?_
  · clear I0 I8 W6 c8 d8 s6e sce
    clear lne
    clear sl lt nsl nlt nu sln ltn sb sc lc sbc sd ld sbd scd lcd se H7 Hd
    rintro i σ H1 hi ⟨v5, v6, v7, v8, v9, v10, v11, v12, v13, sl, lt, F, S0, w, D, dn, la, qs, lqs, rfl, I1⟩
    -- word, seen = states[-1]
    obtain ⟨q0, q, rfl, hq0, wq, t, hq1, hq2, hq3, tF, tD⟩ := paired_last I1.ss
    have hDi := I1.ok (w, D) (by simp)
    simp only at hDi
    obtain ⟨hDok, hDlen⟩ := hDi
    refine ⟨_, rfl, _, rfl, sl, _, _, _, rfl, rfl, SqL.of I1.s, atI_last', ?_⟩
    refine ⟨q, _, rfl, hq1, rfl, _, _, rfl, _, _, rfl, rfl, ?_⟩
    -- way, old, lines = take(draw, 8), live.watched(), live.lines
    refine ⟨_, rfl, dr, lg, cl, _, rfl, I1.W.d, by decide, by decide, fun H2 way hway c2 d2 => ?_⟩
    have I2 := I1.dg c2 d2
    obtain ⟨_, dx2, wa2, ln2, e2', b2, f2, g2, st2, dd2, aa2, hp2, _, _⟩ := I2.W.L.word
    refine ⟨_, rfl, p, dx2, _, rfl, hp2, rfl, p, F, S0, w, D, dn, la, rfl, I2.W.L, hDok, by omega, fun od ko so H3 s3 nod hod pm sso Do => ?_⟩
    have I3 := I2.same s3
    obtain ⟨hlw, dx3, wa3, ln3, e3, b3, f3, g3, st3, dd3, aa3, hp3, hwa3, hln3⟩ := I3.W.L.word
    refine ⟨_, rfl, p, _, dx3, _, _, rfl, hp3, T.cl_LW, T.na_lines, rfl, _, _, _, rfl, ?_⟩
    have ht3 : H3 t = some (.dK (kvD D)) := s3 _ _ (c2.keep _ _ tD hq3)
    have hwq3 : Wt K H3 wq w := sameT s3 (c2.seq _ _ hq2)
    refine ⟨fun (σ : L2.St) (H' : Hp) => ∃ (v5 v6 v7 v8 v9 v10 v11 v12 v13 : Option V) (sl lt : Addr) (F : List Addr) (S0 : List St1) (w : List Int) (D : Dc) (dn la : List Deed) (qs lqs : List Addr),
      σ = [some (V.ref a), some (V.ref dr), some (V.ref p), some (V.ref sl), some (V.ref lt), v5, v6, v7, v8, v9, v10, v11, v12, v13] ∧ LwI K tabs dr lg cl p sl lt F S0 w D dn la qs lqs (i + 1) H', ?_, ?_⟩
    · refine ⟨_, rfl, rfl, _, rfl, ?_⟩
      refine and2 ?_ fun w0 hB => ?_
      · refine iteF ?_
        refine ⟨_, rfl, _, _, rfl, rfl, _, rfl, ?_⟩
        refine ite2 (fun w3 => ?_) fun w3 => ?_
        · -- fresh = watch(draw, live, seen)
          refine ⟨_, rfl, _, rfl, _, rfl, dr, lg, cl, p, t, F, S0, w, D, dn, la, rfl, I3.W, ht3, hDok, by omega, tF, tD, fun H4 f D' c4 W4 nf hf4 hD' hl' => ?_⟩
          refine ⟨_, rfl, rfl, _, rfl, ?_⟩
          refine iteF ?_
          refine ⟨_, rfl, _, rfl, (by show 2 ≤ sizeLine; decide), fun q2 nq2 => ?_⟩
          have s5 := same_upd (o := HO.tup [.ref wq, .ref f]) nq2
          have hq5 := upd_same (H := H4) (a := q2) (o := HO.tup [.ref wq, .ref f])
          have c35 := c4.then s5
          have W5 := W4.same s5
          have hf5 := s5 _ _ hf4
          have hw5 : Wt K _ wq w := c35.seq _ _ hwq3
          generalize upd H4 q2 (.tup [.ref wq, .ref f]) = H5 at s5 hq5 c35 W5 hf5 hw5 ⊢
          have apart : ∀ {x : Addr}, x ∉ F → x ∉ Dg dr lg cl → x ∉ F ++ Dg dr lg cl := fun h1 h2 => by simp only [List.mem_append, not_or]; exact ⟨h1, h2⟩
          have hs5 := c35.keep _ _ (apart I3.ns.1 I3.ns.2) (fun ps z => by cases z) I3.s
          have hl5 := c35.keep _ _ (apart I3.nl.1 I3.nl.2) (fun ps z => by cases z) I3.l
          have hix : ixN ((q0 ++ [q]).map V.ref).length (-1) = some q0.length := by
            have n : ((q0 ++ [q]).map V.ref).length = q0.length + 1 := by simp
            rw [n]
            unfold ixN
            rw [if_neg (by omega), if_pos (by omega)]
            exact congrArg some (by omega)
          refine ⟨_, rfl, _, rfl, sl, _, _, _, rfl, rfl, hs5, hix, ?_⟩
          have eset : ((q0 ++ [q]).map V.ref).set q0.length (V.ref q2) = (q0 ++ [q2]).map V.ref := by
            rw [List.map_append, List.map_append, List.set_append_right _ _ (by simp)]
            simp
          rw [eset]
          have z6 : ∀ x ∈ [sl], ∃ o, H5 x = some o ∧ (∀ ps, o ≠ .tbl ps) ∧ Mov o := fun x h => by
            have : x = sl := by simpa using h
            subst this
            exact ⟨_, hs5, (fun ps z => by cases z), trivial⟩
          have c6 : Chg K [sl] H5 (upd H5 sl (.lst ((q0 ++ [q2]).map V.ref))) := Chg.upd hs5 trivial (by simp)
          have W6 := W5.chg c6 (fun x h z => I3.ns.1 (List.mem_singleton.mp z ▸ h)) (fun x h z => I3.ns.2 (List.mem_singleton.mp z ▸ h)) (tab_not W5.T z6)
          have hs6 := upd_same (H := H5) (a := sl) (o := HO.lst ((q0 ++ [q2]).map V.ref))
          have c6k : ∀ {x o}, H5 x = some o → (∀ l, o ≠ .lst l) → upd H5 sl (.lst ((q0 ++ [q2]).map V.ref)) x = some o := fun {x o} e n => by
            have : x ≠ sl := fun z => by rw [z, hs5] at e; cases e; exact n _ rfl
            rw [upd_ne this]; exact e
          have fF : f ∉ F := fun h => by
            obtain ⟨_, e, _⟩ := I3.W.L.mem h
            rw [nf] at e; cases e
          have fD : f ∉ Dg dr lg cl := fun h => by
            obtain ⟨_, e, _⟩ := I3.W.d.mem h
            rw [nf] at e; cases e
          have c6q : ∀ a xs, SqT K H5 a xs → SqT K (upd H5 sl (.lst ((q0 ++ [q2]).map V.ref))) a xs := fun a xs h => c6.seq a xs h
          have lsl : lt ≠ sl := I3.ne
          have hl6 : upd H5 sl (.lst ((q0 ++ [q2]).map V.ref)) lt = some (.lst (lqs.map V.ref)) := by rw [upd_ne lsl]; exact hl5
          have hf6 := c6k hf5 (fun l z => by cases z)
          have ss3 := paired_last I3.ss
          generalize upd H5 sl (.lst ((q0 ++ [q2]).map V.ref)) = H6 at c6 W6 hs6 c6k c6q hl6 hf6 ⊢
          refine ⟨_, _, _, _, _, _, _, _, _, sl, lt, F, S0, w, D', dn, la, q0 ++ [q2], lqs, rfl, {
            W := W6
            s := hs6
            ss := ?_
            l := hl6
            ll := Paired.mapP I3.ll fun _ _ h => c6q _ _ (c35.seq _ _ h)
            pa := I3.pa
            nx := I3.nx
            ok := fun s hs => ?_
            b1 := by have := I3.b1; omega
            b2 := by have := I3.b2; omega
            ns := I3.ns
            nl := I3.nl
            ne := I3.ne }⟩
          · obtain ⟨q0', q', eq, h0, _⟩ := ss3
            obtain ⟨rfl, _⟩ := List.append_inj' eq rfl
            refine Paired.snoc (Paired.mapP h0 fun x s h => ?_) ⟨wq, f, c6q _ _ (SqT.of hq5), c6q _ _ hw5, hf6, fF, fD⟩
            obtain ⟨wa', t', g1, g2, g3, g4, g5⟩ := h
            exact ⟨wa', t', c6q _ _ (c35.seq _ _ g1), c6q _ _ (c35.seq _ _ g2), c6k (c35.keep _ _ (apart g4 g5) (fun ps z => by cases z) g3) (fun l z => by cases z), g4, g5⟩
          · rcases List.mem_append.mp hs with h | h
            · have := I3.ok s (List.mem_append_left _ h)
              exact ⟨this.1, by omega⟩
            · cases List.mem_singleton.mp h
              exact ⟨hD', by show D'.length ≤ _; omega⟩
        · -- deed = later[-1] if way == 3 and later != [] else doable(draw, word)
          refine ⟨fun (σ : L2.St) (H' : Hp) => ∃ (v5 v11 v13 : Option V) (b : Addr) (d : Deed) (w' : List Int),
            σ = [some (V.ref a), some (V.ref dr), some (V.ref p), some (V.ref sl), some (V.ref lt), v5, some (V.ref wq), some (V.ref t), some (V.int (way : Int)), some (V.ref od), some (V.ref ln3), v11, some (V.ref b), v13] ∧
            LwI K tabs dr lg cl p sl lt F S0 w D dn la (q0 ++ [q]) lqs i H' ∧ Chg K (Dg dr lg cl) H3 H' ∧ SqT K H' b d.v ∧ d.ok ∧ after w d = some w' ∧ (way = 3 → la ≠ [] → ∃ l0, la = l0 ++ [d] ∧ Next w' l0), ?_, ?_⟩
          · refine ⟨_, rfl, rfl, _, rfl, ?_⟩
            refine ite2 (fun e3 => ?_) fun e3 => ?_
            · refine ⟨_, rfl, (by show 0 ≤ sizeLine; decide), fun m nm => ?_⟩
              have s4 := same_upd (o := HO.lst []) nm
              have I4 := I3.same s4
              have m4 := upd_same (H := H3) (a := m) (o := HO.lst [])
              generalize upd H3 m (.lst []) = H4 at s4 I4 m4 ⊢
              refine ⟨_, _, dp_deeds (SqL.of I4.l) I4.ll, dp_nil (SqL.of m4), shaped_deeds _, shaped_list _, _, rfl, ?_⟩
              rw [eqv_deeds]
              by_cases hla : la = []
              · subst hla
                refine iteF ?_
                refine ⟨_, rfl, _, rfl, dr, lg, cl, wq, w, rfl, I4.W.d, sameT s4 hwq3, hlw, fun H5 b d w' c5 d5 hb5 ok5 af5 => ?_⟩
                exact ⟨_, _, _, b, d, w', rfl, I4.dg c5 d5, (Chg.of s4).trans c5 fun x h => .inl h, hb5, ok5, af5, fun _ z => absurd rfl z⟩
              · obtain ⟨l0, d, rfl⟩ : ∃ l0 d, la = l0 ++ [d] := ⟨la.dropLast, la.getLast hla, (List.dropLast_concat_getLast hla).symm⟩
                obtain ⟨z0, b, rfl, hz0, hb⟩ := paired_last I4.ll
                obtain ⟨w', ok', af', nx'⟩ := I4.nx.inv rfl
                rw [show (!(l0 ++ [d]).isEmpty) = true by simp]
                refine iteT ?_
                refine ⟨_, rfl, _, rfl, lt, _, _, _, rfl, rfl, SqL.of I4.l, atI_last', ?_⟩
                exact ⟨_, _, _, b, d, w', rfl, I4, .of s4, hb, ok', af', fun _ _ => ⟨l0, rfl, nx'⟩⟩
            · have n3 : way ≠ 3 := fun z => e3 (by subst z; rfl)
              refine iteF ?_
              refine ⟨_, rfl, _, rfl, dr, lg, cl, wq, w, rfl, I3.W.d, hwq3, hlw, fun H4 b d w' c4 d4 hb4 ok4 af4 => ?_⟩
              exact ⟨_, _, _, b, d, w', rfl, I3.dg c4 d4, c4, hb4, ok4, af4, fun z => absurd z n3⟩
          · rintro σ H4 ⟨v5', v11', v13', b, d, w', rfl, I4, c34, hb4, ok4, af4, hre⟩
            have hSl : S0.length ≤ 1000 := by have := I3.b1; omega
            have hdl : dn.length ≤ 1000 := by rw [I3.pa.len]; exact hSl
            obtain ⟨_, dx4, wa4, ln4, e4, b4, f4, g4, st4, dd4, aa4, hp4, _⟩ := I4.W.L.word
            refine ⟨fun (σ : L2.St) (H' : Hp) => ∃ (v5 v11 v13 : Option V) (lt' : Addr) (F' : List Addr) (la' : List Deed) (lqs' : List Addr),
              σ = [some (V.ref a), some (V.ref dr), some (V.ref p), some (V.ref sl), some (V.ref lt'), v5, some (V.ref wq), some (V.ref t), some (V.int (way : Int)), some (V.ref od), some (V.ref ln3), v11, some (V.ref b), v13] ∧
              Wl K tabs dr lg cl p F' (S0 ++ [(w, D)]) w' D (dn ++ [d]) la' H' ∧ Chg K (F ++ Dg dr lg cl) H3 H' ∧ (∀ x ∈ F', x ∈ F ∨ H3 x = none) ∧ SqT K H' b d.v ∧
              H' lt' = some (.lst (lqs'.map V.ref)) ∧ Paired (fun q d => SqT K H' q (Deed.v d)) lqs' la' ∧ Next w' la' ∧ la'.length ≤ i ∧ lt' ∉ F' ∧ lt' ∉ Dg dr lg cl ∧ lt' ≠ sl, ?_, ?_⟩
            · refine ⟨_, rfl, rfl, _, rfl, ?_⟩
              refine ite2 (fun e3 => ?_) fun e3 => ?_
              · have e3' : way = 3 := by
                  have z : V.int (way : Int) = V.int 3 := of_decide_eq_true e3
                  cases z; rfl
                refine ⟨_, rfl, (by show 0 ≤ sizeLine; decide), fun m0 nm0 => ?_⟩
                have s4' := same_upd (o := HO.lst []) nm0
                have m4 := upd_same (H := H4) (a := m0) (o := HO.lst [])
                have I4 := I4.same s4'
                have c34 := c34.then s4'
                have hb4 := sameT s4' hb4
                have hp4 := s4' _ _ hp4
                generalize upd H4 m0 (.lst []) = H4' at s4' I4 m4 c34 hb4 hp4 ⊢
                refine ⟨_, _, dp_deeds (SqL.of I4.l) I4.ll, dp_nil (SqL.of m4), shaped_deeds _, shaped_list _, _, rfl, ?_⟩
                rw [eqv_deeds]
                by_cases hla : la = []
                · subst hla
                  refine iteF ?_
                  refine ⟨_, rfl, p, dx4, _, rfl, hp4, rfl, _, rfl, p, b, F, S0, w, D, dn, [], d, w', rfl, I4.W.L, hb4, ok4, af4, hSl, hdl, fun H5 F' c5 L5 f5 => ?_⟩
                  have W5 := I4.W.lv c5 L5 f5
                  have c35 : Chg K (F ++ Dg dr lg cl) H3 H5 := (c34.more fun x h => .inl (List.mem_append_right _ h)).trans c5 fun x h => .inl (List.mem_append_left _ h)
                  have f35 : ∀ x ∈ F', x ∈ F ∨ H3 x = none := fun x h => (f5 x h).imp id fun e => c34.free (fun z => by obtain ⟨_, q, _⟩ := I4.W.d.mem z; rw [e] at q; cases q) e
                  refine ⟨(by show 0 ≤ sizeLine; decide), fun m nm => ?_⟩
                  have s6 := same_upd (o := HO.lst []) nm
                  refine ⟨_, _, _, m, F', [], [], rfl, W5.same s6, c35.then s6, f35, sameT s6 (c5.seq _ _ hb4), upd_same, .nil, .nil, Nat.zero_le _, (fun z => by obtain ⟨_, q, _⟩ := W5.L.mem z; rw [nm] at q; cases q), (fun z => by obtain ⟨_, q, _⟩ := W5.d.mem z; rw [nm] at q; cases q), fun z => ?_⟩
                  have := c5.keep sl _ I4.ns.1 I4.s
                  rw [← z, nm] at this
                  cases this
                · obtain ⟨l0, rfl, nx'⟩ := hre e3' hla
                  rw [show (!(l0 ++ [d]).isEmpty) = true by simp]
                  refine iteT ?_
                  refine ⟨_, rfl, p, dx4, _, rfl, hp4, rfl, p, F, S0, w, D, dn, l0, d, w', rfl, I4.W.L, ok4, af4, hSl, hdl, fun H5 F' c5 L5 f5 => ?_⟩
                  have W5 := I4.W.lv c5 L5 f5
                  have c35 : Chg K (F ++ Dg dr lg cl) H3 H5 := (c34.more fun x h => .inl (List.mem_append_right _ h)).trans c5 fun x h => .inl (List.mem_append_left _ h)
                  have f35 : ∀ x ∈ F', x ∈ F ∨ H3 x = none := fun x h => (f5 x h).imp id fun e => c34.free (fun z => by obtain ⟨_, q, _⟩ := I4.W.d.mem z; rw [e] at q; cases q) e
                  obtain ⟨z0, zb, rfl, hz0, hzb⟩ := paired_last I4.ll
                  have hl5 := c5.keep lt _ I4.nl.1 I4.l
                  refine ⟨_, rfl, ?_⟩
                  unfold tNoPart
                  refine ⟨_, rfl, _, rfl, lt, _, rfl, SqL.of hl5, fun m nm => ?_⟩
                  have s6 := same_upd (o := HO.lst (cutV ((z0 ++ [zb]).map V.ref) none (some (-1)))) nm
                  have ec : cutV ((z0 ++ [zb]).map V.ref) none (some (-1)) = z0.map V.ref := by
                    rw [cut_last, ← List.map_dropLast, List.dropLast_concat]
                  have la' := I4.b2
                  refine ⟨_, _, _, m, F', l0, z0, rfl, W5.same s6, c35.then s6, f35, sameT s6 (c5.seq _ _ hb4), (by rw [← ec]; exact upd_same), Paired.mapP hz0 fun _ _ h => sameT s6 (c5.seq _ _ h), nx', (by simp at la'; omega), (fun z => by obtain ⟨_, q, _⟩ := W5.L.mem z; rw [nm] at q; cases q), (fun z => by obtain ⟨_, q, _⟩ := W5.d.mem z; rw [nm] at q; cases q), fun z => ?_⟩
                  have := c5.keep sl _ I4.ns.1 I4.s
                  rw [← z, nm] at this
                  cases this
              · refine iteF ?_
                refine ⟨_, rfl, p, dx4, _, rfl, hp4, rfl, _, rfl, p, b, F, S0, w, D, dn, la, d, w', rfl, I4.W.L, hb4, ok4, af4, hSl, hdl, fun H5 F' c5 L5 f5 => ?_⟩
                have W5 := I4.W.lv c5 L5 f5
                have c35 : Chg K (F ++ Dg dr lg cl) H3 H5 := (c34.more fun x h => .inl (List.mem_append_right _ h)).trans c5 fun x h => .inl (List.mem_append_left _ h)
                have f35 : ∀ x ∈ F', x ∈ F ∨ H3 x = none := fun x h => (f5 x h).imp id fun e => c34.free (fun z => by obtain ⟨_, q, _⟩ := I4.W.d.mem z; rw [e] at q; cases q) e
                refine ⟨(by show 0 ≤ sizeLine; decide), fun m nm => ?_⟩
                have s6 := same_upd (o := HO.lst []) nm
                refine ⟨_, _, _, m, F', [], [], rfl, W5.same s6, c35.then s6, f35, sameT s6 (c5.seq _ _ hb4), upd_same, .nil, .nil, Nat.zero_le _, (fun z => by obtain ⟨_, q, _⟩ := W5.L.mem z; rw [nm] at q; cases q), (fun z => by obtain ⟨_, q, _⟩ := W5.d.mem z; rw [nm] at q; cases q), fun z => ?_⟩
                have := c5.keep sl _ I4.ns.1 I4.s
                rw [← z, nm] at this
                cases this
            · rintro σ H5 ⟨v5'', v11'', v13'', lt', F', la', lqs', rfl, W5, c35, f35, hb5, hl5, hll5, hnx, hla, ltF, ltD, lts⟩
              have hw5 : Wt K H5 wq w := c35.wt hwq3
              have hs5 := c35.keep sl _ (by simp only [List.mem_append, not_or]; exact I3.ns) I3.s
              refine ⟨_, rfl, _, rfl, _, rfl, wq, b, w, d, rfl, hw5, hlw, hb5, ?_⟩
              rw [af4]
              refine fun pw H6 s6 hw6 => ⟨_, rfl, (by show 2 ≤ sizeLine; decide), fun q2 nq2 => ⟨(by show 1 ≤ sizeLine; decide), fun m nm => ?_⟩⟩
              refine ⟨sl, m, _, _, rfl, rfl, (same_upd nm) _ _ ((same_upd nq2) _ _ (s6 _ _ hs5)), upd_same, (by
                have z := Paired.len I3.ss
                have z1 := I3.b1
                rw [List.length_append (as := S0), List.length_singleton] at z
                rw [List.length_map, z]
                exact Nat.le_of_lt (line_lt (by simp; omega))), fun sl2 nsl2 => ?_⟩
              have t1 := same_upd (o := HO.tup [.ref pw, .ref t]) nq2
              have q2h := upd_same (H := H6) (a := q2) (o := HO.tup [.ref pw, .ref t])
              generalize upd H6 q2 (.tup [.ref pw, .ref t]) = H7 at t1 q2h nm nsl2 ⊢
              have t2 := same_upd (o := HO.lst [V.ref q2]) nm
              generalize upd H7 m (.lst [.ref q2]) = H8 at t2 nsl2 ⊢
              have t3 := same_upd (o := HO.lst ((q0 ++ [q]).map V.ref ++ [V.ref q2])) nsl2
              have l9 := upd_same (H := H8) (a := sl2) (o := HO.lst ((q0 ++ [q]).map V.ref ++ [V.ref q2]))
              generalize upd H8 sl2 (.lst ((q0 ++ [q]).map V.ref ++ [V.ref q2])) = H9 at t3 l9 ⊢
              have s79 : Same H6 H9 := t1.trans (t2.trans t3)
              have s59 := s6.trans s79
              have W9 := W5.same s59
              -- if not changes_right(deed, old, live.watched(), lines, live.lines)
              obtain ⟨_, dx9, wa9, ln9, e9, b9, f9, g9, st9, dd9, aa9, hp9, _, _⟩ := W9.L.word
              refine ⟨_, rfl, _, rfl, _, rfl, p, dx9, _, rfl, hp9, rfl, p, F', S0 ++ [(w, D)], w', D, dn ++ [d], la', rfl, W9.L, hDok, by omega, fun fd kf sf HA sA nfd hfd pmf ssf Df => ?_⟩
              have WA := W9.same sA
              obtain ⟨_, dxA, waA, lnA, eA, bA, fA, gA, stA, ddA, aaA, hpA, _, hlnA⟩ := WA.L.word
              have s5A := s59.trans sA
              have c3A := c35.then s5A
              have odn : od ∉ F ++ Dg dr lg cl := fun h => by
                rcases List.mem_append.mp h with h | h
                · obtain ⟨_, z, _⟩ := I2.W.L.mem h
                  rw [nod] at z; cases z
                · obtain ⟨_, z, _⟩ := I2.W.d.mem h
                  rw [nod] at z; cases z
              have hod9 : H9 od = some (.dK ko) := (c35.then s59).keep _ _ odn hod
              have hodA : HA od = some (.dK ko) := sA _ _ hod9
              have neo : od ≠ fd := fun z => by rw [← z, hod9] at nfd; cases nfd
              refine ⟨_, rfl, _, rfl, p, _, dxA, _, _, rfl, hpA, T.cl_LW, T.na_lines, rfl, ?_⟩
              refine ⟨b, od, fd, ln3, lnA, d, ko, kf, w, w', D, so, sf, rfl, sameT s5A hb5, hodA, hfd, neo, Do.seq fun a xs h => c3A.seq a xs h, Df, pm.nodup_iff.mpr hDok.nd, pmf.nodup_iff.mpr hDok.nd, (fun n hn => pmf.mem_iff.mpr (pm.mem_iff.mp hn)), c3A.rt hln3, hlnA, af4, fun HB sB => ?_⟩
              refine ⟨_, rfl, ?_⟩
              refine iteF ?_
              have WB := WA.same sB
              have s5B := s5A.trans sB
              have c3B := c35.then s5B
              have s9B := sA.trans sB
              have e12 : (q0 ++ [q]).map V.ref ++ [V.ref q2] = ((q0 ++ [q]) ++ [q2]).map V.ref := by simp
              have ht5 := c3B.keep t _ (by simp only [List.mem_append, not_or]; exact ⟨tF, tD⟩) ht3
              have tF' : t ∉ F' := fun h => by
                rcases f35 t h with z | z
                · exact tF z
                · rw [ht3] at z; cases z
              have n8 : H8 sl2 = none := nsl2
              have n6 : H6 sl2 = none := t1.free (t2.free n8)
              have W6 := W5.same s6
              refine ⟨_, _, _, _, _, _, _, _, _, sl2, lt', F', S0 ++ [(w, D)], w', D, dn ++ [d], la', (q0 ++ [q]) ++ [q2], lqs', rfl, {
                W := WB
                s := by rw [← e12]; exact s9B _ _ l9
                ss := Paired.snoc (Paired.mapP I3.ss fun x s h => h.step c3B.t f35) ⟨pw, t, sameT (t2.trans (t3.trans s9B)) (SqT.of q2h), sameT (s79.trans s9B) hw6, ht5, tF', tD⟩
                l := s5B _ _ hl5
                ll := Paired.mapP hll5 fun _ _ h => sameT s5B h
                pa := .snoc I3.pa ok4 af4
                nx := hnx
                ok := fun s hs => ?_
                b1 := by have := I3.b1; simp; omega
                b2 := by omega
                ns := ⟨(fun h => by obtain ⟨_, z, _⟩ := W6.L.mem h; rw [n6] at z; cases z), (fun h => by obtain ⟨_, z, _⟩ := W6.d.mem h; rw [n6] at z; cases z)⟩
                nl := ⟨ltF, ltD⟩
                ne := fun z => by
                  have := s6 _ _ hl5
                  rw [z, n6] at this; cases this }⟩
              rcases List.mem_append.mp hs with h | h
              · have := I3.ok s h
                exact ⟨this.1, by omega⟩
              · cases List.mem_singleton.mp h
                exact ⟨hDok, by show D.length ≤ _; omega⟩
      · refine ⟨_, rfl, sl, _, rfl, .inl (SqL.of I3.s), _, _, rfl, rfl, _, rfl, ?_⟩
        refine ite2 (fun hlg => ?_) fun hlg => ?_
        · have hne : S0 ≠ [] := fun z => by
            subst z
            have hl : (q0 ++ [q]).length = 1 := Paired.len I3.ss
            have hlg : (1 : Int) < (((q0 ++ [q]).map V.ref).length : Int) := of_decide_eq_true hlg
            rw [List.length_map, hl] at hlg
            exact absurd hlg (by decide)
          obtain ⟨S1, ⟨w1, D1⟩, rfl⟩ : ∃ S1 s, S0 = S1 ++ [s] := ⟨S0.dropLast, S0.getLast hne, (List.dropLast_concat_getLast hne).symm⟩
          obtain ⟨dn1, d, rfl, pa1, okd, afd⟩ := I3.pa.inv rfl
          refine ⟨_, rfl, _, rfl, p, dx3, _, rfl, hp3, rfl, p, F, _, w, D, _, la, rfl, I3.W.L, fun l ds H4 s4 nl4 hl4 pd4 => ?_⟩
          obtain ⟨ds0, b, rfl, _, hb4⟩ := paired_last pd4
          refine ⟨_, rfl, l, _, _, _, rfl, rfl, SqL.of hl4, atI_last', (by show 1 ≤ sizeLine; decide), fun m nm => ?_⟩
          have s5 := same_upd (o := HO.lst [V.ref b]) nm
          have m5 := upd_same (H := H4) (a := m) (o := HO.lst [V.ref b])
          have I5 := (I3.same s4).same s5
          have hb5 := sameT s5 hb4
          have s35 := s4.trans s5
          generalize upd H4 m (.lst [V.ref b]) = H5 at s5 m5 I5 hb5 s35 ⊢
          refine ⟨lt, m, _, _, rfl, rfl, I5.l, m5, (by
            have z := Paired.len I5.ll
            have z1 := I5.b2
            rw [List.length_map, z]
            exact Nat.le_of_lt (line_lt (by simp; omega))), fun lt2 nlt2 => ?_⟩
          have s6 := same_upd (o := HO.lst (lqs.map V.ref ++ [V.ref b])) nlt2
          have l6 := upd_same (H := H5) (a := lt2) (o := HO.lst (lqs.map V.ref ++ [V.ref b]))
          have ltF : lt2 ∉ F := fun h => by obtain ⟨_, z, _⟩ := I5.W.L.mem h; rw [nlt2] at z; cases z
          have ltD : lt2 ∉ Dg dr lg cl := fun h => by obtain ⟨_, z, _⟩ := I5.W.d.mem h; rw [nlt2] at z; cases z
          have I6 := I5.same s6
          have hb6 := sameT s6 hb5
          have s36 := s35.trans s6
          generalize upd H5 lt2 (.lst (lqs.map V.ref ++ [V.ref b])) = H6 at s6 l6 I6 hb6 s36 ⊢
          -- live.undo()
          obtain ⟨_, dx6, wa6, ln6, e6, b6, f6, g6, st6, dd6, aa6, hp6, _, _⟩ := I6.W.L.word
          refine ⟨_, rfl, p, dx6, _, rfl, hp6, rfl, p, F, S1, w1, D1, w, D, dn1, la, d, rfl, I6.W.L, (by have := I6.b2; omega), fun H7 F7 c7 L7 f7 => ?_⟩
          have W7 := I6.W.lv c7 L7 f7
          have c37 : Chg K (F ++ Dg dr lg cl) H3 H7 := ((Chg.of (D := F) s36).trans c7 fun x h => .inl h).more fun x h => .inl (List.mem_append_left _ h)
          have f37 : ∀ x ∈ F7, x ∈ F ∨ H3 x = none := fun x h => (f7 x h).imp id fun e => s36.free e
          have ltF7 : lt2 ∉ F7 := fun h => by
            rcases f7 lt2 h with z | z
            · exact ltF z
            · rw [l6] at z; cases z
          have tF7 : t ∉ F7 := fun h => by
            rcases f37 t h with z | z
            · exact tF z
            · rw [ht3] at z; cases z
          have l7 := c7.keep lt2 _ ltF l6
          have hb7 := c7.seq _ _ hb6
          have hs7 := c7.keep sl _ I6.ns.1 I6.s
          -- states = states[:-1]
          refine ⟨_, rfl, ?_⟩
          unfold tNoPart
          refine ⟨_, rfl, _, rfl, sl, _, rfl, SqL.of hs7, fun sl2 nsl2 => ?_⟩
          have ec : cutV ((q0 ++ [q]).map V.ref) none (some (-1)) = q0.map V.ref := by
            rw [cut_last, ← List.map_dropLast, List.dropLast_concat]
          rw [ec]
          have s8 := same_upd (o := HO.lst (q0.map V.ref)) nsl2
          have sl8 := upd_same (H := H7) (a := sl2) (o := HO.lst (q0.map V.ref))
          have slF : sl2 ∉ F7 := fun h => by obtain ⟨_, z, _⟩ := W7.L.mem h; rw [nsl2] at z; cases z
          have slD : sl2 ∉ Dg dr lg cl := fun h => by obtain ⟨_, z, _⟩ := W7.d.mem h; rw [nsl2] at z; cases z
          have lne : lt2 ≠ sl2 := fun z => by rw [← z, l7] at nsl2; cases nsl2
          have W8 := W7.same s8
          have c38 := c37.then s8
          have l8 := s8 _ _ l7
          have hb8 := sameT s8 hb7
          generalize upd H7 sl2 (.lst (q0.map V.ref)) = H8 at s8 sl8 W8 c38 l8 hb8 ⊢
          have ht8 := c38.keep t _ (by simp only [List.mem_append, not_or]; exact ⟨tF, tD⟩) ht3
          obtain ⟨q0', q', eqq, h0, _⟩ := paired_last I3.ss
          obtain ⟨rfl, _⟩ := List.append_inj' eqq rfl
          have ss8 : Paired (fun q s => StL K dr lg cl F7 H8 q s) q0 (S1 ++ [(w1, D1)]) := Paired.mapP h0 fun x s h => h.step c38.t f37
          have ll8 : Paired (fun q d => SqT K H8 q (Deed.v d)) (lqs ++ [b]) (la ++ [d]) := Paired.snoc (Paired.mapP I3.ll fun _ _ h => c38.seq _ _ h) hb8
          obtain ⟨q00, q1, rfl, _, wq1, t1, hq11, _, hq13, tF1, tD1⟩ := paired_last ss8
          -- [name for name in seen if name not in states[-1][1] and not is_let_go(live, name)] != []
          refine ⟨t, _, ht8, trivial, fun od2 => ?_⟩
          refine ⟨_, rfl, t, od2, rfl, .inl ⟨kvD D, upd_same, fun M nM => ?_⟩⟩
          have ff : upd H8 t (.frz od2 (.dK (kvD D))) t = some (.frz od2 (.dK (kvD D))) := upd_same
          have nMt : M ≠ t := fun z => by rw [z, ff] at nM; cases nM
          have cF : Chg K [t] H8 (upd H8 t (.frz od2 (.dK (kvD D)))) := Chg.upd ht8 trivial (by simp)
          have zF : ∀ x ∈ [t], ∃ o, H8 x = some o ∧ (∀ ps, o ≠ .tbl ps) ∧ Mov o := fun x h => by
            have : x = t := by simpa using h
            subst this
            exact ⟨_, ht8, (fun ps z => by cases z), trivial⟩
          have WF := W8.chg cF (fun x h z => tF7 (List.mem_singleton.mp z ▸ h)) (fun x h z => tD (List.mem_singleton.mp z ▸ h)) (tab_not W8.T zF)
          have back : ∀ H', ChT K [] (upd H8 t (.frz od2 (.dK (kvD D)))) H' → ChT K [] H8 (upd H' t (.dK (kvD D))) := fun H' s => lk_backT ht8 s
          have nst : sl2 ≠ t := fun z => by rw [z, ht8] at sl8; cases sl8
          have slf : upd H8 t (.frz od2 (.dK (kvD D))) sl2 = some (.lst ((q00 ++ [q1]).map V.ref)) := by rw [upd_ne nst]; exact sl8
          have q1f := cF.seq _ _ hq11
          have t1f : Rd (upd H8 t (.frz od2 (.dK (kvD D)))) t1 (.dK (kvD D1)) := by
            by_cases z : t1 = t
            · subst z
              rw [ht8] at hq13
              injection hq13 with hq13
              injection hq13 with hq13
              have hq13 : kvD D = kvD D1 := hq13
              exact .inr ⟨od2, by rw [← hq13]; exact ff⟩
            · refine .inl ?_
              rw [upd_ne z]; exact hq13
          generalize upd H8 t (.frz od2 (.dK (kvD D))) = HF at ff nM cF WF back slf q1f t1f ⊢
          have sM := same_upd (o := HO.lst []) nM
          have hM := upd_same (H := HF) (a := M) (o := HO.lst [])
          have WM := WF.same sM
          refine lc_it (walk_keys (d := t) (o := od2) (kvs := kvD D)) (fun i H' => ChT K [] (upd HF M (.lst [])) H' ∧ Tabs tabs H') ⟨.of (Same.refl _), WM.T⟩ (fun i H' _ h => h.1.keep t _ (by simp) (fun ps z => by cases z) (sM _ _ ff)) (fun j x HG HG' hj pv hy => ?_) (fun HG pv => ?_)
          · obtain ⟨rfl, key, v, hkv, rfl⟩ := hy
            obtain ⟨n, rfl, hn, rfl, hv⟩ := kv_at hDok.nd hkv
            have cG : ChT K [] HF HG' := (ChT.of (D := []) sM).trans pv.1 (by simp)
            have nmok : isNm n = true := by
              obtain ⟨y, h1, rfl⟩ := List.mem_map.mp (List.mem_of_getElem? hn)
              exact (hDok.nm y h1).1
            have WG := WM.cht pv.1 (by simp) (by simp) pv.2
            have t1g : Rd HG' t1 (.dK (kvD D1)) := by
              rcases t1f with z | ⟨o, z⟩
              · exact .inl (cG.keep _ _ (by simp) (fun ps z => by cases z) z)
              · exact .inr ⟨o, cG.keep _ _ (by simp) (fun ps z => by cases z) z⟩
            have slg := cG.keep _ _ (by simp) (fun ps z => by cases z) slf
            have q1g := cG.seq _ _ q1f
            refine ⟨rfl, ?_⟩
            refine ⟨_, rfl, _, rfl, _, rfl, sl2, _, _, _, rfl, rfl, SqL.of slg, atI_last', q1, _, _, _, rfl, rfl, q1g, atI_nat (j := 1) rfl, t1, (dGet D1 n).map (fun (m : Nat) => V.int (m : Int)), rfl, .inl ⟨kvD D1, .inr n, t1g, rfl, (valV_kvD n D1).symm⟩, ?_⟩
            cases e : dGet D1 n with
            | some m =>
              refine ⟨_, rfl, ?_⟩
              refine iteF ?_
              refine iteF ?_
              exact pv
            | none =>
              refine ⟨_, rfl, ?_⟩
              refine iteT ?_
              refine ⟨_, rfl, _, rfl, p, F7, S1, w1, D1, dn1, la ++ [d], n, rfl, WG.L, isNm_len nmok, e, WG.T, fun HX cX tX => ?_⟩
              refine ⟨_, rfl, ?_⟩
              refine iteF ?_
              exact ⟨pv.1.trans cX (by simp), tX⟩
          · have fG := pv.1.keep t _ (by simp) (fun ps z => by cases z) (sM _ _ ff)
            have mG := pv.1.keep M _ (by simp) (fun ps z => by cases z) hM
            have cG : ChT K [] HF HG := (ChT.of (D := []) sM).trans pv.1 (by simp)
            have c8G := back HG cG
            have tG : Tabs tabs (upd HG t (.dK (kvD D))) := tabs_ul pv.2 fG
            have mE : upd HG t (.dK (kvD D)) M = some (.lst []) := by rw [upd_ne nMt]; exact mG
            refine ⟨fG, ?_⟩
            generalize upd HG t (.dK (kvD D)) = HE at c8G tG mE ⊢
            have W9 := W8.cht c8G (by simp) (by simp) tG
            refine ⟨(by show 0 ≤ sizeLine; decide), fun e0 ne0 => ?_⟩
            have s9 := same_upd (o := HO.lst []) ne0
            have e9 := upd_same (H := HE) (a := e0) (o := HO.lst [])
            have c9 : ChT K [] H8 (upd HE e0 (.lst [])) := c8G.then s9
            have W9 := W9.same s9
            have m9 := s9 _ _ mE
            generalize upd HE e0 (.lst []) = H9 at s9 e9 c9 W9 m9 ⊢
            refine ⟨_, _, dp_nil (SqL.of m9), dp_nil (SqL.of e9), shaped_list _, shaped_list _, _, rfl, ?_⟩
            rw [show PyData.eqv (.list (dInts [])) (.list (dInts [])) = true by show PyData.eqvAll _ _ = true; rw [eqv_ints]; simp]
            refine iteF ?_
            have z2 := I3.b2
            have z1 := I3.b1
            refine ⟨_, _, _, _, _, _, _, _, _, sl2, lt2, F7, S1, w1, D1, dn1, la ++ [d], q00 ++ [q1], lqs ++ [b], rfl, {
              W := W9
              s := c9.keep _ _ (by simp) (fun ps z => by cases z) sl8
              ss := Paired.mapP ss8 fun x s h => h.step (c9.more (by simp)) fun x h => .inl h
              l := by rw [List.map_append]; exact c9.keep _ _ (by simp) (fun ps z => by cases z) l8
              ll := Paired.mapP ll8 fun _ _ h => c9.seq _ _ h
              pa := pa1
              nx := .snoc okd afd I3.nx
              ok := fun s hs => by
                have := I3.ok s (List.mem_append_left _ hs)
                exact ⟨this.1, by omega⟩
              b1 := by rw [List.length_append] at z1; omega
              b2 := by rw [List.length_append, List.length_singleton]; omega
              ns := ⟨slF, slD⟩
              nl := ⟨ltF7, ltD⟩
              ne := lne }⟩
        · exact hB
    · clear I1 I2 I3 hq1 hq2 hq3 tF tD hq0 hp2 hp3 hwa3 hln3 ht3 hwq3 Do hod nod s3 c2 d2 pm sso hDok hDlen hlw
      rintro σ H4 ⟨v5, v6, v7, v8, v9, v10, v11, v12, v13, sl, lt, F, S0, w, D, dn, la, qs, lqs, rfl, I4⟩
      obtain ⟨q0, q, rfl, hq0, wq, t, hq1, hq2, hq3, tF, tD⟩ := paired_last I4.ss
      have hDi := I4.ok (w, D) (by simp)
      simp only at hDi hq2 hq3
      obtain ⟨hlw, dx3, wa3, ln3, e3, b3, f3, g3, st3, dd3, aa3, hp3, hwa3, hln3⟩ := I4.W.L.word
      refine ⟨_, rfl, p, _, dx3, _, _, rfl, hp3, T.cl_LW, T.na_word, rfl, ?_⟩
      refine ⟨_, rfl, _, rfl, sl, _, _, _, rfl, rfl, SqL.of I4.s, atI_last', q, _, _, _, rfl, rfl, hq1, atI_nat (j := 0) rfl, ?_⟩
      refine ⟨_, _, dp_tup hwa3, dp_tup hq2, shaped_tup _, shaped_tup _, _, rfl, ?_⟩
      rw [show PyData.eqv (.tuple (dInts w)) (.tuple (dInts w)) = true by show PyData.eqvAll _ _ = true; rw [eqv_ints]; simp]
      refine iteF ?_
      refine ⟨_, rfl, _, rfl, _, rfl, sl, _, _, _, rfl, rfl, SqL.of I4.s, atI_last', q, _, _, _, rfl, rfl, hq1, atI_nat (j := 0) rfl, ?_⟩
      refine ⟨_, rfl, _, rfl, sl, _, _, _, rfl, rfl, SqL.of I4.s, atI_last', q, _, _, _, rfl, rfl, hq1, atI_nat (j := 1) rfl, ?_⟩
      refine ⟨p, wq, t, F, S0, w, D, dn, la, rfl, I4.W.L, hq2, hq3, hDi.1, by have := hDi.2; omega, tF, fun H5 s5 => ?_⟩
      refine ⟨_, rfl, ?_⟩
      refine iteF ?_
      exact ⟨_, _, _, _, _, _, _, _, _, sl, lt, F, S0, w, D, dn, la, _, lqs, rfl, I4.same s5⟩
  · rintro σ H9 ⟨_, _, _, _, _, _, _, _, _, sl, lt, F, S0, w, D, dn, la, qs, lqs, rfl, I9⟩
    refine ⟨_, rfl, p, F, S0, w, D, dn, la, rfl, I9.W.L, ?_, I9.W.T, fun HA => k HA⟩
    have := (I9.ok (w, D) (by simp)).2
    show D.length ≤ 1000
    simp only at this
    omega
end
end K57
set_option Elab.async false
set_option linter.all false
set_option maxRecDepth 100000
set_option maxHeartbeats 4000000
/-! What the head must say of own errors' classes, read by a Hook of its own. -/
namespace K57
open PySem PySem.Spec PyProof.Rows L2 LamX
/-! ### an own error's class -/
def oexB (K : PySem.W.Frag) (C : Addr) : Bool := match K.lookup C with
  | some ⟨.type t, _, .cls cd, sl⟩ => (match cd.mro, sl.toList with
    | .ref D :: bm, [_, _, _, _, some (.builtin n), _] => decide (t = "type") && (decide (D = C) && (decide (n = "ValueError.__new__") && (!cd.hasDel && (cd.hasDict && PySem.HandSPX.refsVE bm))))
    | _, _ => false)
  | _ => false
theorem oexB_ok {K : PySem.W.Frag} {C : Addr} (h : oexB K C = true) : ∃ nm q N bs bm sn sub ab col dd k0 k1 k2 k3 k5, K.lookup C = some (excClassObj nm q C N bs bm true sn sub ab col dd k0 k1 k2 k3 k5 "ValueError.__new__") ∧ PySem.HandSPX.refsVE bm = true := by
  unfold oexB at h
  split at h
  · rename_i t dd cd sl ho
    split at h
    · rename_i D bm k0 k1 k2 k3 n k5 hm hs
      simp only [Bool.and_eq_true, decide_eq_true_eq, Bool.not_eq_true'] at h
      obtain ⟨rfl, rfl, rfl, h4, h5, h6⟩ := h
      obtain ⟨nm, bs, mro, ns, qn, hd, sn, sub, ab, col, del⟩ := cd
      dsimp only at hm h4 h5
      subst hm h4 h5
      have e : sl = #[k0, k1, k2, k3, some (.builtin "ValueError.__new__"), k5] := by
        obtain ⟨l⟩ := sl
        simp only at hs
        rw [hs]
      subst e
      exact ⟨nm, qn, ns, bs, bm, sn, sub, ab, col, dd, k0, k1, k2, k3, k5, ho, h6⟩
    · cases h
  · cases h
def sixB (K : PySem.W.Frag) (C : Addr) : Bool := oexB K C && (He.eqO (PySem.W.findIn K (.ref C) "__setattr__") (some (some (.builtin "object.__setattr__"))) && (decide (PySem.W.subIn K (.ref C) (.type "BaseException") = some true) && (decide (PySem.W.typeIn K (.ref C) = some (.type "type")) && PySem.W.keepIn K (.ref C))))
theorem sixB_ok {K : PySem.W.Frag} {C : Addr} (h : sixB K C = true) : OexC K C := by
  unfold sixB at h
  simp only [Bool.and_eq_true, decide_eq_true_eq] at h
  obtain ⟨h1, h2, h3, h4, h5⟩ := h
  exact ⟨oexB_ok h1, He.eqO_ok h2, h3, h4, h5⟩
def askB (K : PySem.W.Frag) (D : Addr) : Bool := He.eqO (PySem.W.findIn K (.ref D) "__getattribute__") (some (some (.builtin "BaseException.__getattribute__"))) && (He.eqO (PySem.W.findIn K (.ref D) "__getattr__") (some none) && (decide (PySem.W.subIn K (.ref D) (.type "BaseException") = some true) &&
  (PySem.W.hasDictIn K D && (He.eqO (PySem.W.findIn K (.ref D) "__class__") (some (some (.builtin "object.__class__"))) && (He.eqO (PySem.W.specialIn K (.builtin "object.__class__") "__get__") (some (some (.builtin "getset_descriptor.__get__"))) &&
  (decide (PySem.W.takesIn K (.builtin "object.__class__") = some true) && decide (PySem.W.mroIn K D (.type "object") = some true)))))))
theorem askB_ok {K : PySem.W.Frag} {D : Addr} (h : askB K D = true) : L2.ExcC K D ∧ XfC K D := by
  unfold askB at h
  simp only [Bool.and_eq_true, decide_eq_true_eq] at h
  obtain ⟨h1, h2, h3, h4, h5, h6, h7, h8⟩ := h
  exact ⟨⟨He.eqO_ok h1, He.eqO_ok h2, h3, h4, He.eqO_ok h5, He.eqO_ok h6, h7, h8⟩, ⟨He.eqO_ok h1, He.eqO_ok h2, h3, h4⟩⟩
/-! ### its __init__, which names its class -/
abbrev FnY : Type := Option (Str × Str × Arguments × FuncBody × Scope × Addr × List Str × Addr)
def fnY (K : PySem.W.Frag) (p : Str × Option Str) : FnY := match K.lookup (He.fAd K p) with
  | some ⟨_, _, .func fd, _⟩ => some (fd.name, fd.qualname, fd.params, fd.body, fd.scope, fd.globals, fd.closure.map (·.1), fd.builtins)
  | _ => none
/-- such a class: its name, its __init__'s statement, the field -/
structure NeD where
  x : Str
  qual : Str
  st : Stmt
  f : Str
def NeD.val (d : NeD) : FnY := some ("__init__", d.qual, defArgs d.st, .stmts (defBody d.st), defScope d.st, mainGlobals, ["__class__"], builtinsNs)
def ccOf (K : PySem.W.Frag) (a : Addr) : Addr := match K.lookup a with
  | some ⟨_, _, .func fd, _⟩ => (match fd.closure with
    | [q] => q.2
    | _ => 0)
  | _ => 0
def cellB (K : PySem.W.Frag) (a C : Addr) : Bool := match K.lookup a with
  | some ⟨_, _, .cell (some (.ref c)), _⟩ => decide (c = C)
  | _ => false
theorem cellB_ok {K : PySem.W.Frag} {a C : Addr} (h : cellB K a C = true) : ∃ (cl : Value) (cld : Option Addr) (csl : Array (Option Value)), K.lookup a = some ⟨cl, cld, .cell (some (.ref C)), csl⟩ := by
  unfold cellB at h
  split at h
  · rename_i x1 x2 c x3 e
    cases of_decide_eq_true h
    exact ⟨_, _, _, e⟩
  · cases h
def fileB (K : PySem.W.Frag) (a : Addr) (file : Str) : Bool := match K.lookup a with
  | some ⟨_, _, .fields vs, _⟩ => (match (vs[2]? : Option Value) with
    | some (.str z _) => file == z
    | _ => false)
  | _ => false
theorem fileB_ok {K : PySem.W.Frag} {a : Addr} {file : Str} (h : fileB K a file = true) : ∃ (ccl : Value) (cdd : Option Addr) (vs : Array Value) (ccs : Array (Option Value)) (z : Str) (tf : Tok), K.lookup a = some ⟨ccl, cdd, .fields vs, ccs⟩ ∧ vs[2]? = some (.str z tf) ∧ (file == z) = true := by
  unfold fileB at h
  split at h
  · rename_i x1 x2 vs x3 e
    split at h
    · rename_i z tf e2
      exact ⟨_, _, vs, _, z, tf, e, e2, h⟩
    · cases h
  · cases h
def noDfl : Value → Bool
  | .none => true
  | _ => false
theorem noDfl_ok {v : Value} (h : noDfl v = true) : v = .none := by cases v <;> first | rfl | cases h
def codeB (K : PySem.W.Frag) (a : Addr) (q : Str) : Bool := match K.lookup a with
  | some ⟨_, _, .func fd, _⟩ => PySem.W.codeIn K fd.code q && noDfl fd.defaults
  | _ => false
def neB (K : PySem.W.Frag) (file : Str) (d : NeD) : Bool := sixB K (He.ga K d.x) && (He.eqO (PySem.W.findIn K (.ref (He.ga K d.x)) "__init__") (some (some (.ref (He.ma K (He.ga K d.x) "__init__")))) && (decide (PySem.W.typeIn K (.ref (He.ma K (He.ga K d.x) "__init__")) = some (.type "function")) &&
  (codeB K (He.ma K (He.ga K d.x) "__init__") d.qual && (cellB K (ccOf K (He.ma K (He.ga K d.x) "__init__")) (He.ga K d.x) && (fileB K (He.codeOf K (d.x, some "__init__")) file &&
  (He.eqO (PySem.W.ks_superIn K (He.ga K d.x) (He.ga K d.x) "__init__") (some (some (.builtin "ValueError.__init__"))) && (He.eqO (PySem.W.nsIn K cStatics "thirdparty.any") (some none) && (decide (PySem.W.subIn K (.ref (He.ga K d.x)) (.type "ValueError") = some true) &&
  (decide (PySem.W.mroIn K (He.ga K d.x) (.ref (He.ga K d.x)) = some true) && (He.eqO (PySem.W.findIn K (.ref (He.ga K d.x)) d.f) (some none) && askB K (He.ga K d.x)))))))))))
theorem ne_of {P : Program} {K : PySem.W.Frag} {mg : Str → Option Value} {d : NeD} (e : fnY K (d.x, some "__init__") = d.val) (h : neB K P.main.file d = true) (nsup : mg "super" = none) (htop : (P.main.scope.names.lookup ("super" : Str)).isSome = false) :
    (∃ cc cda fd, NeTxt P K mg (He.ga K d.x) (He.ma K (He.ga K d.x) "__init__") cc cda fd d.qual d.st d.f ∧ fd.defaults = .none) ∧ L2.ExcC K (He.ga K d.x) ∧ XfC K (He.ga K d.x) := by
  unfold neB at h
  simp only [Bool.and_eq_true, decide_eq_true_eq] at h
  obtain ⟨h1, h2, h3, h4, h5, h6, h7, h8, h9, h10, h11, h12⟩ := h
  refine ⟨?_, askB_ok h12⟩
  unfold fnY at e
  unfold codeB at h4
  unfold ccOf at h5
  unfold He.codeOf at h6
  have ef : He.fAd K (d.x, some "__init__") = He.ma K (He.ga K d.x) "__init__" := rfl
  rw [ef] at e h6
  cases q : K.lookup (He.ma K (He.ga K d.x) "__init__") with
  | none =>
    rw [q] at h4
    cases h4
  | some o =>
    obtain ⟨oc, od, dt, osl⟩ := o
    rw [q] at h4 h5 h6 e
    cases dt with
    | func fd =>
      obtain ⟨n1, n2, n3, n4, n5, n6, n7, n8, n9, n10, n11, n12, n13, n14, n15⟩ := fd
      have e2 : (some (n1, n2, n3, n4, n5, n6, n7.map (·.1), n15) : FnY) = some (("__init__" : Str), d.qual, defArgs d.st, FuncBody.stmts (defBody d.st), defScope d.st, mainGlobals, [("__class__" : Str)], builtinsNs) := e
      simp only [Option.some.injEq, Prod.mk.injEq] at e2
      obtain ⟨g1, g2, g3, g4, g5, g6, g7, g8⟩ := e2
      subst g1 g2 g3 g4 g5 g6 g8
      obtain ⟨g4, h0⟩ := He.ba (show (PySem.W.codeIn K n13 d.qual && noDfl n8) = true from h4)
      obtain ⟨cda, rfl⟩ := He.codeIn_ref g4
      match n7, g7 with
      | [(y, cc)], g7 =>
        have g7 : [y] = [("__class__" : Str)] := g7
        cases g7
        exact ⟨cc, cda, _, ⟨sixB_ok h1, He.eqO_ok h2, h3, ⟨oc, od, n8, n9, n10, n11, n12, n14, osl, rfl, q⟩, g4, cellB_ok h5, fileB_ok h6, He.eqO_ok h7, He.eqO_ok h8, h9, h10, nsup, htop, He.eqO_ok h11⟩, noDfl_ok h0⟩
    | _ => cases h4
/-! ### the Hook -/
def aY (g : Addr → Option Obj) (n : Nat) : List Addr := cStatics :: He.asD g n
abbrev AlY : Type := He.AlT × Bool × List FnY
def obsY (n : Nat) (fa : List He.Fa) (fn : List He.DefD) (tf : List He.Defn) (ne : List NeD) (ex : PySem.W.Frag → Bool) (g : Addr → Option Obj) : AlY :=
  (He.obsT fa fn [] (He.frT g (aY g n)), ex (He.frT g (aY g n)) && He.tabsB g tf (He.frT g (aY g n)), ne.map fun d => fnY (He.frT g (aY g n)) (d.x, some "__init__"))
def valY (fn : List He.DefD) (ne : List NeD) (w : World) : AlY := (He.valT fn [] w, true, ne.map NeD.val)
/-- what is told: the facts, the Bool, the tables, the errors' __init__ -/
structure SaysY (fa : List He.Fa) (fn : List He.DefD) (tf : List He.Defn) (ne : List NeD) (ex : PySem.W.Frag → Bool) (w : World) (h : Heap) (K : PySem.W.Frag) : Prop where
  x : He.SaysX fa fn [] tf ex w h K
  n : ∀ d ∈ ne, fnY K (d.x, some "__init__") = d.val
theorem saysY_of {n : Nat} {fa : List He.Fa} {fn : List He.DefD} {tf : List He.Defn} {ne : List NeD} {ex : PySem.W.Frag → Bool} {w : World} {h : Heap} (e : obsY n fa fn tf ne ex h.get? = valY fn ne w) : SaysY fa fn tf ne ex w h (He.frT h.get? (aY h.get? n)) := by
  unfold obsY valY at e
  generalize aY h.get? n = as at e ⊢
  obtain ⟨e1, e23⟩ := Prod.mk.inj e
  obtain ⟨e2, e3⟩ := Prod.mk.inj e23
  obtain ⟨h1, h2⟩ := He.ba e2
  have key : ∀ p ∈ tf, PySem.W.codeHdIn (He.frT h.get? as) (He.cT (He.frT h.get? as) p).1 (He.cT (He.frT h.get? as) p).2 = true ∧ ∃ o, h.get? (He.cT (He.frT h.get? as) p).2 = some o ∧ He.emptyTab o = true := fun p hp => by
    obtain ⟨g1, g2⟩ := He.ba (List.all_eq_true.mp h2 p hp)
    refine ⟨g1, ?_⟩
    revert g2
    cases h.get? (He.cT (He.frT h.get? as) p).2 with
    | none => exact fun z => by cases z
    | some o => exact fun z => ⟨o, rfl, z⟩
  refine ⟨⟨e1, h1, fun p hp => (key p hp).1, fun p hp => ?_, fun p hp => ?_⟩, fun d hd => ?_⟩
  · obtain ⟨_, o, q, z⟩ := key p hp
    exact He.frT_none q z
  · obtain ⟨_, o, q, z⟩ := key p hp
    rw [q, He.emptyTab_eq z]
  · obtain ⟨i, hi, rfl⟩ := List.mem_iff_getElem.mp hd
    have := congrArg (fun l => l[i]?) e3
    simpa [List.getElem?_map, List.getElem?_eq_getElem hi] using this
def hookY (n : Nat) (fa : List He.Fa) (fn : List He.DefD) (tf : List He.Defn) (ne : List NeD) (ex : PySem.W.Frag → Bool) : PySem.W.Hook where
  α := AlY
  obs := fun s => obsY n fa fn tf ne ex s.heap.get?
  val := fun w => valY fn ne w
  says := fun w h => ∃ K : PySem.W.Frag, K.In h ∧ SaysY fa fn tf ne ex w h K
  of := fun _ _ e => ⟨_, He.frT_in, saysY_of e⟩
  keeps := fun _ _ _ ⟨K, hK, c⟩ k => ⟨K, hK.keeps k, ⟨⟨c.x.t, c.x.more, c.x.hd, c.x.out, fun p hp => k _ _ (c.x.empty p hp)⟩, c.n⟩⟩
theorem obsY_eq {n : Nat} {fa : List He.Fa} {fn : List He.DefD} {tf : List He.Defn} {ne : List NeD} {ex : PySem.W.Frag → Bool} {g : Addr → Option Obj} {s : Shared} (h : ∀ a, g a = s.heap.get? a) : obsY n fa fn tf ne ex g = (hookY n fa fn tf ne ex).obs s := by
  cases (funext h : g = s.heap.get?)
  rfl
end K57
set_option Elab.async false
set_option linter.all false
set_option maxRecDepth 100000
set_option maxHeartbeats 0
/-! The head: the top's run in the kernel, and what is looked at behind it. Printed by mkhead.py. -/
namespace K57
open PySem PySem.Spec PyProof.Rows L2 LamX
abbrev Rw : PySem.W.OpenRow := PySem.W.OpenLaw.row PySem.Challenge.rw_boxparts_k57_whole_boxes_that_are_watche
abbrev qw : Program := PySem.W.view Rw.prog [81]
def nmL0 : List PySem.Str := ["BoxError", "BadNumber", "BadWord", "TooMany", "NotHere", "BadDeed", "BadName", "NoWatch", "NothingLeft", "MOST_E", "is_number", "is_between", "need_e", "need_few", "MOST_BOXES", "turned_of"]
def nmL1 : List PySem.Str := ["is_free_of", "boxes_of", "colour_of", "colours_of", "hook_of", "rimless", "rimless_all", "core_of", "MOST_LETTER", "is_long_word", "need_long_word", "lengths_of", "letter_pushed", "pushed_of", "elementary_of", "elementary"]
def nmL2 : List PySem.Str := ["SIGNS", "ALONE", "LETTERED", "is_name", "need_name", "is_deed", "word_about", "after_deed", "LiveWord", "FAR", "need_many", "arcs_of", "least_costs", "best_flow", "lot_of", "rising_lot"]
def nmL3 : List PySem.Str := ["_law_begun", "_law_mixed", "_law_take", "_law_pick", "_law_caught", "_law_long_word", "_law_letter_on", "_law_tuples", "_law_push", "_law_lengths", "_law_about", "_law_elementary", "_law_name", "_law_same_dict", "_law_deed", "_law_word_on"]
def nmL4 : List PySem.Str := ["_law_doable", "_law_most", "_law_looked", "_law_changes_right", "_law_is_let_go", "_law_watch", "_law_refused"]
def nmL : List PySem.Str := nmL0 ++ nmL1 ++ nmL2 ++ nmL3 ++ nmL4
def faL0 : List He.Fa := [.glo "is_number", .glo "is_between", .glo "need_e", .glo "need_few", .glo "is_long_word", .glo "need_long_word", .glo "lengths_of", .glo "letter_pushed", .glo "pushed_of", .glo "elementary_of", .glo "elementary", .glo "is_name", .glo "need_name", .glo "is_deed", .glo "word_about", .glo "after_deed"]
def faL1 : List He.Fa := [.meth "LiveWord" "__init__", .meth "LiveWord" "settle", .meth "LiveWord" "do", .meth "LiveWord" "go_on", .meth "LiveWord" "deeds", .meth "LiveWord" "undo", .meth "LiveWord" "redo", .meth "LiveWord" "watch", .meth "LiveWord" "unwatch", .meth "LiveWord" "watched", .glo "need_many", .glo "arcs_of", .glo "least_costs", .glo "best_flow", .glo "lot_of", .glo "rising_lot"]
def faL2 : List He.Fa := [.glo "_law_begun", .glo "_law_mixed", .glo "_law_take", .glo "_law_pick", .glo "_law_caught", .glo "_law_long_word", .glo "_law_letter_on", .glo "_law_tuples", .glo "_law_push", .glo "_law_lengths", .glo "_law_about", .glo "_law_elementary", .glo "_law_name", .glo "_law_same_dict", .glo "_law_deed", .glo "_law_word_on"]
def faL3 : List He.Fa := [.glo "_law_doable", .glo "_law_most", .glo "_law_looked", .glo "_law_changes_right", .glo "_law_is_let_go", .glo "_law_watch", .glo "_law_refused", .glo "law", .glo "BoxError", .glo "BadName", .glo "BadNumber", .glo "NoWatch", .glo "LiveWord", .glo "ALONE", .glo "LETTERED", .free "isinstance"]
def faL4 : List He.Fa := [.free "int", .free "bool", .free "str", .free "tuple", .free "len", .free "all", .free "list", .free "range", .free "enumerate", .free "min", .free "max", .free "dict", .free "sorted", .free "sum", .free "abs", .free "repr"]
def faL5 : List He.Fa := [.free "super", .int "MOST_E" 20, .int "MOST_BOXES" 16, .int "MOST_LETTER" 16, .int "FAR" 1000000, .str "SIGNS" "abcdefghijklmnopqrstuvwxyz", .cls "LiveWord", .mkr "LiveWord", .noat "LiveWord" "e", .noat "LiveWord" "begun", .noat "LiveWord" "word", .noat "LiveWord" "lines", .noat "LiveWord" "filling", .noat "LiveWord" "standing", .noat "LiveWord" "states", .noat "LiveWord" "done"]
def faL6 : List He.Fa := [.noat "LiveWord" "later", .exc "BadName", .exm "BadName" "BoxError" true, .exm "BadNumber" "BoxError" true, .exm "NoWatch" "BoxError" true]
def faL : List He.Fa := faL0 ++ faL1 ++ faL2 ++ faL3 ++ faL4 ++ faL5 ++ faL6
def fnL0 : List He.DefD := [⟨("is_number", none), "is_number", "is_number", defArgs s_is_number, defBody s_is_number, defScope s_is_number, [], []⟩, ⟨("is_between", none), "is_between", "is_between", defArgs s_is_between, defBody s_is_between, defScope s_is_between, [], []⟩, ⟨("need_e", none), "need_e", "need_e", defArgs s_need_e, defBody s_need_e, defScope s_need_e, [], []⟩, ⟨("need_few", none), "need_few", "need_few", defArgs s_need_few, defBody s_need_few, defScope s_need_few, [], []⟩, ⟨("is_long_word", none), "is_long_word", "is_long_word", defArgs s_is_long_word, defBody s_is_long_word, defScope s_is_long_word, [], []⟩, ⟨("need_long_word", none), "need_long_word", "need_long_word", defArgs s_need_long_word, defBody s_need_long_word, defScope s_need_long_word, [], []⟩, ⟨("lengths_of", none), "lengths_of", "lengths_of", defArgs s_lengths_of, defBody s_lengths_of, defScope s_lengths_of, [], []⟩, ⟨("letter_pushed", none), "letter_pushed", "letter_pushed", defArgs s_letter_pushed, defBody s_letter_pushed, defScope s_letter_pushed, [], []⟩]
def fnL1 : List He.DefD := [⟨("pushed_of", none), "pushed_of", "pushed_of", defArgs s_pushed_of, defBody s_pushed_of, defScope s_pushed_of, [], []⟩, ⟨("elementary_of", none), "elementary_of", "elementary_of", defArgs s_elementary_of, defBody s_elementary_of, defScope s_elementary_of, [], []⟩, ⟨("elementary", none), "elementary", "elementary", defArgs s_elementary, defBody s_elementary, defScope s_elementary, [], []⟩, ⟨("is_name", none), "is_name", "is_name", defArgs s_is_name, defBody s_is_name, defScope s_is_name, [], []⟩, ⟨("need_name", none), "need_name", "need_name", defArgs s_need_name, defBody s_need_name, defScope s_need_name, [], []⟩, ⟨("is_deed", none), "is_deed", "is_deed", defArgs s_is_deed, defBody s_is_deed, defScope s_is_deed, [], []⟩, ⟨("word_about", none), "word_about", "word_about", defArgs s_word_about, defBody s_word_about, defScope s_word_about, [], []⟩, ⟨("after_deed", none), "after_deed", "after_deed", defArgs s_after_deed, defBody s_after_deed, defScope s_after_deed, [], []⟩]
def fnL2 : List He.DefD := [⟨("LiveWord", some "__init__"), "__init__", "LiveWord.__init__", defArgs s_LW_init, defBody s_LW_init, defScope s_LW_init, [], []⟩, ⟨("LiveWord", some "settle"), "settle", "LiveWord.settle", defArgs s_LW_settle, defBody s_LW_settle, defScope s_LW_settle, [], []⟩, ⟨("LiveWord", some "do"), "do", "LiveWord.do", defArgs s_LW_do, defBody s_LW_do, defScope s_LW_do, [], []⟩, ⟨("LiveWord", some "go_on"), "go_on", "LiveWord.go_on", defArgs s_LW_go_on, defBody s_LW_go_on, defScope s_LW_go_on, [], []⟩, ⟨("LiveWord", some "deeds"), "deeds", "LiveWord.deeds", defArgs s_LW_deeds, defBody s_LW_deeds, defScope s_LW_deeds, [], []⟩, ⟨("LiveWord", some "undo"), "undo", "LiveWord.undo", defArgs s_LW_undo, defBody s_LW_undo, defScope s_LW_undo, [], []⟩, ⟨("LiveWord", some "redo"), "redo", "LiveWord.redo", defArgs s_LW_redo, defBody s_LW_redo, defScope s_LW_redo, [], []⟩, ⟨("LiveWord", some "watch"), "watch", "LiveWord.watch", defArgs s_LW_watch, defBody s_LW_watch, defScope s_LW_watch, [], []⟩]
def fnL3 : List He.DefD := [⟨("LiveWord", some "unwatch"), "unwatch", "LiveWord.unwatch", defArgs s_LW_unwatch, defBody s_LW_unwatch, defScope s_LW_unwatch, [], []⟩, ⟨("LiveWord", some "watched"), "watched", "LiveWord.watched", defArgs s_LW_watched, defBody s_LW_watched, defScope s_LW_watched, [], []⟩, ⟨("need_many", none), "need_many", "need_many", defArgs s_need_many, defBody s_need_many, defScope s_need_many, [], []⟩, ⟨("arcs_of", none), "arcs_of", "arcs_of", defArgs s_arcs_of, defBody s_arcs_of, defScope s_arcs_of, [], []⟩, ⟨("least_costs", none), "least_costs", "least_costs", defArgs s_least_costs, defBody s_least_costs, defScope s_least_costs, [], []⟩, ⟨("best_flow", none), "best_flow", "best_flow", defArgs s_best_flow, defBody s_best_flow, defScope s_best_flow, [], []⟩, ⟨("lot_of", none), "lot_of", "lot_of", defArgs s_lot_of, defBody s_lot_of, defScope s_lot_of, [], []⟩, ⟨("rising_lot", none), "rising_lot", "rising_lot", defArgs s_rising_lot, defBody s_rising_lot, defScope s_rising_lot, [], []⟩]
def fnL4 : List He.DefD := [⟨("_law_begun", none), "_law_begun", "_law_begun", defArgs s_l_begun, defBody s_l_begun, defScope s_l_begun, [], []⟩, ⟨("_law_mixed", none), "_law_mixed", "_law_mixed", defArgs s_l_mixed, defBody s_l_mixed, defScope s_l_mixed, [], []⟩, ⟨("_law_take", none), "_law_take", "_law_take", defArgs s_l_take, defBody s_l_take, defScope s_l_take, [], []⟩, ⟨("_law_pick", none), "_law_pick", "_law_pick", defArgs s_l_pick, defBody s_l_pick, defScope s_l_pick, [], []⟩, ⟨("_law_caught", none), "_law_caught", "_law_caught", defArgs s_l_caught, defBody s_l_caught, defScope s_l_caught, [], []⟩, ⟨("_law_long_word", none), "_law_long_word", "_law_long_word", defArgs s_l_long_word, defBody s_l_long_word, defScope s_l_long_word, [], []⟩, ⟨("_law_letter_on", none), "_law_letter_on", "_law_letter_on", defArgs s_l_letter_on, defBody s_l_letter_on, defScope s_l_letter_on, [], []⟩, ⟨("_law_tuples", none), "_law_tuples", "_law_tuples", defArgs s_l_tuples, defBody s_l_tuples, defScope s_l_tuples, [], []⟩]
def fnL5 : List He.DefD := [⟨("_law_push", none), "_law_push", "_law_push", defArgs s_l_push, defBody s_l_push, defScope s_l_push, [], []⟩, ⟨("_law_lengths", none), "_law_lengths", "_law_lengths", defArgs s_l_lengths, defBody s_l_lengths, defScope s_l_lengths, [], []⟩, ⟨("_law_about", none), "_law_about", "_law_about", defArgs s_l_about, defBody s_l_about, defScope s_l_about, [], []⟩, ⟨("_law_elementary", none), "_law_elementary", "_law_elementary", defArgs s_l_elementary, defBody s_l_elementary, defScope s_l_elementary, [], []⟩, ⟨("_law_name", none), "_law_name", "_law_name", defArgs s_l_name, defBody s_l_name, defScope s_l_name, [], []⟩, ⟨("_law_same_dict", none), "_law_same_dict", "_law_same_dict", defArgs s_l_same_dict, defBody s_l_same_dict, defScope s_l_same_dict, [], []⟩, ⟨("_law_deed", none), "_law_deed", "_law_deed", defArgs s_l_deed, defBody s_l_deed, defScope s_l_deed, [], []⟩, ⟨("_law_word_on", none), "_law_word_on", "_law_word_on", defArgs s_l_word_on, defBody s_l_word_on, defScope s_l_word_on, [], []⟩]
def fnL6 : List He.DefD := [⟨("_law_doable", none), "_law_doable", "_law_doable", defArgs s_l_doable, defBody s_l_doable, defScope s_l_doable, [], []⟩, ⟨("_law_most", none), "_law_most", "_law_most", defArgs s_l_most, defBody s_l_most, defScope s_l_most, [], []⟩, ⟨("_law_looked", none), "_law_looked", "_law_looked", defArgs s_l_looked, defBody s_l_looked, defScope s_l_looked, [], []⟩, ⟨("_law_changes_right", none), "_law_changes_right", "_law_changes_right", defArgs s_l_changes_right, defBody s_l_changes_right, defScope s_l_changes_right, [], []⟩, ⟨("_law_is_let_go", none), "_law_is_let_go", "_law_is_let_go", defArgs s_l_is_let_go, defBody s_l_is_let_go, defScope s_l_is_let_go, [], []⟩, ⟨("_law_watch", none), "_law_watch", "_law_watch", defArgs s_l_watch, defBody s_l_watch, defScope s_l_watch, [], []⟩, ⟨("_law_refused", none), "_law_refused", "_law_refused", defArgs s_l_refused, defBody s_l_refused, defScope s_l_refused, [], []⟩, ⟨("law", none), "law", "law", defArgs s_law, defBody s_law, defScope s_law, [], []⟩]
def fnL : List He.DefD := fnL0 ++ fnL1 ++ fnL2 ++ fnL3 ++ fnL4 ++ fnL5 ++ fnL6
def tfL : List He.Defn := [("_law_is_let_go", none), ("_law_refused", none)]
def dNum : NeD := ⟨"BadNumber", "BadNumber.__init__", inClass (top 2) 0, "part"⟩
def dNow : NeD := ⟨"NoWatch", "NoWatch.__init__", inClass (top 8) 0, "name"⟩
def neL : List NeD := [dNum, dNow]
def exL (K : PySem.W.Frag) : Bool := He.tupB K "ALONE" [.str "drop", .str "shed", .str "about"] && (He.tupB K "LETTERED" [.str "push", .str "pull"] && (neB K Rw.prog.main.file dNum && (neB K Rw.prog.main.file dNow && (askB K (He.ga K "BadName") &&
  !(Nat.beq (He.cT K ("_law_is_let_go", none)).2 (He.cT K ("_law_refused", none)).2)))))
abbrev hkL : PySem.W.Hook := hookY 5 faL fnL tfL neL exL
def obL (s : PySem.W.SharedT) : AlY := obsY 5 faL fnL tfL neL exL (HandSHeadRun.getT s)
theorem obL_eq (s : PySem.W.SharedT) : obL s = hkL.obs s.abs := obsY_eq (HandSHeadRun.getT_eq s)
theorem runL (w : World) : HandSHeadRun.RunEq Rw qw hkL obL 6000 nmL w := by
  intro os
  kernel_rfl
end K57
set_option Elab.async false
set_option linter.all false
set_option maxRecDepth 100000
set_option maxHeartbeats 4000000
/-! The end: the law's call where no guard stands, its def's promise an FnG. -/
namespace K57
open PySem PySem.Spec PyProof.Rows L2 LamX
abbrev emptyO : Obj := { cls := .none, data := .fields #[] }
abbrev scriptO (vs : List Value) : Obj := { cls := .type "list", data := .seq vs.toArray }
/-- what is told of at the call's start: the tables, the script where it is not written -/
def H0 (K : PySem.W.Frag) (ts : List Addr) (a : Addr) (o : HO) : Hp := fun b => if b ∈ ts then some (.tbl #[]) else if b = a ∧ (K.lookup a).isNone = true then some o else none
section
variable {K : PySem.W.Frag} {ts : List Addr} {a b : Addr} {o u : HO}
theorem H0_cases (h : H0 K ts a o b = some u) : (b ∈ ts ∧ u = .tbl #[]) ∨ (b = a ∧ K.lookup a = none ∧ u = o) := by
  unfold H0 at h
  by_cases h1 : b ∈ ts
  · rw [if_pos h1] at h
    exact .inl ⟨h1, (Option.some.inj h).symm⟩
  · rw [if_neg h1] at h
    by_cases h2 : b = a ∧ (K.lookup a).isNone = true
    · rw [if_pos h2] at h
      exact .inr ⟨h2.1, Option.isNone_iff_eq_none.mp h2.2, (Option.some.inj h).symm⟩
    · rw [if_neg h2] at h
      cases h
theorem H0_tab (h : b ∈ ts) : H0 K ts a o b = some (.tbl #[]) := if_pos h
theorem H0_scr (h : a ∉ ts) (n : K.lookup a = none) : H0 K ts a o a = some o := (if_neg h).trans (if_pos ⟨rfl, by rw [n]; rfl⟩)
end
theorem call_free {P : Program} {w : World} {K : PySem.W.Frag} {mg mb : Str → Option Value} {k : Nat} {fa a : Addr} {cs : List (Addr × Addr)} {fd : FuncData} {x : Str} {sp : Sp} {s : Shared} {vs : List Value} {ns : List Int}
    (kin : K.In s.heap) (gn : s.heap.Ns mainGlobals mg) (bn : s.heap.Ns builtinsNs mb) (bb : ∀ y : Str, y ≠ "__name__" → mb y = bootBuiltins y) (nl : s.heap.NoLimit) (g0 : s.gens = #[])
    (tE : ∀ p ∈ cs, s.heap.get? p.2 = some emptyO) (tN : ∀ p ∈ cs, K.lookup p.2 = none) (tC : ∀ p ∈ cs, PySem.W.CodeHd s.heap p.1 p.2)
    (md : ∃ (m : Addr) (o : Obj), mg "__builtins__" = some (.ref m) ∧ m ≠ builtinsNs ∧ s.heap.get? m = some o ∧ o.cls = .type "module" ∧ o.dict = some builtinsNs ∧ o.data = .plain)
    (la : s.heap.get? a = some (scriptO vs)) (li : IntsAre vs ns) (ll : ns.length ≤ sizeLine) (rm : Room k callerA)
    (F : ∀ base : Heap, K.In base → base.Ns mainGlobals mg → (∀ p ∈ cs, TabB base mg p.1 p.2) → FnG P w K mg base CX0 k fa fd [x] sp) (bd : ∀ (s : Shared) (u : Value), BindsTo s fd ⟨[u], []⟩ [(x, u)])
    (hsp : ∀ H : Hp, (∀ p ∈ cs, H p.2 = some (.tbl #[])) → SqL K H a (ns.map V.int) → sp [.ref a] H (fun v _ => v = .bl true) fun _ _ _ => False) :
    codeAny (model P w) callerA (.call (.ref fa) ⟨[.ref a], []⟩) (fun r z => r = .ok (.ret (.bool true)) ∧ OldK s.heap z.heap ∧ z.os = s.os ∧ AllBare z.gens) s := by
  have rv := vals_ints li
  have lv := li.length
  have tAt : ∀ {b : Addr}, b ∈ cs.map (·.2) → s.heap.get? b = some emptyO := fun {b} hb => by
    obtain ⟨p, hp, rfl⟩ := List.mem_map.mp hb
    exact tE p hp
  have tNo : ∀ {b : Addr}, b ∈ cs.map (·.2) → K.lookup b = none := fun {b} hb => by
    obtain ⟨p, hp, rfl⟩ := List.mem_map.mp hb
    exact tN p hp
  have aN : a ∉ cs.map (·.2) := fun z => by
    have q := tAt z
    rw [la] at q
    cases congrArg Obj.data (Option.some.inj q)
  have hc := fun (b : Addr) (u : HO) (h : H0 K (cs.map (·.2)) a (.frz (scriptO vs) (.lst (ns.map V.int))) b = some u) => H0_cases h
  have hT := fun (b : Addr) (h : b ∈ cs.map (·.2)) => H0_tab (K := K) (a := a) (o := .frz (scriptO vs) (.lst (ns.map V.int))) h
  have hA : K.lookup a = none → H0 K (cs.map (·.2)) a (.frz (scriptO vs) (.lst (ns.map V.int))) a = some (.frz (scriptO vs) (.lst (ns.map V.int))) := fun n => H0_scr aN n
  generalize H0 K (cs.map (·.2)) a (.frz (scriptO vs) (.lst (ns.map V.int))) = H at hc hT hA
  -- what is neither table nor script is not told of
  have out : ∀ {b : Addr} {o : Obj}, s.heap.get? b = some o → o ≠ emptyO → o ≠ scriptO vs → H b = none := fun {b o} e n1 n2 => by
    cases q : H b with
    | none => rfl
    | some u =>
      rcases hc b u q with ⟨hb, _⟩ | ⟨rfl, _⟩
      · rw [tAt hb] at e
        exact absurd (Option.some.inj e).symm n1
      · rw [la] at e
        exact absurd (Option.some.inj e).symm n2
  have nd : ∀ {b : Addr} {o : Obj} {es : Array DictEntry} {ep : Nat}, s.heap.get? b = some o → o.data = .dict es ep → H b = none := fun e d =>
    out e (fun z => by rw [z] at d; cases d) (fun z => by rw [z] at d; cases d)
  have nsB : ∀ {b : Addr} {m : Str → Option Value}, s.heap.Ns b m → (hidT s.heap H).Ns b m := fun ⟨o, es, ep, e, d, r⟩ => ⟨o, es, ep, hidT_get e (nd e d), d, r⟩
  have kB : K.In (hidT s.heap H) := fun b o e => hidT_get (kin b o e) (by
    cases q : H b with
    | none => rfl
    | some u =>
      rcases hc b u q with ⟨hb, _⟩ | ⟨rfl, n, _⟩
      · rw [tNo hb] at e; cases e
      · rw [n] at e; cases e)
  have hM : L2.Mod K mg (hidT s.heap H) := ⟨kB, nsB gn, ⟨mb, nsB bn, bb⟩, by obtain ⟨mc, h1, h2⟩ := nl; exact ⟨mc, nsB h1, h2⟩⟩
  have hTB : ∀ p ∈ cs, TabB (hidT s.heap H) mg p.1 p.2 := fun p hp => by
    have ep := tE p hp
    refine ⟨?_, ?_, fun z => ?_⟩
    · obtain ⟨o, us, fl, tf, g, tg, iF, tx, tt, e1, r1, r2, r⟩ := tC p hp
      exact ⟨o, us, fl, tf, g, tg, iF, tx, tt, hidT_get e1 (out e1 (fun z => by rw [z] at r1; cases r1) (fun z => by rw [z] at r1; exact absurd r1 (show ¬ Value.type "list" = Value.type "code" by decide))), r1, r2, r⟩
    · obtain ⟨m, o, b1, b2, b3, b4, b5, b6⟩ := md
      refine ⟨m, o, b1, b2, fun q => ?_, fun q => ?_, hidT_get b3 (out b3 (fun z => by rw [z] at b4; cases b4) (fun z => by rw [z] at b4; exact absurd b4 (show ¬ Value.type "list" = Value.type "module" by decide))), b4, b5, b6⟩
      · obtain ⟨o', es, en, e, d, _⟩ := gn
        rw [← q, b3] at e
        cases e
        rw [b6] at d; cases d
      · rw [← q, b3] at ep
        cases ep
        cases b4
    · obtain ⟨o', es, en, e, d, _⟩ := gn
      rw [z, ep] at e
      cases e
      cases d
  have hok : HOk P w H s.heap := fun b u q => by
    rcases hc b u q with ⟨hb, rfl⟩ | ⟨rfl, n, rfl⟩
    · exact tAt hb
    · exact ⟨la, by rw [List.length_map]; exact ll, vs, _, rv, la⟩
  have S : SqL K H a (ns.map V.int) := by
    cases hk : K.lookup a with
    | none => exact .inl (.inr ⟨_, hA hk⟩)
    | some o =>
      have e := kin a o hk
      rw [la] at e
      cases e
      exact .inr ⟨_, vs.toArray, _, hk, rfl, rfl, rfl, by rw [List.size_toArray, lv]; exact ll, by simpa using rv⟩
  have e0 : Env0 P w K mg (hidT s.heap H) callerA [] s H := ⟨rfl, hM, fun b o e => of_hidT e, Nat.le_of_eq (hidT_size _ _), trivial, (fun b hb => by cases hb), hok, .of_eq g0⟩
  have run := (F _ kB (nsB gn) hTB).run callerA [] s H ⟨[.ref a], []⟩ [.ref a] [.ref a] _ _ rfl rm e0 (bd s (.ref a)) (.cons rfl .nil) (hsp H (fun p hp => hT p.2 (List.mem_map.mpr ⟨p, hp, rfl⟩)) S)
  refine codeAny_mono run fun r z h => ?_
  match r, h with
  | .error e, h => exact (show False from h).elim
  | .ok .next, h => exact (show False from h).elim
  | .ok .brk, h => exact (show False from h).elim
  | .ok .cont, h => exact (show False from h).elim
  | .ok (.ret u), h =>
    obtain ⟨v, H', os, bare, un, hok', r', q⟩ := h
    cases (show v = .bl true from q)
    cases (show u = Value.bool true from r')
    have same : ∀ b o, b ∉ cs.map (·.2) → s.heap.get? b = some o → z.heap.get? b = some o := fun b o hb e => by
      cases q : H b with
      | none => exact un.keep b o e q (fun y => by cases y) (fun y => by cases y)
      | some u =>
        rcases hc b u q with ⟨y, _⟩ | ⟨rfl, _, rfl⟩
        · exact absurd y hb
        · obtain ⟨f1, _⟩ := hok b _ q
          obtain ⟨f2, _⟩ := hok' b _ (un.frzs b _ _ q)
          rw [e] at f1
          cases f1
          exact f2
    have more : ∀ p ∈ cs, ∃ m : Array Value, z.heap.get? p.2 = some { cls := .none, data := .fields m } := fun p hp => by
      obtain ⟨m, y⟩ := un.tbls p.2 #[] (hT p.2 (List.mem_map.mpr ⟨p, hp, rfl⟩))
      exact ⟨_, hok' p.2 _ y⟩
    refine ⟨rfl, ⟨fun b o e => ?_, fun b o e => ?_⟩, os, bare⟩
    · by_cases hb : b ∈ cs.map (·.2)
      · obtain ⟨p, hp, rfl⟩ := List.mem_map.mp hb
        obtain ⟨m, y⟩ := more p hp
        rw [tE p hp] at e
        cases e
        exact .inr (.inl ⟨((tC p hp).tab (tE p hp)).isCodeTable, rfl, #[], m, rfl, by simpa using y⟩)
      · exact .inl (same b o hb e)
    · by_cases hb : b ∈ cs.map (·.2)
      · obtain ⟨p, hp, rfl⟩ := List.mem_map.mp hb
        obtain ⟨m, y⟩ := more p hp
        exact ⟨_, y⟩
      · exact ⟨o, same b o hb e⟩
/-- a law's end: what F gives at the head's heap -/
theorem walk_free {l : PySem.W.OpenLaw} {n k : Nat} {q : Program} {loose : List Str} {XP : (Str → Option Value) → Heap → Prop} {YP : World → Heap → Prop} {d : DefRec} {x : Str}
    (hn : l.most = some n) (hn2 : n ≤ sizeLine) (hdf : d.params.defaults = []) (rm : Room k callerA)
    (F : ∀ (w : World) (mg : Str → Option Value) (fa : Addr) (h : Heap), YP w h → h.Ns mainGlobals mg → mg d.name = some (.ref fa) → ∃ (K : PySem.W.Frag) (fd : FuncData) (cs : List (Addr × Addr)) (sp : Sp),
      K.In h ∧ (∀ p ∈ cs, h.get? p.2 = some emptyO) ∧ (∀ p ∈ cs, K.lookup p.2 = none) ∧ (∀ p ∈ cs, PySem.W.CodeHd h p.1 p.2) ∧ (∀ (s : Shared) (u : Value), BindsTo s fd ⟨[u], []⟩ [(x, u)]) ∧
      (∀ (H : Hp) (a : Addr) (ns : List Int), ns.length ≤ n → (∀ p ∈ cs, H p.2 = some (.tbl #[])) → SqL K H a (ns.map V.int) → sp [.ref a] H (fun v _ => v = .bl true) fun _ _ _ => False) ∧
      ∀ base : Heap, K.In base → base.Ns mainGlobals mg → (∀ p ∈ cs, TabB base mg p.1 p.2) → FnG l.prog w K mg base CX0 k fa fd [x] sp) :
    PySem.W.WalkO q loose XP YP l.row.toRowW d [] (fun f vs => PySem.call f vs) := by
  refine Att.attach_callB hn hdf ?_
  intro w s0 s mg mb fa o pm cd doc a vs ns G Y ho hd hcd hmg hobj hints hlen hbits hg
  obtain ⟨K, fd, cs, sp, kin, tE, tN, tC, bd, hsp, hF⟩ := F w mg fa _ Y G.T.g hmg
  exact call_free kin G.T.g G.T.b G.T.builtins G.T.nolimit hg tE tN tC G.T.bmain hobj hints (Nat.le_trans hlen hn2) rm hF bd fun H h1 h2 => hsp H a ns hlen h1 h2
end K57
set_option Elab.async false
set_option linter.all false
set_option maxRecDepth 100000
set_option maxHeartbeats 4000000
/-! From what the head tells to what the walks ask. Printed by mkfacts.py. -/
namespace K57
open PySem PySem.Spec PyProof.Rows L2 LamX
abbrev dD (x : Str) (st : Stmt) : He.DefD := ⟨(x, none), x, x, defArgs st, defBody st, defScope st, [], []⟩
abbrev dM (m x : Str) (st : Stmt) : He.DefD := ⟨("LiveWord", some m), m, x, defArgs st, defBody st, defScope st, [], []⟩
section
variable {P : Program} {w : World} {K : PySem.W.Frag} {h base : Heap} {mg : Str → Option Value}
theorem fd_fix {x qual : Str} {ar : Arguments} {bd : List Stmt} {sc : Scope} {dv : List V} {kw : List (Str × V)} {f : Addr} (D : ∃ fd, FunD K x qual ar bd sc dv kw f fd) : FunD K x qual ar bd sc dv kw f (fdOf K f) := by
  obtain ⟨fd, F⟩ := D
  obtain ⟨oc, od, dV, kV, doc, pm, an, cdv, ct, osl, e, lk, r⟩ := F.ex
  have : fdOf K f = fd := by unfold fdOf; rw [lk]
  rw [this]
  exact F
theorem fx_of (X : K.In h) (G : h.Ns mainGlobals mg) {x : Str} {st : Stmt} {ps : List Str} (D : ∃ fd, FunD K x x (defArgs st) (defBody st) (defScope st) [] [] (He.ga K x) fd) (g : (He.Fa.glo x).ok K = true)
    (b : ∀ (kV doc pm : Value) (an : Option Addr) (cdv ct : Value) (us : List Value), us.length = ps.length → bindArgs (PySem.W.fnOf x x (defArgs st) (defBody st) (defScope st) .none kV doc pm an cdv ct) ⟨us, []⟩ = pure (ps.zip us)) : Fx K mg x st ps :=
  ⟨fd_fix D, (fd_fix D).bindsN b, He.glo_ok X G g⟩
theorem mx_of (X : K.In h) {x q : Str} {st : Stmt} {ps : List Str} (D : ∃ fd, FunD K x q (defArgs st) (defBody st) (defScope st) [] [] (mLW K x) fd) (m : Meth K (He.ga K "LiveWord") x (mLW K x))
    (b : ∀ (kV doc pm : Value) (an : Option Addr) (cdv ct : Value) (us : List Value), us.length = ps.length → bindArgs (PySem.W.fnOf x q (defArgs st) (defBody st) (defScope st) .none kV doc pm an cdv ct) ⟨us, []⟩ = pure (ps.zip us)) : Mx K x q st ps :=
  ⟨fd_fix D, (fd_fix D).bindsN b, m⟩
theorem txt_of (X : K.In h) (G : h.Ns mainGlobals mg) (c : He.SaysD faL fnL K) (hx : He.tupB K "ALONE" [.str "drop", .str "shed", .str "about"] = true ∧ He.tupB K "LETTERED" [.str "push", .str "pull"] = true ∧ True) : Txt K mg where
  f_is_number := fx_of X G (c.def_ 0 (d := dD "is_number" s_is_number) rfl) (c.fact 0 (f := .glo "is_number") rfl) (fun _ _ _ _ _ _ us hl => match us, hl with | [_], _ => rfl)
  f_is_between := fx_of X G (c.def_ 1 (d := dD "is_between" s_is_between) rfl) (c.fact 1 (f := .glo "is_between") rfl) (fun _ _ _ _ _ _ us hl => match us, hl with | [_, _, _], _ => rfl)
  f_need_e := fx_of X G (c.def_ 2 (d := dD "need_e" s_need_e) rfl) (c.fact 2 (f := .glo "need_e") rfl) (fun _ _ _ _ _ _ us hl => match us, hl with | [_], _ => rfl)
  f_need_few := fx_of X G (c.def_ 3 (d := dD "need_few" s_need_few) rfl) (c.fact 3 (f := .glo "need_few") rfl) (fun _ _ _ _ _ _ us hl => match us, hl with | [_, _], _ => rfl)
  f_is_long_word := fx_of X G (c.def_ 4 (d := dD "is_long_word" s_is_long_word) rfl) (c.fact 4 (f := .glo "is_long_word") rfl) (fun _ _ _ _ _ _ us hl => match us, hl with | [_], _ => rfl)
  f_need_long_word := fx_of X G (c.def_ 5 (d := dD "need_long_word" s_need_long_word) rfl) (c.fact 5 (f := .glo "need_long_word") rfl) (fun _ _ _ _ _ _ us hl => match us, hl with | [_], _ => rfl)
  f_lengths_of := fx_of X G (c.def_ 6 (d := dD "lengths_of" s_lengths_of) rfl) (c.fact 6 (f := .glo "lengths_of") rfl) (fun _ _ _ _ _ _ us hl => match us, hl with | [_], _ => rfl)
  f_letter_pushed := fx_of X G (c.def_ 7 (d := dD "letter_pushed" s_letter_pushed) rfl) (c.fact 7 (f := .glo "letter_pushed") rfl) (fun _ _ _ _ _ _ us hl => match us, hl with | [_, _], _ => rfl)
  f_pushed_of := fx_of X G (c.def_ 8 (d := dD "pushed_of" s_pushed_of) rfl) (c.fact 8 (f := .glo "pushed_of") rfl) (fun _ _ _ _ _ _ us hl => match us, hl with | [_], _ => rfl)
  f_elementary_of := fx_of X G (c.def_ 9 (d := dD "elementary_of" s_elementary_of) rfl) (c.fact 9 (f := .glo "elementary_of") rfl) (fun _ _ _ _ _ _ us hl => match us, hl with | [_, _], _ => rfl)
  f_elementary := fx_of X G (c.def_ 10 (d := dD "elementary" s_elementary) rfl) (c.fact 10 (f := .glo "elementary") rfl) (fun _ _ _ _ _ _ us hl => match us, hl with | [_, _], _ => rfl)
  f_is_name := fx_of X G (c.def_ 11 (d := dD "is_name" s_is_name) rfl) (c.fact 11 (f := .glo "is_name") rfl) (fun _ _ _ _ _ _ us hl => match us, hl with | [_], _ => rfl)
  f_need_name := fx_of X G (c.def_ 12 (d := dD "need_name" s_need_name) rfl) (c.fact 12 (f := .glo "need_name") rfl) (fun _ _ _ _ _ _ us hl => match us, hl with | [_], _ => rfl)
  f_is_deed := fx_of X G (c.def_ 13 (d := dD "is_deed" s_is_deed) rfl) (c.fact 13 (f := .glo "is_deed") rfl) (fun _ _ _ _ _ _ us hl => match us, hl with | [_], _ => rfl)
  f_word_about := fx_of X G (c.def_ 14 (d := dD "word_about" s_word_about) rfl) (c.fact 14 (f := .glo "word_about") rfl) (fun _ _ _ _ _ _ us hl => match us, hl with | [_], _ => rfl)
  f_after_deed := fx_of X G (c.def_ 15 (d := dD "after_deed" s_after_deed) rfl) (c.fact 15 (f := .glo "after_deed") rfl) (fun _ _ _ _ _ _ us hl => match us, hl with | [_, _], _ => rfl)
  f_LW_init := mx_of X (c.def_ 16 (d := dM "__init__" "LiveWord.__init__" s_LW_init) rfl) (He.meth_ok (c.fact 16 (f := .meth "LiveWord" "__init__") rfl)) (fun _ _ _ _ _ _ us hl => match us, hl with | [_, _, _], _ => rfl)
  f_LW_settle := mx_of X (c.def_ 17 (d := dM "settle" "LiveWord.settle" s_LW_settle) rfl) (He.meth_ok (c.fact 17 (f := .meth "LiveWord" "settle") rfl)) (fun _ _ _ _ _ _ us hl => match us, hl with | [_], _ => rfl)
  f_LW_do := mx_of X (c.def_ 18 (d := dM "do" "LiveWord.do" s_LW_do) rfl) (He.meth_ok (c.fact 18 (f := .meth "LiveWord" "do") rfl)) (fun _ _ _ _ _ _ us hl => match us, hl with | [_, _], _ => rfl)
  f_LW_go_on := mx_of X (c.def_ 19 (d := dM "go_on" "LiveWord.go_on" s_LW_go_on) rfl) (He.meth_ok (c.fact 19 (f := .meth "LiveWord" "go_on") rfl)) (fun _ _ _ _ _ _ us hl => match us, hl with | [_, _], _ => rfl)
  f_LW_deeds := mx_of X (c.def_ 20 (d := dM "deeds" "LiveWord.deeds" s_LW_deeds) rfl) (He.meth_ok (c.fact 20 (f := .meth "LiveWord" "deeds") rfl)) (fun _ _ _ _ _ _ us hl => match us, hl with | [_], _ => rfl)
  f_LW_undo := mx_of X (c.def_ 21 (d := dM "undo" "LiveWord.undo" s_LW_undo) rfl) (He.meth_ok (c.fact 21 (f := .meth "LiveWord" "undo") rfl)) (fun _ _ _ _ _ _ us hl => match us, hl with | [_], _ => rfl)
  f_LW_redo := mx_of X (c.def_ 22 (d := dM "redo" "LiveWord.redo" s_LW_redo) rfl) (He.meth_ok (c.fact 22 (f := .meth "LiveWord" "redo") rfl)) (fun _ _ _ _ _ _ us hl => match us, hl with | [_], _ => rfl)
  f_LW_watch := mx_of X (c.def_ 23 (d := dM "watch" "LiveWord.watch" s_LW_watch) rfl) (He.meth_ok (c.fact 23 (f := .meth "LiveWord" "watch") rfl)) (fun _ _ _ _ _ _ us hl => match us, hl with | [_, _, _], _ => rfl)
  f_LW_unwatch := mx_of X (c.def_ 24 (d := dM "unwatch" "LiveWord.unwatch" s_LW_unwatch) rfl) (He.meth_ok (c.fact 24 (f := .meth "LiveWord" "unwatch") rfl)) (fun _ _ _ _ _ _ us hl => match us, hl with | [_, _], _ => rfl)
  f_LW_watched := mx_of X (c.def_ 25 (d := dM "watched" "LiveWord.watched" s_LW_watched) rfl) (He.meth_ok (c.fact 25 (f := .meth "LiveWord" "watched") rfl)) (fun _ _ _ _ _ _ us hl => match us, hl with | [_], _ => rfl)
  f_need_many := fx_of X G (c.def_ 26 (d := dD "need_many" s_need_many) rfl) (c.fact 26 (f := .glo "need_many") rfl) (fun _ _ _ _ _ _ us hl => match us, hl with | [_, _], _ => rfl)
  f_arcs_of := fx_of X G (c.def_ 27 (d := dD "arcs_of" s_arcs_of) rfl) (c.fact 27 (f := .glo "arcs_of") rfl) (fun _ _ _ _ _ _ us hl => match us, hl with | [_, _], _ => rfl)
  f_least_costs := fx_of X G (c.def_ 28 (d := dD "least_costs" s_least_costs) rfl) (c.fact 28 (f := .glo "least_costs") rfl) (fun _ _ _ _ _ _ us hl => match us, hl with | [_, _, _], _ => rfl)
  f_best_flow := fx_of X G (c.def_ 29 (d := dD "best_flow" s_best_flow) rfl) (c.fact 29 (f := .glo "best_flow") rfl) (fun _ _ _ _ _ _ us hl => match us, hl with | [_, _, _], _ => rfl)
  f_lot_of := fx_of X G (c.def_ 30 (d := dD "lot_of" s_lot_of) rfl) (c.fact 30 (f := .glo "lot_of") rfl) (fun _ _ _ _ _ _ us hl => match us, hl with | [_, _, _], _ => rfl)
  f_rising_lot := fx_of X G (c.def_ 31 (d := dD "rising_lot" s_rising_lot) rfl) (c.fact 31 (f := .glo "rising_lot") rfl) (fun _ _ _ _ _ _ us hl => match us, hl with | [_, _], _ => rfl)
  f_l_begun := fx_of X G (c.def_ 32 (d := dD "_law_begun" s_l_begun) rfl) (c.fact 32 (f := .glo "_law_begun") rfl) (fun _ _ _ _ _ _ us hl => match us, hl with | [_], _ => rfl)
  f_l_mixed := fx_of X G (c.def_ 33 (d := dD "_law_mixed" s_l_mixed) rfl) (c.fact 33 (f := .glo "_law_mixed") rfl) (fun _ _ _ _ _ _ us hl => match us, hl with | [_], _ => rfl)
  f_l_take := fx_of X G (c.def_ 34 (d := dD "_law_take" s_l_take) rfl) (c.fact 34 (f := .glo "_law_take") rfl) (fun _ _ _ _ _ _ us hl => match us, hl with | [_, _], _ => rfl)
  f_l_pick := fx_of X G (c.def_ 35 (d := dD "_law_pick" s_l_pick) rfl) (c.fact 35 (f := .glo "_law_pick") rfl) (fun _ _ _ _ _ _ us hl => match us, hl with | [_, _], _ => rfl)
  f_l_caught := fx_of X G (c.def_ 36 (d := dD "_law_caught" s_l_caught) rfl) (c.fact 36 (f := .glo "_law_caught") rfl) (fun _ _ _ _ _ _ us hl => match us, hl with | [_], _ => rfl)
  f_l_long_word := fx_of X G (c.def_ 37 (d := dD "_law_long_word" s_l_long_word) rfl) (c.fact 37 (f := .glo "_law_long_word") rfl) (fun _ _ _ _ _ _ us hl => match us, hl with | [_, _], _ => rfl)
  f_l_letter_on := fx_of X G (c.def_ 38 (d := dD "_law_letter_on" s_l_letter_on) rfl) (c.fact 38 (f := .glo "_law_letter_on") rfl) (fun _ _ _ _ _ _ us hl => match us, hl with | [_, _], _ => rfl)
  f_l_tuples := fx_of X G (c.def_ 39 (d := dD "_law_tuples" s_l_tuples) rfl) (c.fact 39 (f := .glo "_law_tuples") rfl) (fun _ _ _ _ _ _ us hl => match us, hl with | [_], _ => rfl)
  f_l_push := fx_of X G (c.def_ 40 (d := dD "_law_push" s_l_push) rfl) (c.fact 40 (f := .glo "_law_push") rfl) (fun _ _ _ _ _ _ us hl => match us, hl with | [_], _ => rfl)
  f_l_lengths := fx_of X G (c.def_ 41 (d := dD "_law_lengths" s_l_lengths) rfl) (c.fact 41 (f := .glo "_law_lengths") rfl) (fun _ _ _ _ _ _ us hl => match us, hl with | [_], _ => rfl)
  f_l_about := fx_of X G (c.def_ 42 (d := dD "_law_about" s_l_about) rfl) (c.fact 42 (f := .glo "_law_about") rfl) (fun _ _ _ _ _ _ us hl => match us, hl with | [_], _ => rfl)
  f_l_elementary := fx_of X G (c.def_ 43 (d := dD "_law_elementary" s_l_elementary) rfl) (c.fact 43 (f := .glo "_law_elementary") rfl) (fun _ _ _ _ _ _ us hl => match us, hl with | [_, _], _ => rfl)
  f_l_name := fx_of X G (c.def_ 44 (d := dD "_law_name" s_l_name) rfl) (c.fact 44 (f := .glo "_law_name") rfl) (fun _ _ _ _ _ _ us hl => match us, hl with | [_], _ => rfl)
  f_l_same_dict := fx_of X G (c.def_ 45 (d := dD "_law_same_dict" s_l_same_dict) rfl) (c.fact 45 (f := .glo "_law_same_dict") rfl) (fun _ _ _ _ _ _ us hl => match us, hl with | [_, _], _ => rfl)
  f_l_deed := fx_of X G (c.def_ 46 (d := dD "_law_deed" s_l_deed) rfl) (c.fact 46 (f := .glo "_law_deed") rfl) (fun _ _ _ _ _ _ us hl => match us, hl with | [_, _], _ => rfl)
  f_l_word_on := fx_of X G (c.def_ 47 (d := dD "_law_word_on" s_l_word_on) rfl) (c.fact 47 (f := .glo "_law_word_on") rfl) (fun _ _ _ _ _ _ us hl => match us, hl with | [_, _], _ => rfl)
  f_l_doable := fx_of X G (c.def_ 48 (d := dD "_law_doable" s_l_doable) rfl) (c.fact 48 (f := .glo "_law_doable") rfl) (fun _ _ _ _ _ _ us hl => match us, hl with | [_, _], _ => rfl)
  f_l_most := fx_of X G (c.def_ 49 (d := dD "_law_most" s_l_most) rfl) (c.fact 49 (f := .glo "_law_most") rfl) (fun _ _ _ _ _ _ us hl => match us, hl with | [_, _], _ => rfl)
  f_l_looked := fx_of X G (c.def_ 50 (d := dD "_law_looked" s_l_looked) rfl) (c.fact 50 (f := .glo "_law_looked") rfl) (fun _ _ _ _ _ _ us hl => match us, hl with | [_, _, _], _ => rfl)
  f_l_changes_right := fx_of X G (c.def_ 51 (d := dD "_law_changes_right" s_l_changes_right) rfl) (c.fact 51 (f := .glo "_law_changes_right") rfl) (fun _ _ _ _ _ _ us hl => match us, hl with | [_, _, _, _, _], _ => rfl)
  f_l_is_let_go := fx_of X G (c.def_ 52 (d := dD "_law_is_let_go" s_l_is_let_go) rfl) (c.fact 52 (f := .glo "_law_is_let_go") rfl) (fun _ _ _ _ _ _ us hl => match us, hl with | [_, _], _ => rfl)
  f_l_watch := fx_of X G (c.def_ 53 (d := dD "_law_watch" s_l_watch) rfl) (c.fact 53 (f := .glo "_law_watch") rfl) (fun _ _ _ _ _ _ us hl => match us, hl with | [_, _, _], _ => rfl)
  f_l_refused := fx_of X G (c.def_ 54 (d := dD "_law_refused" s_l_refused) rfl) (c.fact 54 (f := .glo "_law_refused") rfl) (fun _ _ _ _ _ _ us hl => match us, hl with | [_], _ => rfl)
  f_law := fx_of X G (c.def_ 55 (d := dD "law" s_law) rfl) (c.fact 55 (f := .glo "law") rfl) (fun _ _ _ _ _ _ us hl => match us, hl with | [_], _ => rfl)
  b_isinstance := He.free_ok X G (c.fact 63 (f := .free "isinstance") rfl)
  b_int := He.free_ok X G (c.fact 64 (f := .free "int") rfl)
  b_bool := He.free_ok X G (c.fact 65 (f := .free "bool") rfl)
  b_str := He.free_ok X G (c.fact 66 (f := .free "str") rfl)
  b_tuple := He.free_ok X G (c.fact 67 (f := .free "tuple") rfl)
  b_len := He.free_ok X G (c.fact 68 (f := .free "len") rfl)
  b_all := He.free_ok X G (c.fact 69 (f := .free "all") rfl)
  b_list := He.free_ok X G (c.fact 70 (f := .free "list") rfl)
  b_range := He.free_ok X G (c.fact 71 (f := .free "range") rfl)
  b_enumerate := He.free_ok X G (c.fact 72 (f := .free "enumerate") rfl)
  b_min := He.free_ok X G (c.fact 73 (f := .free "min") rfl)
  b_max := He.free_ok X G (c.fact 74 (f := .free "max") rfl)
  b_dict := He.free_ok X G (c.fact 75 (f := .free "dict") rfl)
  b_sorted := He.free_ok X G (c.fact 76 (f := .free "sorted") rfl)
  b_sum := He.free_ok X G (c.fact 77 (f := .free "sum") rfl)
  b_abs := He.free_ok X G (c.fact 78 (f := .free "abs") rfl)
  b_repr := He.free_ok X G (c.fact 79 (f := .free "repr") rfl)
  c_MOST_E := He.int_ok X G (c.fact 81 (f := .int "MOST_E" 20) rfl)
  c_MOST_BOXES := He.int_ok X G (c.fact 82 (f := .int "MOST_BOXES" 16) rfl)
  c_MOST_LETTER := He.int_ok X G (c.fact 83 (f := .int "MOST_LETTER" 16) rfl)
  c_FAR := He.int_ok X G (c.fact 84 (f := .int "FAR" 1000000) rfl)
  c_SIGNS := He.str_ok X G (c.fact 85 (f := .str "SIGNS" "abcdefghijklmnopqrstuvwxyz") rfl)
  c_ALONE := ⟨He.glo_ok X G (c.fact 61 (f := .glo "ALONE") rfl), fun H => He.tupB_ok hx.1 H⟩
  c_LETTERED := ⟨He.glo_ok X G (c.fact 62 (f := .glo "LETTERED") rfl), fun H => He.tupB_ok hx.2.1 H⟩
  cl_LW := He.cls_ok (c.fact 86 (f := .cls "LiveWord") rfl)
  mk_LW := He.mkr_ok (c.fact 87 (f := .mkr "LiveWord") rfl)
  g_LW := He.glo_ok X G (c.fact 60 (f := .glo "LiveWord") rfl)
  na_e := He.noat_ok (c.fact 88 (f := .noat "LiveWord" "e") rfl)
  na_begun := He.noat_ok (c.fact 89 (f := .noat "LiveWord" "begun") rfl)
  na_word := He.noat_ok (c.fact 90 (f := .noat "LiveWord" "word") rfl)
  na_lines := He.noat_ok (c.fact 91 (f := .noat "LiveWord" "lines") rfl)
  na_filling := He.noat_ok (c.fact 92 (f := .noat "LiveWord" "filling") rfl)
  na_standing := He.noat_ok (c.fact 93 (f := .noat "LiveWord" "standing") rfl)
  na_states := He.noat_ok (c.fact 94 (f := .noat "LiveWord" "states") rfl)
  na_done := He.noat_ok (c.fact 95 (f := .noat "LiveWord" "done") rfl)
  na_later := He.noat_ok (c.fact 96 (f := .noat "LiveWord" "later") rfl)
end
theorem body_part : defBody dNum.st = [Stmt.Expr (.Call (.Attribute (.Call (.Name "super" ⟨7, 8, 7, 13⟩) [] [] ⟨7, 8, 7, 15⟩) "__init__" ⟨7, 8, 7, 24⟩) [.Constant (.str "a number is wrong") 0 ⟨7, 25, 7, 44⟩] [] ⟨7, 8, 7, 45⟩) ⟨7, 8, 7, 45⟩, .Assign [.Attribute (.Name "self" ⟨8, 8, 8, 12⟩) "part" ⟨8, 8, 8, 17⟩] (.Name "part" ⟨8, 20, 8, 24⟩) ⟨8, 8, 8, 24⟩] := rfl
theorem nes_part : NeS (defScope dNum.st) "part" := ⟨rfl, rfl, rfl, by decide +kernel, by decide +kernel, by decide, by decide +kernel, by decide +kernel, by decide +kernel, by decide +kernel⟩
theorem ow_part {P : Program} {w : World} {K : PySem.W.Frag} {mg : Str → Option Value} {base : Heap} (h : (∃ cc cda fd, NeTxt P K mg (He.ga K dNum.x) (He.ma K (He.ga K dNum.x) "__init__") cc cda fd dNum.qual dNum.st dNum.f ∧ fd.defaults = .none) ∧ L2.ExcC K (He.ga K dNum.x) ∧ XfC K (He.ga K dNum.x))
    (g : mg "BadNumber" = some (.ref (He.ga K "BadNumber"))) (e : PySem.W.exmOne K (.ref (He.ga K "BadNumber")) (.ref (He.ga K "BoxError")) = some true) : Ow P w K mg base "BadNumber" "part" ["self", "part"] := by
  obtain ⟨⟨cc, cda, fd, N, hd⟩, xc, xf⟩ := h
  refine ⟨N.T, g, ⟨_, fd, N.iC, N.tI, ok_ne N nes_part ⟨_, rfl, rfl⟩ (pl := do return (← (pure (some false) : Sem (Option Bool))).getD true) (fun env => rfl) body_part (by decide) (by decide) (fun _ => rfl), ?_⟩, xc, xf, N.noN, e⟩
  obtain ⟨oc, od, dV, kV, doc, pm, an, ct, osl, rfl, _⟩ := N.fn
  cases (show dV = .none from hd)
  exact .all fun us hl => match us, hl with | [_, _], _ => rfl
theorem body_name : defBody dNow.st = [Stmt.Expr (.Call (.Attribute (.Call (.Name "super" ⟨25, 8, 25, 13⟩) [] [] ⟨25, 8, 25, 15⟩) "__init__" ⟨25, 8, 25, 24⟩) [.Constant (.str "nothing is watched under a name") 0 ⟨25, 25, 25, 58⟩] [] ⟨25, 8, 25, 59⟩) ⟨25, 8, 25, 59⟩, .Assign [.Attribute (.Name "self" ⟨26, 8, 26, 12⟩) "name" ⟨26, 8, 26, 17⟩] (.Name "name" ⟨26, 20, 26, 24⟩) ⟨26, 8, 26, 24⟩] := rfl
theorem nes_name : NeS (defScope dNow.st) "name" := ⟨rfl, rfl, rfl, by decide +kernel, by decide +kernel, by decide, by decide +kernel, by decide +kernel, by decide +kernel, by decide +kernel⟩
theorem ow_name {P : Program} {w : World} {K : PySem.W.Frag} {mg : Str → Option Value} {base : Heap} (h : (∃ cc cda fd, NeTxt P K mg (He.ga K dNow.x) (He.ma K (He.ga K dNow.x) "__init__") cc cda fd dNow.qual dNow.st dNow.f ∧ fd.defaults = .none) ∧ L2.ExcC K (He.ga K dNow.x) ∧ XfC K (He.ga K dNow.x))
    (g : mg "NoWatch" = some (.ref (He.ga K "NoWatch"))) (e : PySem.W.exmOne K (.ref (He.ga K "NoWatch")) (.ref (He.ga K "BoxError")) = some true) : Ow P w K mg base "NoWatch" "name" ["self", "name"] := by
  obtain ⟨⟨cc, cda, fd, N, hd⟩, xc, xf⟩ := h
  refine ⟨N.T, g, ⟨_, fd, N.iC, N.tI, ok_ne N nes_name ⟨_, rfl, rfl⟩ (pl := do return (← (pure (some false) : Sem (Option Bool))).getD true) (fun env => rfl) body_name (by decide) (by decide) (fun _ => rfl), ?_⟩, xc, xf, N.noN, e⟩
  obtain ⟨oc, od, dV, kV, doc, pm, an, ct, osl, rfl, _⟩ := N.fn
  cases (show dV = .none from hd)
  exact .all fun us hl => match us, hl with | [_, _], _ => rfl
section
variable {w : World} {K : PySem.W.Frag} {h base : Heap} {mg : Str → Option Value}
theorem xtxt_of (X : K.In h) (G : h.Ns mainGlobals mg) (cd : He.SaysD faL fnL K) (hb : askB K (He.ga K "BadName") = true) (n1 : neB K Rw.prog.main.file dNum = true) (n2 : neB K Rw.prog.main.file dNow = true)
    (y1 : fnY K (dNum.x, some "__init__") = dNum.val) (y2 : fnY K (dNow.x, some "__init__") = dNow.val) : XTxt Rw.prog w K mg base where
  bn := (He.exc_ok (cd.fact 97 (f := .exc "BadName") rfl)).1
  g_bn := He.glo_ok X G (cd.fact 57 (f := .glo "BadName") rfl)
  k_bn := (He.exc_ok (cd.fact 97 (f := .exc "BadName") rfl)).2.1
  s_bn := (He.exc_ok (cd.fact 97 (f := .exc "BadName") rfl)).2.2.1
  t_bn := (He.exc_ok (cd.fact 97 (f := .exc "BadName") rfl)).2.2.2
  x_bn := (askB_ok hb).1
  e_bn := He.exm_ok (cd.fact 98 (f := .exm "BadName" "BoxError" true) rfl)
  g_be := He.glo_ok X G (cd.fact 56 (f := .glo "BoxError") rfl)
  num := ow_part (ne_of y1 n1 (He.free_ok X G (cd.fact 80 (f := .free "super") rfl)) (by decide +kernel)) (He.glo_ok X G (cd.fact 58 (f := .glo "BadNumber") rfl)) (He.exm_ok (cd.fact 99 (f := .exm "BadNumber" "BoxError" true) rfl))
  now := ow_name (ne_of y2 n2 (He.free_ok X G (cd.fact 80 (f := .free "super") rfl)) (by decide +kernel)) (He.glo_ok X G (cd.fact 59 (f := .glo "NoWatch") rfl)) (He.exm_ok (cd.fact 100 (f := .exm "NoWatch" "BoxError" true) rfl))
theorem ltxt_of {x : Str} {st : Stmt} {ps : List Str} (fx : Fx K mg x st ps) (tabs : List (Addr × Str)) (hd : PySem.W.CodeHd base (He.cT K (x, none)).1 (He.cT K (x, none)).2 → TabB base mg (He.cT K (x, none)).1 (He.cT K (x, none)).2)
    (tb : TabB base mg (He.cT K (x, none)).1 (He.cT K (x, none)).2) (hm : ((He.cT K (x, none)).2, (x ++ ".<locals>.") ++ "<lambda>") ∈ tabs) (hu : ∀ p ∈ tabs, p.1 = (He.cT K (x, none)).2 → p.2 = (x ++ ".<locals>.") ++ "<lambda>") : LTxt K mg base tabs x := by
  refine ⟨_, _, ?_, tb, hm, hu⟩
  obtain ⟨oc, od, dV, kV, doc, pm, an, cdv, ct, osl, e, lk, hc, _⟩ := fx.F.ex
  obtain ⟨c, rfl⟩ := He.codeIn_ref hc
  have e2 : (fdOf K (He.ga K x)).code = .ref c := by rw [e]
  rw [e2]
  exact congrArg Value.ref (He.codeOf_eq (p := (x, none)) lk e2).symm
def csL (K : PySem.W.Frag) : List (Addr × Addr) := [He.cT K ("_law_is_let_go", none), He.cT K ("_law_refused", none)]
def tbL (K : PySem.W.Frag) : List (Addr × Str) := [((He.cT K ("_law_is_let_go", none)).2, (("_law_is_let_go" : Str) ++ ".<locals>.") ++ "<lambda>"), ((He.cT K ("_law_refused", none)).2, (("_law_refused" : Str) ++ ".<locals>.") ++ "<lambda>")]
theorem tabs_of {H : Hp} (t : ∀ p ∈ csL K, H p.2 = some (.tbl #[])) : Tabs (tbL K) H := fun p hp => by
  have z : H p.1 = some (.tbl #[]) := by
    simp only [tbL, List.mem_cons, List.not_mem_nil, or_false] at hp
    rcases hp with rfl | rfl
    · exact t _ (by simp [csL])
    · exact t _ (by simp [csL])
  exact ⟨#[], z, trivial, fun pos cv hc => by cases hc⟩
/-- the law's def keeps its promise, over what the head tells -/
theorem law_of (X : K.In h) (G : h.Ns mainGlobals mg) (c : SaysY faL fnL tfL neL exL w h K) (hB : K.In base) (gB : base.Ns mainGlobals mg) (tB : ∀ p ∈ csL K, TabB base mg p.1 p.2) :
    FnG Rw.prog w K mg base CX0 11 (He.ga K "law") (fdOf K (He.ga K "law")) ["_law_script"] (spLaw K (tbL K)) := by
  have cd := c.x.t.d
  have m := c.x.more
  unfold exL at m
  simp only [Bool.and_eq_true, Bool.not_eq_true'] at m
  obtain ⟨m1, m2, m3, m4, m5, m6⟩ := m
  have ne := Nat.ne_of_beq_eq_false m6
  have T : Txt K mg := txt_of X G cd ⟨m1, m2, trivial⟩
  have XT : XTxt Rw.prog w K mg base := xtxt_of X G cd m5 m3 m4 (c.n dNum (by simp [neL])) (c.n dNow (by simp [neL]))
  have L1 : LTxt K mg base (tbL K) "_law_is_let_go" := ltxt_of T.f_l_is_let_go _ (fun _ => tB _ (by simp [csL])) (tB _ (by simp [csL])) (by simp [tbL]) (fun p hp e => by
    simp only [tbL, List.mem_cons, List.not_mem_nil, or_false] at hp
    rcases hp with rfl | rfl
    · rfl
    · exact absurd e.symm ne)
  have L2 : LTxt K mg base (tbL K) "_law_refused" := ltxt_of T.f_l_refused _ (fun _ => tB _ (by simp [csL])) (tB _ (by simp [csL])) (by simp [tbL]) (fun p hp e => by
    simp only [tbL, List.mem_cons, List.not_mem_nil, or_false] at hp
    rcases hp with rfl | rfl
    · exact absurd e ne
    · rfl)
  exact ok_law T XT L1 L2 (He.glo_ok X G (cd.fact 59 (f := .glo "NoWatch") rfl)) (He.glo_ok X G (cd.fact 58 (f := .glo "BadNumber") rfl))
end
end K57
set_option Elab.async false
set_option linter.all false
set_option maxRecDepth 100000
set_option maxHeartbeats 0
/-! The law holds. -/
namespace K57
open PySem PySem.W PySem.Calls PyProof.Rows
theorem call_law : WalkO qw nmL (XL qw []) hkL.says PySem.Challenge.rw_boxparts_k57_whole_boxes_that_are_watche.row.toRowW (HandSHeadRun.topDef Rw.prog 81) [] fun f vs => PySem.call f vs := by
  refine walk_free (l := PySem.Challenge.rw_boxparts_k57_whole_boxes_that_are_watche) (n := 63) (k := 11) (x := "_law_script") rfl (by decide) (by kernel_rfl) ⟨rfl, by decide, by decide⟩ ?_
  intro w mg fa h Y G hmg0
  obtain ⟨K, X, c⟩ := Y
  have hmg : mg ("law" : PySem.Str) = some (.ref fa) := by
    have e : (HandSHeadRun.topDef Rw.prog 81).name = ("law" : PySem.Str) := by kernel_rfl
    rw [← e]
    exact hmg0
  have T : Txt K mg := by
    have m := c.x.more
    unfold exL at m
    simp only [Bool.and_eq_true] at m
    exact txt_of X G c.x.t.d ⟨m.1, m.2.1, trivial⟩
  cases hmg.symm.trans T.f_law.g
  refine ⟨K, fdOf K (He.ga K "law"), csL K, spLaw K (tbL K), X, fun p hp => ?_, fun p hp => ?_, fun p hp => ?_, fun s u => ?_, fun H a ns hl t hS => ⟨a, ns, rfl, hS, Nat.le_trans hl (by decide), tabs_of t, fun _ => rfl⟩, fun base hB gB tB => law_of X G c hB gB tB⟩
  · simp only [csL, List.mem_cons, List.not_mem_nil, or_false] at hp
    rcases hp with rfl | rfl
    · exact c.x.empty ("_law_is_let_go", none) (by simp [tfL])
    · exact c.x.empty ("_law_refused", none) (by simp [tfL])
  · simp only [csL, List.mem_cons, List.not_mem_nil, or_false] at hp
    rcases hp with rfl | rfl
    · exact c.x.out ("_law_is_let_go", none) (by simp [tfL])
    · exact c.x.out ("_law_refused", none) (by simp [tfL])
  · simp only [csL, List.mem_cons, List.not_mem_nil, or_false] at hp
    rcases hp with rfl | rfl
    · exact PySem.W.codeHd_of_K X (c.x.hd ("_law_is_let_go", none) (by simp [tfL]))
    · exact PySem.W.codeHd_of_K X (c.x.hd ("_law_refused", none) (by simp [tfL]))
  · exact (L2.FunD.bindsA (ps := ["_law_script"]) T.f_law.F fun _ _ _ _ _ _ us hl => match us, hl with | [_], _ => rfl) s [u] rfl
end K57
open PySem PySem.W PySem.Calls PyProof.Rows
theorem PySem.Challenge.cw_boxparts_k57_whole_boxes_that_are_watche_holds : PySem.Challenge.rw_boxparts_k57_whole_boxes_that_are_watche.Holds := by
  w_on; o_law
  refine HandSHeadRun.head_any (r := K57.Rw) (q := K57.qw) (H := K57.hkL) (ob := K57.obL) (M := 6000) (loose := K57.nmL) (d := HandSHeadRun.topDef K57.Rw.prog 81) (kwd := []) K57.obL_eq
    (by kernel_rfl) (fun s => by kernel_rfl) K57.runL (by kernel_rfl) (by kernel_rfl) (by kernel_rfl) (by rfl) (by first | assumption | decide +kernel) (by decide +kernel) ⟨rfl, rfl, rfl, rfl, rfl, by decide +kernel⟩ ?hw K57.call_law
  case hw => w_witness2
