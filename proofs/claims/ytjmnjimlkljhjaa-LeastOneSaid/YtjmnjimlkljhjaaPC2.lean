/- Classes: the program's way comes to the same; the statement LeastClasses. -/
import Derived.Test.YtjmnjimlkljhjaaPC1
set_option linter.unusedVariables false
set_option maxRecDepth 100000
namespace Go.Proofs.YtjmnjimlkljhjaaV
open Go Go.Proofs
attribute [local irreducible] cs nx

section
open Classical
variable (ms : List (List Move)) (ac : List Int)

theorem s1606 (ok : Okd (ms, ac)) (x1 : Int) (next : List Int) (hn : next.length = ms.length) : ∀ k i (C : List Int), i + k = ms.length → C.length = ms.length → (∀ j, j < i → C.getD j 0 = if DeadS (ms, ac) (j : Int) then -1 else next.getD j 0) →
    ∃ C', C'.length = ms.length ∧ (∀ j, j < ms.length → C'.getD j 0 = if DeadS (ms, ac) (j : Int) then -1 else next.getD j 0) ∧
    S 1606 ((deadF (ms, ac), x1, (ms.length : Int), (i : Int), ()), (ms, ac, ()), C, next, ()) ((deadF (ms, ac), x1, ()), (ms, ac, ()), C', ()) := by
  have dl : (deadF (ms, ac)).length = ms.length := deadF_len (ms, ac)
  intro k
  induction k with
  | zero =>
    intro i C hi hl h
    refine ⟨C, hl, fun j hj => h j (by omega), r1606 _ _ _ _ _ _ _ _ ?_⟩
    have h1 : ¬ (i : Int) < (ms.length : Int) := by omega
    simp only [l16_5, wp_ite, h1, decide_false, Bool.false_eq_true, if_false, wp_ret]
    rfl
  | succ k ih =>
    intro i C hi hl h
    have two : ms.length ≤ 2000 := ok.two
    have hlt : i < ms.length := by omega
    have h1 : (i : Int) < (ms.length : Int) := by omega
    have h0 : (0 : Int) ≤ (i : Int) := by omega
    have h2 : (i : Int) < (next.length : Int) := by omega
    have h3 : (i : Int) < (C.length : Int) := by omega
    have h4 : (i : Int) < ((deadF (ms, ac)).length : Int) := by omega
    have h5 : (i : Int) < ((C.set i (next.getD i 0)).length : Int) := by rw [List.length_set]; exact h3
    have hw := wsucc hlt (show ms.length ≤ 1000000 by omega)
    have hg : (deadF (ms, ac)).getD i false = decide (DeadS (ms, ac) (i : Int)) := deadF_at (ms, ac) hlt
    by_cases hd : DeadS (ms, ac) (i : Int)
    · obtain ⟨C', g1, g2, g3⟩ := ih (i + 1) ((C.set i (next.getD i 0)).set i (-1)) (by omega) (by rw [List.length_set, List.length_set]; exact hl) (fun j hj => by
        rw [getSet, getSet]
        by_cases e : i = j
        · subst e; rw [if_pos ⟨rfl, by rw [List.length_set]; omega⟩, if_pos hd]
        · rw [if_neg (fun h => e h.1), if_neg (fun h => e h.1)]; exact h j (by omega))
      refine ⟨C', g1, g2, r1606 _ _ _ _ _ _ _ _ ?_⟩
      simp only [l16_5, wp_ite, wp_chk, wp_ret, Int.toNat_natCast, h1, h0, h2, h3, h4, h5, hg, decide_eq_true hd, decide_true, if_true, true_and, hw]
      exact g3
    · obtain ⟨C', g1, g2, g3⟩ := ih (i + 1) (C.set i (next.getD i 0)) (by omega) (by rw [List.length_set]; exact hl) (fun j hj => by
        rw [getSet]
        by_cases e : i = j
        · subst e; rw [if_pos ⟨rfl, by omega⟩, if_neg hd]
        · rw [if_neg (fun h => e h.1)]; exact h j (by omega))
      refine ⟨C', g1, g2, r1606 _ _ _ _ _ _ _ _ ?_⟩
      simp only [l16_5, wp_ite, wp_chk, wp_ret, Int.toNat_natCast, h1, h0, h2, h3, h4, hg, decide_eq_false hd, decide_true, Bool.false_eq_true, if_false, if_true, true_and, hw]
      exact g3

/-- Lists that agree where states live. -/
theorem KL_agree {C l : List Int} (h : ∀ j, j < ms.length → ¬ DeadS (ms, ac) (j : Int) → C.getD j 0 = l.getD j 0) {s t : Nat} (hs : s < ms.length) (ht : t < ms.length) : KL (ms, ac) C s t ↔ KL (ms, ac) l s t := by
  constructor
  · rintro (k | ⟨k1, k2, k3⟩)
    · exact .inl k
    · exact .inr ⟨k1, k2, by rw [← h s hs k1, ← h t ht k2, k3]⟩
  · rintro (k | ⟨k1, k2, k3⟩)
    · exact .inl k
    · exact .inr ⟨k1, k2, by rw [h s hs k1, h t ht k2, k3]⟩

theorem Coarse.agree {C l : List Int} (h : ∀ j, j < ms.length → ¬ DeadS (ms, ac) (j : Int) → C.getD j 0 = l.getD j 0) (K : Coarse (ms, ac) l) : Coarse (ms, ac) C :=
  ⟨fun s t hs ht hr => (KL_agree ms ac h hs ht).2 (K.sem s t hs ht hr), fun s t hs ht h1 h2 h3 => K.acc s t hs ht h1 h2 (by rw [← h s hs h1, ← h t ht h2, h3])⟩

theorem s1602 (ok : Okd (ms, ac)) (ty : TyD (ms, ac)) : ∀ (f : Nat) (C : List Int) (many : Int), Cls ms ac C → NN (ms, ac) C → Coarse (ms, ac) C → (many = -1 ∨ many = (cnt (KL (ms, ac) C) ms.length : Int)) → (ms.length : Int) - many < f →
    S 1602 ((deadF (ms, ac), many, ()), (ms, ac, ()), C, ()) ((), classF (ms, ac), ()) := by
  intro f
  induction f with
  | zero =>
    intro C many K P Co hm hf
    have := cnt_le (KL (ms, ac) C) ms.length
    have pos : 0 < ms.length := ok.pos
    omega
  | succ f ih =>
    intro C many K P Co hm hf
    have two : ms.length ≤ 2000 := ok.two
    have hCl := K.len
    refine r1602 _ _ _ _ _ ?_
    have h1 : (0 : Int) ≤ (C.length : Int) := by omega
    have h2 : C.length * 1 ≤ 16777216 := by omega
    have h3 : 8 * C.length ≤ 281474976710656 := by omega
    simp only [l16_1, wp_chk, Int.toNat_natCast, h1, h2, h3, decide_true, true_and, beq_self_eq_true, wp_act]
    obtain ⟨next, at2, N, hat, hS⟩ := s1603 ms ac ok ty many C K P ms.length 0 (List.replicate C.length 0) [] (by omega) (by simp [hCl]) ⟨fun s hs => by omega, fun s t hs => by omega⟩ ⟨rfl, fun s f x _ hf => by omega, fun s x _ _ _ => rfl⟩
    refine ⟨_, hS, ?_⟩
    simp only [wp_ite, wp_ret, hat]
    by_cases hc : (cnt (alikeR (ms, ac) C) ms.length : Int) = many
    · have hb : ((cnt (alikeR (ms, ac) C) ms.length : Int) == many) = true := by rw [hc]; simp
      simp only [hb, if_true]
      have hm' : many = (cnt (KL (ms, ac) C) ms.length : Int) := by
        rcases hm with h | h
        · omega
        · exact h
      have := part_done (ms, ac) ok Co P N (show cnt (KL (ms, ac) C) ms.length = cnt (alikeR (ms, ac) C) ms.length by omega)
      rw [classF_eq (ms, ac) this]
      rfl
    · have hb : ((cnt (alikeR (ms, ac) C) ms.length : Int) == many) = false := by simpa using hc
      simp only [hb, Bool.false_eq_true, if_false, wp_act]
      have hnl := N.len
      have hnl' : next.length = ms.length := hnl
      obtain ⟨C', g1, g2, g3⟩ := s1606 ms ac ok (cnt (alikeR (ms, ac) C) ms.length : Int) next hnl' ms.length 0 C (by omega) hCl (fun j hj => by omega)
      have e : (next.length : Int) = (ms.length : Int) := by rw [hnl']
      simp only [e]
      refine ⟨_, g3, ?_⟩
      obtain ⟨Co', P', hK⟩ := part_step (ms, ac) ok Co N
      have ag : ∀ j, j < ms.length → ¬ DeadS (ms, ac) (j : Int) → C'.getD j 0 = next.getD j 0 := fun j hj hd => by rw [g2 j hj, if_neg hd]
      have hle := cnt_le (alikeR (ms, ac) C) ms.length
      have hfine := (cnt_fine (A := KL (ms, ac) C) (B := alikeR (ms, ac) C) (n := ms.length) (fun s t _ _ h => alike_KL (ms, ac) h) ms.length (Nat.le_refl _)).1
      have hcc : cnt (KL (ms, ac) C') ms.length = cnt (alikeR (ms, ac) C) ms.length := by
        rw [← cnt_congr hK]
        exact cnt_congr fun s t hs ht => KL_agree ms ac ag hs ht
      refine ih C' _ ⟨g1, fun s hs hd => by rw [g2 s hs, if_pos hd], fun s hs => ?_⟩ (fun s hs hd => by rw [ag s hs hd]; exact P' s hs hd) (Coarse.agree ms ac ag Co') (.inr (by rw [hcc])) (by omega)
      have E := alikeR_eqv (ms, ac) C ms.length
      rw [g2 s hs]
      split
      · unfold I64; omega
      · obtain ⟨r, h4, h5, h6⟩ := has_first E s hs
        have e2 : next.getD s 0 = next.getD r 0 := (N.iff E hs (show r < ms.length by omega)).2 (E.symm r s (by omega) hs h6)
        have hr := cnt_le (alikeR (ms, ac) C) r
        rw [e2, N.fst r (show r < ms.length by omega) h5]
        unfold I64; omega

theorem s1601 (ok : Okd (ms, ac)) : ∀ k i (C : List Int), i + k = ms.length → C.length = ms.length → (∀ j, j < i → C.getD j 0 = if DeadS (ms, ac) (j : Int) then -1 else IntKind.wrap IntKind.i64 (1 + ac.getD j 0)) →
    ∃ C', C'.length = ms.length ∧ (∀ j, j < ms.length → C'.getD j 0 = if DeadS (ms, ac) (j : Int) then -1 else IntKind.wrap IntKind.i64 (1 + ac.getD j 0)) ∧
    S 1601 ((deadF (ms, ac), (ms.length : Int), (i : Int), ()), (ms, ac, ()), C, ()) ((deadF (ms, ac), ()), (ms, ac, ()), C', ()) := by
  have dl : (deadF (ms, ac)).length = ms.length := deadF_len (ms, ac)
  intro k
  induction k with
  | zero =>
    intro i C hi hl h
    refine ⟨C, hl, fun j hj => h j (by omega), r1601 _ _ _ _ _ _ ?_⟩
    have h1 : ¬ (i : Int) < (ms.length : Int) := by omega
    simp only [l16_0, wp_ite, h1, decide_false, Bool.false_eq_true, if_false, wp_ret]
    rfl
  | succ k ih =>
    intro i C hi hl h
    have two : ms.length ≤ 2000 := ok.two
    have ol : ac.length = ms.length := ok.len
    have hlt : i < ms.length := by omega
    have h1 : (i : Int) < (ms.length : Int) := by omega
    have h0 : (0 : Int) ≤ (i : Int) := by omega
    have h2 : (i : Int) < (ac.length : Int) := by omega
    have h3 : (i : Int) < (C.length : Int) := by omega
    have h4 : (i : Int) < ((deadF (ms, ac)).length : Int) := by omega
    have h5 : (i : Int) < ((C.set i (-1)).length : Int) := by rw [List.length_set]; exact h3
    have hw := wsucc hlt (show ms.length ≤ 1000000 by omega)
    have hg : (deadF (ms, ac)).getD i false = decide (DeadS (ms, ac) (i : Int)) := deadF_at (ms, ac) hlt
    by_cases hd : DeadS (ms, ac) (i : Int)
    · obtain ⟨C', g1, g2, g3⟩ := ih (i + 1) (C.set i (-1)) (by omega) (by rw [List.length_set]; exact hl) (fun j hj => by
        rw [getSet]
        by_cases e : i = j
        · subst e; rw [if_pos ⟨rfl, by omega⟩, if_pos hd]
        · rw [if_neg (fun h => e h.1)]; exact h j (by omega))
      refine ⟨C', g1, g2, r1601 _ _ _ _ _ _ ?_⟩
      simp only [l16_0, wp_ite, wp_chk, wp_ret, Int.toNat_natCast, h1, h0, h2, h3, h4, hg, decide_eq_true hd, decide_true, Bool.not_true, Bool.false_and, Bool.false_eq_true, if_false, if_true, true_and, hw]
      exact g3
    · obtain ⟨C', g1, g2, g3⟩ := ih (i + 1) ((C.set i (-1)).set i (IntKind.wrap IntKind.i64 (1 + ac.getD i 0))) (by omega) (by rw [List.length_set, List.length_set]; exact hl) (fun j hj => by
        rw [getSet, getSet]
        by_cases e : i = j
        · subst e; rw [if_pos ⟨rfl, by rw [List.length_set]; omega⟩, if_neg hd]
        · rw [if_neg (fun h => e h.1), if_neg (fun h => e h.1)]; exact h j (by omega))
      refine ⟨C', g1, g2, r1601 _ _ _ _ _ _ ?_⟩
      simp only [l16_0, wp_ite, wp_chk, wp_ret, Int.toNat_natCast, h1, h0, h2, h3, h4, h5, hg, decide_eq_false hd, decide_true, Bool.not_false, Bool.true_and, if_true, true_and, hw]
      exact g3

theorem s1600 (ok : Okd (ms, ac)) (ty : TyD (ms, ac)) : S 1600 (((ms, ac), ()), ()) ((classF (ms, ac), ()), ()) := by
  have two : ms.length ≤ 2000 := ok.two
  have ol : ac.length = ms.length := ok.len
  refine r1600 _ _ ?_
  simp only [t16, wp_act]
  refine ⟨_, s1300 ms ac ok ty, ?_⟩
  have h1 : (0 : Int) ≤ (ms.length : Int) := by omega
  have h2 : ms.length * 1 ≤ 16777216 := by omega
  have h3 : 8 * ms.length ≤ 281474976710656 := by omega
  obtain ⟨C, g1, g2, g3⟩ := s1601 ms ac ok ms.length 0 (List.replicate ms.length (0 : Int)) (by omega) (by simp) (fun j hj => by omega)
  simp only [wp_chk, Int.toNat_natCast, h1, h2, h3, decide_true, true_and, beq_self_eq_true, wp_act, List.length_replicate]
  refine ⟨_, g3, ?_⟩
  have rng : ∀ s, s < ms.length → I64 (ac.getD s 0) := fun s hs => by
    have : s < ac.length := by omega
    rw [getN this]
    exact ty.2 _ (List.getElem_mem this)
  have nn : ∀ s, s < ms.length → IntKind.wrap IntKind.i64 (1 + ac.getD s 0) ≠ -1 := fun s hs h => by
    have h4 : s < ac.length := by omega
    have h5 : -1 ≤ ac.getD s 0 := by rw [getN h4]; exact ok.acc _ (List.getElem_mem h4)
    have h6 : IntKind.wrap IntKind.i64 (1 + ac.getD s 0) = IntKind.wrap IntKind.i64 (1 + (-2)) := by rw [h]; rfl
    have := wrap1_inj (rng s hs) (by unfold I64; omega) h6
    exact absurd this (by intro e; rw [e] at h5; omega)
  have K : Cls ms ac C := ⟨g1, fun s hs hd => by rw [g2 s hs, if_pos hd], fun s hs => by
    rw [g2 s hs]
    split
    · unfold I64; omega
    · exact wrap_i64 _⟩
  have P : NN (ms, ac) C := fun s hs hd => by rw [g2 s hs, if_neg hd]; exact nn s hs
  have Co : Coarse (ms, ac) C := coarse_of ms ac ok fun s t hs ht h1 h2 => by
    rw [g2 s hs, g2 t ht, if_neg h1, if_neg h2]
    constructor
    · intro h; exact wrap1_inj (rng s hs) (rng t ht) h
    · intro h; rw [h]
  exact ⟨_, s1602 ms ac ok ty (ms.length + 2) C (-1) K P Co (.inl rfl) (by omega), rfl⟩

end
end Go.Proofs.YtjmnjimlkljhjaaV

/- An automaton as small as it can be: how it is built, and what it comes to. -/
set_option linter.unusedVariables false
set_option maxRecDepth 100000
namespace Go.Proofs.YtjmnjimlkljhjaaV
open Go Go.Proofs
attribute [local irreducible] cs nx

/-! ### laying moves -/
def lastM (l : List Move) : Move := l.getD (l.length - 1) (0, 0, 0)
def layM (lo hi to : Int) (l : List Move) : List Move :=
  if 0 < l.length ∧ (lastM l).2.2 = to ∧ (lastM l).2.1 + 1 = lo then l.set (l.length - 1) ((lastM l).1, hi, (lastM l).2.2) else l ++ [(lo, hi, to)]

theorem lastM_snoc (l : List Move) (m : Move) : lastM (l ++ [m]) = m := by
  unfold lastM
  rw [List.length_append, List.length_singleton, List.getD_eq_getElem?_getD, List.getElem?_append_right (by omega)]
  simp

theorem set_snoc (l : List Move) (m x : Move) : (l ++ [m]).set ((l ++ [m]).length - 1) x = l ++ [x] := by
  rw [List.length_append, List.length_singleton, List.set_append_right _ _ (by omega)]
  simp

theorem layM_nil (lo hi to : Int) : layM lo hi to [] = [(lo, hi, to)] := by
  unfold layM
  rw [if_neg (by simp)]
  rfl

theorem layM_snoc (lo hi to : Int) (l : List Move) (m : Move) : layM lo hi to (l ++ [m]) = if m.2.2 = to ∧ m.2.1 + 1 = lo then l ++ [(m.1, hi, m.2.2)] else l ++ [m] ++ [(lo, hi, to)] := by
  unfold layM
  rw [lastM_snoc, set_snoc]
  have : 0 < (l ++ [m]).length := by simp
  by_cases h : m.2.2 = to ∧ m.2.1 + 1 = lo
  · rw [if_pos ⟨this, h⟩, if_pos h]
  · rw [if_neg (fun k => h k.2), if_neg h]

theorem snoc_cases (l : List Move) : l = [] ∨ ∃ l0 m, l = l0 ++ [m] := by
  rcases List.eq_nil_or_concat l with h | ⟨l0, m, h⟩
  · exact .inl h
  · exact .inr ⟨l0, m, by rw [h, List.concat_eq_append]⟩

theorem layM_ext {lo hi to : Int} (l : List Move) : layM (hi + 1) (hi + 1) to (layM lo hi to l) = layM lo (hi + 1) to l := by
  rcases snoc_cases l with rfl | ⟨l0, m, rfl⟩
  · rw [layM_nil, layM_nil]
    have := layM_snoc (hi + 1) (hi + 1) to [] (lo, hi, to)
    rw [List.nil_append] at this
    rw [this, if_pos ⟨rfl, rfl⟩]
    rfl
  · rw [layM_snoc, layM_snoc]
    by_cases h : m.2.2 = to ∧ m.2.1 + 1 = lo
    · rw [if_pos h, if_pos h, layM_snoc, if_pos ⟨h.1, rfl⟩]
    · rw [if_neg h, if_neg h, layM_snoc, if_pos ⟨rfl, rfl⟩]

def endE : Int → List Move → Int
  | e, [] => e
  | _, m :: l => endE m.2.1 l
def endT : Int → List Move → Int
  | t, [] => t
  | _, m :: l => endT m.2.2 l

theorem endE_snoc : ∀ (l : List Move) (e : Int) (m : Move), endE e (l ++ [m]) = m.2.1 := by
  intro l
  induction l with
  | nil => intro e m; rfl
  | cons x l ih => intro e m; exact ih _ m
theorem endT_snoc : ∀ (l : List Move) (t : Int) (m : Move), endT t (l ++ [m]) = m.2.2 := by
  intro l
  induction l with
  | nil => intro e m; rfl
  | cons x l ih => intro e m; exact ih _ m

theorem okL_snoc (n : Int) : ∀ (l : List Move) (e t : Int) (m : Move), okL n e t (l ++ [m]) = (okL n e t l && okL n (endE e l) (endT t l) [m]) := by
  intro l
  induction l with
  | nil => intro e t m; simp only [List.nil_append, okL, endE, endT, Bool.true_and]; rfl
  | cons x l ih =>
    intro e t m
    rw [List.cons_append]
    simp only [okL] at ih ⊢
    rw [ih, Bool.and_assoc]
    rfl

theorem okL_mono {n n' : Int} (h : n ≤ n') : ∀ {l : List Move} {e t : Int}, okL n e t l = true → okL n' e t l = true := by
  intro l
  induction l with
  | nil => intro e t _; rfl
  | cons x l ih =>
    intro e t k
    simp only [okL, Bool.and_eq_true, Bool.not_eq_true', Bool.or_eq_false_iff, decide_eq_false_iff_not] at k ⊢
    obtain ⟨⟨⟨⟨⟨h1, h2⟩, h3⟩, h4⟩, h5⟩, h6⟩ := k
    exact ⟨⟨⟨⟨⟨h1, h2⟩, by omega⟩, h4⟩, h5⟩, ih h6⟩

theorem okL_one (n e t : Int) (m : Move) : okL n e t [m] = true ↔ m.1 ≤ m.2.1 ∧ 0 ≤ m.2.2 ∧ m.2.2 < n ∧ e < m.1 ∧ ¬ (m.1 = e + 1 ∧ m.2.2 = t) := by
  simp only [okL, Bool.and_true, Bool.not_eq_true', Bool.or_eq_false_iff, decide_eq_false_iff_not, Bool.and_eq_false_iff, beq_eq_false_iff_ne]
  omega

theorem endE_lt {c : Int} : ∀ (l : List Move) (e : Int), e < c → (∀ m ∈ l, m.2.1 < c) → endE e l < c := by
  intro l
  induction l with
  | nil => intro e h _; exact h
  | cons x l ih => intro e _ h; exact ih _ (h x (by simp)) fun m hm => h m (by simp [hm])

/-- Laid behind what ends before. -/
theorem layM_ok {n lo hi to : Int} (h1 : lo ≤ hi) (h2 : 0 ≤ to) (h3 : to < n) (h4 : 0 ≤ lo) {l : List Move} (hl : okL n (-1) (-1) l = true) (hb : ∀ m ∈ l, m.2.1 < lo) : okL n (-1) (-1) (layM lo hi to l) = true := by
  rcases snoc_cases l with rfl | ⟨l0, m, rfl⟩
  · rw [layM_nil, okL_one]
    exact ⟨h1, h2, h3, by show -1 < lo; omega, by rintro ⟨_, k⟩; have k : to = -1 := k; omega⟩
  · rw [layM_snoc]
    by_cases h : m.2.2 = to ∧ m.2.1 + 1 = lo
    · rw [if_pos h]
      rw [okL_snoc, Bool.and_eq_true] at hl ⊢
      refine ⟨hl.1, ?_⟩
      rw [okL_one] at hl ⊢
      obtain ⟨_, k1, k2, k3, k4, k5⟩ := hl
      exact ⟨by show m.1 ≤ hi; omega, k2, k3, k4, k5⟩
    · rw [if_neg h, okL_snoc, Bool.and_eq_true, okL_one, endE_snoc, endT_snoc]
      refine ⟨hl, h1, h2, h3, hb m (by simp), fun k => h ⟨?_, ?_⟩⟩
      · exact k.2.symm
      · exact k.1.symm

theorem layM_hi {lo hi to : Int} (h1 : lo ≤ hi) {l : List Move} (hb : ∀ m ∈ l, m.2.1 < lo) : ∀ m ∈ layM lo hi to l, m.2.1 < hi + 1 := by
  intro m hm
  rcases snoc_cases l with rfl | ⟨l0, x, rfl⟩
  · rw [layM_nil, List.mem_singleton] at hm
    subst hm
    show hi < hi + 1; omega
  · rw [layM_snoc] at hm
    split at hm
    · rcases List.mem_append.1 hm with h | h
      · have := hb m (by simp [h]); omega
      · rw [List.mem_singleton] at h; subst h; show hi < hi + 1; omega
    · rcases List.mem_append.1 hm with h | h
      · have := hb m h; omega
      · rw [List.mem_singleton] at h; subst h; show hi < hi + 1; omega

theorem nxL_append (c : Int) : ∀ (l r : List Move), (∀ m ∈ l, m.2.1 < c) → nxL c (l ++ r) = nxL c r := by
  intro l
  induction l with
  | nil => intro r _; rfl
  | cons x l ih =>
    intro r h
    have := h x (by simp)
    rw [List.cons_append]
    simp only [nxL]
    rw [if_neg (by omega)]
    exact ih r fun m hm => h m (by simp [hm])

theorem nxL_append_lo (c : Int) : ∀ (l : List Move) (m : Move), c < m.1 → nxL c (l ++ [m]) = nxL c l := by
  intro l
  induction l with
  | nil => intro m h; simp only [List.nil_append, nxL]; rw [if_neg (by omega)]
  | cons x l ih =>
    intro m h
    rw [List.cons_append]
    simp only [nxL]
    rw [ih m h]

theorem nxL_none {c : Int} : ∀ (l : List Move), (∀ m ∈ l, m.2.1 < c) → nxL c l = -1 := by
  intro l h
  have := nxL_append c l [] h
  rw [List.append_nil] at this
  rw [this]; rfl

theorem nxL_lay {lo to : Int} {l : List Move} {n : Int} (hl : okL n (-1) (-1) l = true) (hb : ∀ m ∈ l, m.2.1 < lo) (c : Int) (hc : c ≤ lo) : nxL c (layM lo lo to l) = if c = lo then to else nxL c l := by
  rcases snoc_cases l with rfl | ⟨l0, m, rfl⟩
  · rw [layM_nil]
    simp only [nxL]
    by_cases h : c = lo
    · subst h; rw [if_pos ⟨Int.le_refl _, Int.le_refl _⟩, if_pos rfl]
    · rw [if_neg (by omega), if_neg h]
  · have hm := hb m (by simp)
    have h0 : ∀ x ∈ l0, x.2.1 < lo := fun x hx => hb x (by simp [hx])
    have hmr := okL_lo hl m (by simp)
    rw [layM_snoc]
    by_cases h : m.2.2 = to ∧ m.2.1 + 1 = lo
    · rw [if_pos h]
      by_cases hcl : c = lo
      · subst hcl
        rw [nxL_append c l0 _ h0, if_pos rfl]
        simp only [nxL]
        rw [if_pos (by omega)]
        exact h.1
      · rw [if_neg hcl]
        have key : ∀ (l0 : List Move), nxL c (l0 ++ [(m.1, lo, m.2.2)]) = nxL c (l0 ++ [m]) := by
          intro l0
          induction l0 with
          | nil =>
            simp only [List.nil_append, nxL]
            by_cases hk : c ≥ m.1
            · rw [if_pos ⟨hk, by omega⟩, if_pos ⟨hk, by omega⟩]
            · rw [if_neg (fun k => hk k.1), if_neg (fun k => hk k.1)]
          | cons x l ih =>
            rw [List.cons_append, List.cons_append]
            simp only [nxL]
            rw [ih]
        exact key l0
    · rw [if_neg h]
      by_cases hcl : c = lo
      · subst hcl
        rw [nxL_append c (l0 ++ [m]) _ hb, if_pos rfl]
        simp only [nxL]
        rw [if_pos ⟨Int.le_refl _, Int.le_refl _⟩]
      · rw [if_neg hcl, nxL_append_lo _ _ _ (by show c < lo; omega)]

/-! ### the states that are found -/
section
open Classical

noncomputable def fnd (d : Dfa) (t : Int) : List Int → Option Nat
  | [] => none
  | x :: l => if SemEq d x d t then some 0 else (fnd d t l).map (· + 1)

theorem fnd_some {d : Dfa} {t : Int} : ∀ {l : List Int} {i : Nat}, fnd d t l = some i → i < l.length ∧ SemEq d (l.getD i 0) d t := by
  intro l
  induction l with
  | nil => intro i h; cases h
  | cons x l ih =>
    intro i h
    simp only [fnd] at h
    split at h
    · cases h
      rename_i hs
      exact ⟨by simp, hs⟩
    · cases hf : fnd d t l with
      | none => rw [hf] at h; cases h
      | some j =>
        rw [hf] at h
        cases h
        obtain ⟨h1, h2⟩ := ih hf
        exact ⟨by simpa using h1, h2⟩

theorem fnd_none {d : Dfa} {t : Int} : ∀ {l : List Int}, fnd d t l = none → ∀ i, i < l.length → ¬ SemEq d (l.getD i 0) d t := by
  intro l
  induction l with
  | nil => intro _ i hi; simp at hi
  | cons x l ih =>
    intro h i hi
    simp only [fnd] at h
    split at h
    · cases h
    · rename_i hs
      cases hf : fnd d t l with
      | some j => rw [hf] at h; cases h
      | none =>
        cases i with
        | zero => exact hs
        | succ i => exact ih hf i (by simpa using hi)

/-- Found states, one of each class. -/
structure AllOk (d : Dfa) (all : List Int) : Prop where
  st : ∀ x ∈ all, ∃ u : Nat, x = (u : Int) ∧ u < d.1.length
  one : ∀ i j, i < all.length → j < all.length → SemEq d (all.getD i 0) d (all.getD j 0) → i = j
  live : ∀ i, 0 < i → i < all.length → ¬ DeadS d (all.getD i 0)

theorem AllOk.get {d : Dfa} {all : List Int} (A : AllOk d all) {i : Nat} (hi : i < all.length) : ∃ u : Nat, all.getD i 0 = (u : Int) ∧ u < d.1.length := by
  rw [getN hi]
  exact A.st _ (List.getElem_mem hi)

theorem AllOk.le {d : Dfa} {all : List Int} (A : AllOk d all) : all.length ≤ d.1.length := by
  have hn : all.Nodup := by
    rw [List.nodup_iff_pairwise_ne, List.pairwise_iff_getElem]
    intro i j hi hj hij e
    have := A.one i j hi hj (by rw [getN hi, getN hj, e]; exact SemEq.refl _ _)
    omega
  have := nodup_len all ((List.range d.1.length).map fun (i : Nat) => (i : Int)) hn fun x hx => by
    obtain ⟨u, hu, hl⟩ := A.st x hx
    exact List.mem_map.2 ⟨u, List.mem_range.2 hl, hu.symm⟩
  simpa using this

theorem AllOk.fnd_iff {d : Dfa} {all : List Int} (A : AllOk d all) {t : Int} {i : Nat} (hi : i < all.length) (h : SemEq d (all.getD i 0) d t) : fnd d t all = some i := by
  cases hf : fnd d t all with
  | none => exact absurd h (fnd_none hf i hi)
  | some j =>
    obtain ⟨h1, h2⟩ := fnd_some hf
    rw [A.one j i h1 hi (h2.trans h.symm)]

theorem getApp {α : Type} (l r : List α) {i : Nat} (h : i < l.length) (d : α) : (l ++ r).getD i d = l.getD i d := by
  rw [List.getD_eq_getElem?_getD, List.getElem?_append_left h, ← List.getD_eq_getElem?_getD]

theorem getApp1 {α : Type} (l : List α) (x d : α) : (l ++ [x]).getD l.length d = x := by
  rw [List.getD_eq_getElem?_getD, List.getElem?_append_right (Nat.le_refl _)]
  simp

theorem AllOk.add {d : Dfa} {all : List Int} (A : AllOk d all) {u : Nat} (hu : u < d.1.length) (hd : ¬ DeadS d (u : Int)) (hf : fnd d (u : Int) all = none) : AllOk d (all ++ [(u : Int)]) := by
  refine ⟨fun x hx => ?_, fun i j hi hj h => ?_, fun i h0 hi => ?_⟩
  · rcases List.mem_append.1 hx with h | h
    · exact A.st x h
    · exact ⟨u, List.mem_singleton.1 h, hu⟩
  · rw [List.length_append, List.length_singleton] at hi hj
    rcases Nat.lt_or_ge i all.length with h1 | h1
    · rcases Nat.lt_or_ge j all.length with h2 | h2
      · rw [getApp _ _ h1, getApp _ _ h2] at h
        exact A.one i j h1 h2 h
      · have : j = all.length := by omega
        subst this
        rw [getApp _ _ h1, getApp1] at h
        exact absurd h (fnd_none hf i h1)
    · have e1 : i = all.length := by omega
      rcases Nat.lt_or_ge j all.length with h2 | h2
      · subst e1
        rw [getApp _ _ h2, getApp1] at h
        exact absurd h.symm (fnd_none hf j h2)
      · omega
  · rw [List.length_append, List.length_singleton] at hi
    rcases Nat.lt_or_ge i all.length with h1 | h1
    · rw [getApp _ _ h1]; exact A.live i h0 h1
    · have e1 : i = all.length := by omega
      subst e1
      rw [getApp1]; exact hd

abbrev BSt := List Int × List Move

noncomputable def mstep (d : Dfa) (t lo hi : Int) (st : BSt) : BSt :=
  if DeadS d t then st else
    match fnd d t st.1 with
    | none => (st.1 ++ [t], layM lo hi (st.1.length : Int) st.2)
    | some i => (st.1, layM lo hi (i : Int) st.2)

noncomputable def bF (d : Dfa) (s : Int) : Nat → Nat → BSt → BSt
  | _, 0, st => st
  | c, k + 1, st => bF d s (c + 1) k (mstep d (nx d.1 s (c : Int)) (c : Int) (c : Int) st)

/-- What a row comes to, up to a byte. -/
structure RowInv (d : Dfa) (s : Int) (c : Nat) (st : BSt) : Prop where
  all : AllOk d st.1
  ok : okL (st.1.length : Int) (-1) (-1) st.2 = true
  hi : ∀ m ∈ st.2, m.2.1 < (c : Int)
  ty : ∀ m ∈ st.2, 0 ≤ m.1 ∧ 0 ≤ m.2.1
  tg : ∀ c' : Nat, c' < c → (DeadS d (nx d.1 s (c' : Int)) ∧ nxL (c' : Int) st.2 = -1) ∨ (¬ DeadS d (nx d.1 s (c' : Int)) ∧ ∃ i : Nat, i < st.1.length ∧ nxL (c' : Int) st.2 = (i : Int) ∧ SemEq d (st.1.getD i 0) d (nx d.1 s (c' : Int)))

theorem RowInv.step {d : Dfa} (o : Okd d) {s : Int} {c : Nat} {st : BSt} (R : RowInv d s c st) : RowInv d s (c + 1) (mstep d (nx d.1 s (c : Int)) (c : Int) (c : Int) st) ∧ ∃ r, (mstep d (nx d.1 s (c : Int)) (c : Int) (c : Int) st).1 = st.1 ++ r := by
  have ext : ∀ (r : List Int) (to : Int) (h0 : 0 ≤ to) (h1 : to < ((st.1 ++ r).length : Int)) (A : AllOk d (st.1 ++ r)) (hd : ¬ DeadS d (nx d.1 s (c : Int))) (hs : SemEq d ((st.1 ++ r).getD to.toNat 0) d (nx d.1 s (c : Int))), RowInv d s (c + 1) (st.1 ++ r, layM (c : Int) (c : Int) to st.2) := by
    intro r to h0 h1 A hd hs
    have hok : okL ((st.1 ++ r).length : Int) (-1) (-1) st.2 = true := okL_mono (by rw [List.length_append]; omega) R.ok
    refine ⟨A, layM_ok (Int.le_refl _) h0 h1 (by omega) hok R.hi, fun m hm => ?_, fun m hm => ?_, fun c' hc' => ?_⟩
    · have := layM_hi (Int.le_refl _) R.hi m hm; omega
    · rcases snoc_cases st.2 with e | ⟨l0, x, e⟩
      · rw [e] at hm
        have hm : m ∈ layM (c : Int) (c : Int) to [] := hm
        rw [layM_nil, List.mem_singleton] at hm
        subst hm
        exact ⟨by show (0 : Int) ≤ (c : Int); omega, by show (0 : Int) ≤ (c : Int); omega⟩
      · have hx := R.ty x (by rw [e]; simp)
        have h0' : ∀ y ∈ l0, 0 ≤ y.1 ∧ 0 ≤ y.2.1 := fun y hy => R.ty y (by rw [e]; simp [hy])
        rw [e] at hm
        have hm : m ∈ layM (c : Int) (c : Int) to (l0 ++ [x]) := hm
        rw [layM_snoc] at hm
        split at hm
        · rcases List.mem_append.1 hm with h | h
          · exact h0' m h
          · rw [List.mem_singleton] at h; subst h; exact ⟨hx.1, by show (0 : Int) ≤ (c : Int); omega⟩
        · rcases List.mem_append.1 hm with h | h
          · rcases List.mem_append.1 h with h | h
            · exact h0' m h
            · rw [List.mem_singleton] at h; subst h; exact hx
          · rw [List.mem_singleton] at h; subst h
            exact ⟨by show (0 : Int) ≤ (c : Int); omega, by show (0 : Int) ≤ (c : Int); omega⟩
    · show (_ ∧ nxL (c' : Int) (layM (c : Int) (c : Int) to st.2) = -1) ∨ (_ ∧ ∃ i : Nat, i < (st.1 ++ r).length ∧ nxL (c' : Int) (layM (c : Int) (c : Int) to st.2) = (i : Int) ∧ SemEq d ((st.1 ++ r).getD i 0) d (nx d.1 s (c' : Int)))
      rw [nxL_lay R.ok R.hi (c' : Int) (by omega)]
      by_cases e : c' = c
      · subst e
        rw [if_pos rfl]
        exact .inr ⟨hd, to.toNat, by omega, by omega, hs⟩
      · rw [if_neg (by omega)]
        rcases R.tg c' (by omega) with h | ⟨h, i, h2, h3, h4⟩
        · exact .inl h
        · exact .inr ⟨h, i, by rw [List.length_append]; omega, h3, by rw [getApp _ _ h2]; exact h4⟩
  unfold mstep
  by_cases hd : DeadS d (nx d.1 s (c : Int))
  · rw [if_pos hd]
    refine ⟨⟨R.all, R.ok, fun m hm => by have := R.hi m hm; omega, R.ty, fun c' hc' => ?_⟩, [], (List.append_nil _).symm⟩
    by_cases e : c' = c
    · subst e
      exact .inl ⟨hd, nxL_none _ R.hi⟩
    · exact R.tg c' (by omega)
  · rw [if_neg hd]
    cases hf : fnd d (nx d.1 s (c : Int)) st.1 with
    | none =>
      refine ⟨?_, _, rfl⟩
      rcases nx_cases o s (c : Int) with h | ⟨u, h, hu⟩
      · rw [h] at hd; exact absurd (dead_neg d) hd
      · refine ext [nx d.1 s (c : Int)] (st.1.length : Int) (by omega) (by rw [List.length_append, List.length_singleton]; omega) ?_ hd ?_
        · rw [h] at hd hf ⊢
          exact R.all.add hu hd hf
        · rw [Int.toNat_natCast, getApp1]; exact SemEq.refl _ _
    | some i =>
      obtain ⟨h1, h2⟩ := fnd_some hf
      refine ⟨?_, [], (List.append_nil _).symm⟩
      have := ext [] (i : Int) (by omega) (by rw [List.append_nil]; omega) (by rw [List.append_nil]; exact R.all) hd (by rw [List.append_nil, Int.toNat_natCast]; exact h2)
      rw [List.append_nil] at this
      exact this

theorem RowInv.all' {d : Dfa} (o : Okd d) {s : Int} : ∀ (k c : Nat) (st : BSt), RowInv d s c st → RowInv d s (c + k) (bF d s c k st) ∧ ∃ r, (bF d s c k st).1 = st.1 ++ r := by
  intro k
  induction k with
  | zero => intro c st R; exact ⟨R, [], (List.append_nil _).symm⟩
  | succ k ih =>
    intro c st R
    obtain ⟨R1, r1, e1⟩ := R.step o
    obtain ⟨R2, r2, e2⟩ := ih (c + 1) _ R1
    refine ⟨by rw [show c + (k + 1) = c + 1 + k by omega]; exact R2, r1 ++ r2, ?_⟩
    show (bF d s (c + 1) k _).1 = _
    rw [e2, e1, List.append_assoc]

noncomputable def rowB (d : Dfa) (s : Int) (all : List Int) : BSt := bF d s 0 256 (all, [])

theorem rowB_ok {d : Dfa} (o : Okd d) {s : Int} {all : List Int} (A : AllOk d all) : RowInv d s 256 (rowB d s all) ∧ ∃ r, (rowB d s all).1 = all ++ r := by
  have := RowInv.all' o (s := s) 256 0 (all, []) ⟨A, rfl, fun m hm => (by cases hm), fun m hm => (by cases hm), fun c' h => by omega⟩
  exact this

/-- The automaton: all that are found, one after the other. -/
noncomputable def bld (d : Dfa) : Nat → Nat → List Int → Dfa → Option (List Int × Dfa)
  | 0, _, _, _ => none
  | f + 1, k, all, out => match all[k]? with
    | none => some (all, out)
    | some s => bld d f (k + 1) (rowB d s all).1 (out.1 ++ [(rowB d s all).2], out.2 ++ [d.2.getD s.toNat 0])

structure BInv (d : Dfa) (k : Nat) (all : List Int) (out : Dfa) : Prop where
  a : AllOk d all
  pos : 0 < all.length
  zero : all.getD 0 0 = 0
  l1 : out.1.length = k
  l2 : out.2.length = k
  kl : k ≤ all.length
  row : ∀ j, j < k → okL (all.length : Int) (-1) (-1) (out.1.getD j []) = true ∧ (∀ m ∈ out.1.getD j [], TyM m) ∧
    ∀ c, Byte c → (DeadS d (nx d.1 (all.getD j 0) c) ∧ nxL c (out.1.getD j []) = -1) ∨ (¬ DeadS d (nx d.1 (all.getD j 0) c) ∧ ∃ i : Nat, i < all.length ∧ nxL c (out.1.getD j []) = (i : Int) ∧ SemEq d (all.getD i 0) d (nx d.1 (all.getD j 0) c))
  acc : ∀ j, j < k → out.2.getD j 0 = d.2.getD (all.getD j 0).toNat 0

theorem BInv.step {d : Dfa} (o : Okd d) {k : Nat} {all : List Int} {out : Dfa} (B : BInv d k all out) {s : Int} (hs : all[k]? = some s) :
    BInv d (k + 1) (rowB d s all).1 (out.1 ++ [(rowB d s all).2], out.2 ++ [d.2.getD s.toNat 0]) := by
  obtain ⟨hlt, hse⟩ := List.getElem?_eq_some_iff.1 hs
  have hsg : all.getD k 0 = s := by rw [getN hlt]; exact hse
  obtain ⟨R, r, e⟩ := rowB_ok o (s := s) B.a
  have hA := R.all
  have two : d.1.length ≤ 2000 := o.two
  have hle := hA.le
  rw [e] at hA hle
  have hpos := B.pos
  refine ⟨by rw [e]; exact hA, by rw [e, List.length_append]; omega, by rw [e, getApp _ _ B.pos]; exact B.zero, by simp [B.l1], by simp [B.l2], by rw [e, List.length_append]; omega, fun j hj => ?_, fun j hj => ?_⟩
  · rcases Nat.lt_or_ge j k with h | h
    · obtain ⟨h1, h2, h3⟩ := B.row j h
      have hg : (out.1 ++ [(rowB d s all).2]).getD j [] = out.1.getD j [] := getApp _ _ (by rw [B.l1]; exact h) _
      have hj' : j < all.length := by have := B.kl; omega
      show okL _ _ _ ((out.1 ++ [(rowB d s all).2]).getD j []) = true ∧ (∀ m ∈ (out.1 ++ [(rowB d s all).2]).getD j [], TyM m) ∧ _
      rw [hg]
      refine ⟨okL_mono (by rw [e, List.length_append]; omega) h1, h2, fun c hc => ?_⟩
      rw [e, getApp _ _ hj']
      rcases h3 c hc with h | ⟨h, i, g1, g2, g3⟩
      · exact .inl h
      · exact .inr ⟨h, i, by rw [List.length_append]; omega, g2, by rw [getApp _ _ g1]; exact g3⟩
    · have : j = k := by omega
      subst this
      have hg : (out.1 ++ [(rowB d s all).2]).getD j [] = (rowB d s all).2 := by
        have := getApp1 out.1 (rowB d s all).2 []
        rw [B.l1] at this
        exact this
      show okL _ _ _ ((out.1 ++ [(rowB d s all).2]).getD j []) = true ∧ (∀ m ∈ (out.1 ++ [(rowB d s all).2]).getD j [], TyM m) ∧ _
      rw [hg]
      refine ⟨R.ok, fun m hm => ?_, fun c hc => ?_⟩
      · have h1 := R.hi m hm
        have h2 := R.ty m hm
        have h3 := okL_lo R.ok m hm
        have hle2 := R.all.le
        exact ⟨h2.1, by omega, h2.2, by omega, by omega, by omega⟩
      · have hg2 : (rowB d s all).1.getD j 0 = s := by rw [e, getApp _ _ hlt]; exact hsg
        rw [hg2]
        obtain ⟨c0, c1⟩ := hc
        obtain ⟨i, rfl⟩ : ∃ i : Nat, c = (i : Int) := ⟨c.toNat, by omega⟩
        exact R.tg i (by omega)
  · rcases Nat.lt_or_ge j k with h | h
    · have hj' : j < all.length := by have := B.kl; omega
      show (out.2 ++ [d.2.getD s.toNat 0]).getD j 0 = _
      rw [getApp _ _ (by rw [B.l2]; exact h), e, getApp _ _ hj']
      exact B.acc j h
    · have : j = k := by omega
      subst this
      show (out.2 ++ [d.2.getD s.toNat 0]).getD j 0 = _
      have := getApp1 out.2 (d.2.getD s.toNat 0) 0
      rw [B.l2] at this
      rw [this, e, getApp _ _ hlt, hsg]

theorem bld_ok {d : Dfa} (o : Okd d) : ∀ (f k : Nat) (all : List Int) (out : Dfa), BInv d k all out → d.1.length < k + f → ∃ all' out', bld d f k all out = some (all', out') ∧ BInv d all'.length all' out' := by
  intro f
  induction f with
  | zero =>
    intro k all out B h
    have := B.kl
    have := B.a.le
    omega
  | succ f ih =>
    intro k all out B h
    simp only [bld]
    cases hq : all[k]? with
    | none =>
      have hge := List.getElem?_eq_none_iff.1 hq
      have e : k = all.length := by have := B.kl; omega
      exact ⟨all, out, rfl, by rw [← e]; exact B⟩
    | some s => exact ih (k + 1) _ _ (B.step o hq) (by omega)

theorem start_all {d : Dfa} (o : Okd d) : BInv d 0 [0] ([], []) := by
  refine ⟨⟨fun x hx => ⟨0, List.mem_singleton.1 hx, o.pos⟩, fun i j hi hj _ => ?_, fun i h0 hi => ?_⟩, by simp, rfl, rfl, rfl, Nat.zero_le _, fun j hj => by omega, fun j hj => by omega⟩
  · simp at hi hj; omega
  · simp at hi; omega

noncomputable def bldF (d : Dfa) : List Int × Dfa := (bld d 2100 0 [0] ([], [])).getD ([], ([], []))

theorem bldF_ok {d : Dfa} (o : Okd d) : bld d 2100 0 [0] ([], []) = some (bldF d) ∧ BInv d (bldF d).1.length (bldF d).1 (bldF d).2 := by
  have two := o.two
  obtain ⟨all, out, h1, h2⟩ := bld_ok o 2100 0 [0] ([], []) (start_all o) (by omega)
  have e : bldF d = (all, out) := by unfold bldF; rw [h1]; rfl
  rw [e]
  exact ⟨h1, h2⟩

/-! ### what it comes to -/
theorem bld_okd {d : Dfa} (o : Okd d) : Okd (bldF d).2 := by
  obtain ⟨_, B⟩ := bldF_ok o
  have two := o.two
  have hle := B.a.le
  refine ⟨by rw [B.l1]; exact B.pos, by rw [B.l1]; omega, by rw [B.l1, B.l2], fun a ha => ?_, fun l hl => ?_⟩
  · obtain ⟨j, hj, rfl⟩ := List.getElem_of_mem ha
    have hj' : j < (bldF d).1.length := by rw [← B.l2]; exact hj
    have := B.acc j hj'
    rw [getN hj] at this
    rw [this]
    obtain ⟨u, hu, hul⟩ := B.a.get hj'
    rw [hu, Int.toNat_natCast]
    have h2 : u < d.2.length := by rw [o.len]; exact hul
    rw [getN h2]
    exact o.acc _ (List.getElem_mem h2)
  · obtain ⟨j, hj, rfl⟩ := List.getElem_of_mem hl
    have hj' : j < (bldF d).1.length := by rw [← B.l1]; exact hj
    have := (B.row j hj').1
    rw [getN hj] at this
    rw [B.l1]
    exact this

theorem bld_tyd {d : Dfa} (o : Okd d) (ty : TyD d) : TyD (bldF d).2 := by
  obtain ⟨_, B⟩ := bldF_ok o
  refine ⟨fun l hl m hm => ?_, fun a ha => ?_⟩
  · obtain ⟨j, hj, rfl⟩ := List.getElem_of_mem hl
    have hj' : j < (bldF d).1.length := by rw [← B.l1]; exact hj
    have := (B.row j hj').2.1
    rw [getN hj] at this
    exact this m hm
  · obtain ⟨j, hj, rfl⟩ := List.getElem_of_mem ha
    have hj' : j < (bldF d).1.length := by rw [← B.l2]; exact hj
    have := B.acc j hj'
    rw [getN hj] at this
    rw [this]
    obtain ⟨u, hu, hul⟩ := B.a.get hj'
    rw [hu, Int.toNat_natCast]
    have h2 : u < d.2.length := by rw [o.len]; exact hul
    rw [getN h2]
    exact ty.2 _ (List.getElem_mem h2)

/-- Its k-th state comes to what the k-th that was found does. -/
theorem bld_sem {d : Dfa} (o : Okd d) : ∀ (w : List Int), Word w → ∀ k, k < (bldF d).1.length → outS (bldF d).2 (k : Int) w = outS d ((bldF d).1.getD k 0) w := by
  obtain ⟨_, B⟩ := bldF_ok o
  intro w
  induction w with
  | nil =>
    intro _ k hk
    rw [outS_nil, outS_nil]
    have h1 : k < (bldF d).2.2.length := by rw [B.l2]; exact hk
    rw [toldF_at h1]
    obtain ⟨u, hu, hul⟩ := B.a.get hk
    have h2 : u < d.2.length := by rw [o.len]; exact hul
    rw [hu, toldF_at h2, ← getN h1 0, B.acc k hk, hu, Int.toNat_natCast, getN h2]
  | cons c w ih =>
    intro hw k hk
    rw [outS_cons, outS_cons]
    have h1 : k < (bldF d).2.1.length := by rw [B.l1]; exact hk
    rw [nx_at h1, ← getN h1 []]
    rcases (B.row k hk).2.2 c hw.head with ⟨h, e⟩ | ⟨h, i, hi, e, hs⟩
    · rw [e, outS_neg, h w hw.tail]
    · rw [e, ih hw.tail i hi, hs w hw.tail]

theorem bld_same {d : Dfa} (o : Okd d) : SemEq (bldF d).2 0 d 0 := by
  intro w hw
  obtain ⟨_, B⟩ := bldF_ok o
  have := bld_sem o w hw 0 B.pos
  rw [B.zero] at this
  exact this

/-- Two that come to the same are built alike. -/
def Twins (d b : Dfa) (x y : List Int) : Prop := x.length = y.length ∧ ∀ i, i < x.length → SemEq d (x.getD i 0) b (y.getD i 0)

theorem fnd_twins {d b : Dfa} {t u : Int} (h : SemEq d t b u) : ∀ (x y : List Int), Twins d b x y → fnd d t x = fnd b u y := by
  intro x
  induction x with
  | nil =>
    intro y hy
    have : y = [] := List.eq_nil_of_length_eq_zero hy.1.symm
    rw [this]; rfl
  | cons a x ih =>
    intro y hy
    cases y with
    | nil => have := hy.1; simp at this
    | cons c y =>
      have hac : SemEq d a b c := hy.2 0 (by simp)
      have htl : Twins d b x y := ⟨by have := hy.1; simpa using this, fun i hi => by
        have := hy.2 (i + 1) (by simpa using hi)
        exact this⟩
      simp only [fnd]
      by_cases hs : SemEq d a d t
      · rw [if_pos hs, if_pos (hac.symm.trans (hs.trans h))]
      · rw [if_neg hs, if_neg (fun k => hs (hac.trans (k.trans h.symm))), ih y htl]

theorem Twins.add {d b : Dfa} {x y : List Int} (T : Twins d b x y) {t u : Int} (h : SemEq d t b u) : Twins d b (x ++ [t]) (y ++ [u]) := by
  refine ⟨by simp [T.1], fun i hi => ?_⟩
  rw [List.length_append, List.length_singleton] at hi
  rcases Nat.lt_or_ge i x.length with h1 | h1
  · rw [getApp _ _ h1, getApp _ _ (by rw [← T.1]; exact h1)]
    exact T.2 i h1
  · have e : i = x.length := by omega
    subst e
    rw [getApp1]
    have := getApp1 y u 0
    rw [← T.1] at this
    rw [this]
    exact h

theorem mstep_twins {d b : Dfa} {t u lo hi : Int} (h : SemEq d t b u) {x y : List Int} (T : Twins d b x y) (l : List Move) : Twins d b (mstep d t lo hi (x, l)).1 (mstep b u lo hi (y, l)).1 ∧ (mstep d t lo hi (x, l)).2 = (mstep b u lo hi (y, l)).2 := by
  unfold mstep
  by_cases hd : DeadS d t
  · rw [if_pos hd, if_pos (h.dead.1 hd)]
    exact ⟨T, rfl⟩
  · rw [if_neg hd, if_neg (fun k => hd (h.dead.2 k))]
    have e := fnd_twins h x y T
    show Twins d b (match fnd d t x with | none => (x ++ [t], layM lo hi (x.length : Int) l) | some i => (x, layM lo hi (i : Int) l)).1 (match fnd b u y with | none => (y ++ [u], layM lo hi (y.length : Int) l) | some i => (y, layM lo hi (i : Int) l)).1 ∧
      (match fnd d t x with | none => (x ++ [t], layM lo hi (x.length : Int) l) | some i => (x, layM lo hi (i : Int) l)).2 = (match fnd b u y with | none => (y ++ [u], layM lo hi (y.length : Int) l) | some i => (y, layM lo hi (i : Int) l)).2
    rw [← e]
    cases fnd d t x with
    | none => exact ⟨T.add h, by show layM lo hi (x.length : Int) l = layM lo hi (y.length : Int) l; rw [T.1]⟩
    | some i => exact ⟨T, rfl⟩

theorem bF_twins {d b : Dfa} {s t : Int} (h : SemEq d s b t) : ∀ (k c : Nat) (x y : List Int) (l : List Move), c + k ≤ 256 → Twins d b x y → Twins d b (bF d s c k (x, l)).1 (bF b t c k (y, l)).1 ∧ (bF d s c k (x, l)).2 = (bF b t c k (y, l)).2 := by
  intro k
  induction k with
  | zero => intro c x y l _ T; exact ⟨T, rfl⟩
  | succ k ih =>
    intro c x y l hc T
    obtain ⟨h1, h2⟩ := mstep_twins (lo := (c : Int)) (hi := (c : Int)) (h.step (c := (c : Int)) ⟨by omega, by omega⟩) T l
    show Twins d b (bF d s (c + 1) k (mstep d (nx d.1 s (c : Int)) (c : Int) (c : Int) (x, l))).1 (bF b t (c + 1) k (mstep b (nx b.1 t (c : Int)) (c : Int) (c : Int) (y, l))).1 ∧ _
    have e1 : mstep d (nx d.1 s (c : Int)) (c : Int) (c : Int) (x, l) = ((mstep d (nx d.1 s (c : Int)) (c : Int) (c : Int) (x, l)).1, (mstep b (nx b.1 t (c : Int)) (c : Int) (c : Int) (y, l)).2) := by rw [← h2]
    have := ih (c + 1) _ _ (mstep b (nx b.1 t (c : Int)) (c : Int) (c : Int) (y, l)).2 (by omega) h1
    rw [← e1] at this
    exact this

theorem bld_twins {d b : Dfa} (o : Okd d) (o2 : Okd b) : ∀ (f k : Nat) (x y : List Int) (out : Dfa), Twins d b x y → AllOk d x → AllOk b y → (bld d f k x out).map (·.2) = (bld b f k y out).map (·.2) := by
  intro f
  induction f with
  | zero => intro k x y out _ _ _; rfl
  | succ f ih =>
    intro k x y out T A A2
    simp only [bld]
    rcases Nat.lt_or_ge k x.length with h | h
    · have h2 : k < y.length := by rw [← T.1]; exact h
      rw [List.getElem?_eq_getElem h, List.getElem?_eq_getElem h2]
      have hs := T.2 k h
      rw [getN h, getN h2] at hs
      obtain ⟨g1, g2⟩ := bF_twins hs 256 0 x y [] (by omega) T
      have ha : d.2.getD x[k].toNat 0 = b.2.getD y[k].toNat 0 := by
        obtain ⟨u, hu, hul⟩ := A.st _ (List.getElem_mem h)
        obtain ⟨v, hv, hvl⟩ := A2.st _ (List.getElem_mem h2)
        have := hs [] Word.nil
        rw [outS_nil, outS_nil, hu, hv] at this
        have h3 : u < d.2.length := by rw [o.len]; exact hul
        have h4 : v < b.2.length := by rw [o2.len]; exact hvl
        rw [toldF_at h3, toldF_at h4] at this
        rw [hu, hv, Int.toNat_natCast, Int.toNat_natCast, getN h3, getN h4, this]
      show (bld d f (k + 1) (rowB d x[k] x).1 (out.1 ++ [(rowB d x[k] x).2], out.2 ++ [d.2.getD x[k].toNat 0])).map (·.2) = (bld b f (k + 1) (rowB b y[k] y).1 (out.1 ++ [(rowB b y[k] y).2], out.2 ++ [b.2.getD y[k].toNat 0])).map (·.2)
      have e2 : (rowB d x[k] x).2 = (rowB b y[k] y).2 := g2
      rw [ha, e2]
      exact ih (k + 1) _ _ _ g1 (rowB_ok o A).1.all (rowB_ok o2 A2).1.all
    · rw [List.getElem?_eq_none (by omega), List.getElem?_eq_none (by rw [← T.1]; omega)]
      rfl

theorem bld_eq {d b : Dfa} (o : Okd d) (o2 : Okd b) (h : SemEq d 0 b 0) : (bldF d).2 = (bldF b).2 := by
  have := bld_twins o o2 2100 0 [0] [0] ([], []) ⟨rfl, fun i hi => by
    have : i = 0 := by simp at hi; omega
    subst this; exact h⟩ (start_all o).a (start_all o2).a
  rw [(bldF_ok o).1, (bldF_ok o2).1] at this
  exact Option.some.inj this

theorem bld_again {d : Dfa} (o : Okd d) : (bldF (bldF d).2).2 = (bldF d).2 := bld_eq (bld_okd o) o (bld_same o)

/-- Its states are not alike, and not dead but a lone one. -/
theorem bld_part {d : Dfa} (o : Okd d) {i j : Nat} (hi : i < (bldF d).2.1.length) (hj : j < (bldF d).2.1.length) (h : SemEq (bldF d).2 (i : Int) (bldF d).2 (j : Int)) : i = j := by
  obtain ⟨_, B⟩ := bldF_ok o
  rw [B.l1] at hi hj
  exact B.a.one i j hi hj fun w hw => by rw [← bld_sem o w hw i hi, ← bld_sem o w hw j hj]; exact h w hw

end
end Go.Proofs.YtjmnjimlkljhjaaV

/- Build: the document's way. -/
set_option linter.unusedVariables false
set_option maxRecDepth 100000
namespace Go.Proofs.YtjmnjimlkljhjaaV
open Go Go.Proofs
attribute [local irreducible] cs nx

theorem s2800 (c to : Int) (l : List Move) (hl : l.length ≤ 1000000) (hb : ∀ m ∈ l, 0 ≤ m.2.1 ∧ m.2.1 ≤ 255) (hc : 0 ≤ c ∧ c ≤ 255) : S 2800 ((c, to, ()), l, ()) ((), layM c c to l, ()) := by
  refine r2800 _ _ _ ?_
  rcases snoc_cases l with rfl | ⟨l0, m, rfl⟩
  · rw [layM_nil]
    have h1 : ¬ (((([] : List Move).length : Nat) : Int) > 0) := by simp
    have h2 : ((([] : List Move).length + [((c, c, to) : Move)].length) * 16 ≤ 140737488355328) := by simp
    simp only [t28, wp_ite, wp_chk, wp_ret, h1, h2, decide_true, decide_false, Bool.not_false, Bool.true_or, Bool.false_and, Bool.false_eq_true, if_false, true_and]
    rfl
  · have hm := hb m (by simp)
    have hn : (l0 ++ [m]).length = l0.length + 1 := by simp
    have hw : IntKind.wrap IntKind.i64 (((l0 ++ [m]).length : Int) - 1) = (l0.length : Int) := by rw [hn, w64 (by omega)]; omega
    have h1 : ((l0 ++ [m]).length : Int) > 0 := by omega
    have h2 : (0 : Int) ≤ (l0.length : Int) := by omega
    have h3 : (l0.length : Int) < ((l0 ++ [m]).length : Int) := by omega
    have hg : (l0 ++ [m]).getD l0.length (0, 0, 0) = m := getApp1 l0 m (0, 0, 0)
    have hw1 : IntKind.wrap IntKind.i64 m.2.1 = m.2.1 := w64 (by omega)
    have hw2 : IntKind.wrap IntKind.i64 c = c := w64 (by omega)
    have hw3 : IntKind.wrap IntKind.i64 (c - 1) = c - 1 := w64 (by omega)
    have h4 : (0 + (l0 ++ [m]).length) * 16 ≤ 140737488355328 := by omega
    have h5 : ((l0 ++ [m]).length + [((c, c, to) : Move)].length) * 16 ≤ 140737488355328 := by rw [List.length_singleton]; omega
    rw [layM_snoc]
    simp only [t28, wp_ite, wp_chk, wp_ret, hw, Int.toNat_natCast, hg, hw1, hw2, hw3, h1, h2, h3, h4, h5, List.nil_append, decide_true, Bool.true_and, Bool.not_true, Bool.or_true, true_and]
    by_cases h : m.2.2 = to ∧ m.2.1 + 1 = c
    · have e1 : (m.2.2 == to && m.2.1 == c - 1) = true := by rw [Bool.and_eq_true, beq_iff_eq, beq_iff_eq]; exact ⟨h.1, by omega⟩
      rw [if_pos h, if_pos e1]
      have e2 : (l0 ++ [m]).set l0.length (m.1, c, m.2.2) = l0 ++ [(m.1, c, m.2.2)] := by
        have := set_snoc l0 m (m.1, c, m.2.2)
        rw [hn, Nat.add_sub_cancel] at this
        exact this
      rw [e2]
    · have e1 : ¬ (m.2.2 == to && m.2.1 == c - 1) = true := by
        rw [Bool.and_eq_true, beq_iff_eq, beq_iff_eq]; exact fun k => h ⟨k.1, by omega⟩
      rw [if_neg h, if_neg e1]

section
open Classical
variable (ms : List (List Move)) (ac : List Int)

/-- What is asked of the classes. -/
structure ClsOk (cl : List Int) : Prop where
  len : cl.length = ms.length
  iff : ∀ u v, u < ms.length → v < ms.length → (cl.getD u 0 = cl.getD v 0 ↔ SemEq (ms, ac) (u : Int) (ms, ac) (v : Int))

noncomputable def fndI (t : Int) (all : List Int) : Int := match fnd (ms, ac) t all with | none => -1 | some i => (i : Int)

theorem s1903 (ok : Okd (ms, ac)) (cl : List Int) (hc : ClsOk ms ac cl) (dead : List Bool) (x2 x3 : Int) (u : Nat) (hu : u < ms.length) (j1 : List (List Move)) (j2 : List Int) (all : List Int) (A : AllOk (ms, ac) all) (mv : List (List Move)) (acc : List Int) (row : List Move) :
    ∀ k i (to : Int), i + k = all.length → ((to = -1 ∧ ∀ j, j < i → ¬ SemEq (ms, ac) (all.getD j 0) (ms, ac) (u : Int)) ∨ ∃ j, j < i ∧ SemEq (ms, ac) (all.getD j 0) (ms, ac) (u : Int) ∧ to = (j : Int)) →
    S 1903 ((dead, cl, x2, x3, (u : Int), to, (all.length : Int), (i : Int), ()), (ms, ac, ()), (), j1, j2, all, (), mv, acc, row, ()) ((dead, cl, x2, x3, (u : Int), fndI ms ac (u : Int) all, ()), (ms, ac, ()), (), j1, j2, all, (), mv, acc, row, ()) := by
  have hle := A.le
  have two : ms.length ≤ 2000 := ok.two
  have hle' : all.length ≤ ms.length := hle
  intro k
  induction k with
  | zero =>
    intro i to hi h
    have e : i = all.length := by omega
    subst e
    have ef : fndI ms ac (u : Int) all = to := by
      unfold fndI
      rcases h with ⟨rfl, h⟩ | ⟨j, hj, hs, rfl⟩
      · cases hf : fnd (ms, ac) (u : Int) all with
        | none => rfl
        | some i => exact absurd (fnd_some hf).2 (h i (fnd_some hf).1)
      · rw [A.fnd_iff hj hs]
    rw [ef]
    refine r1903 _ _ _ _ _ _ _ _ _ _ _ _ _ _ _ _ ?_
    have h1 : ¬ ((all.length : Int) < (all.length : Int)) := by omega
    simp only [l19_2, wp_ite, h1, decide_false, Bool.false_eq_true, if_false, wp_ret]
    rfl
  | succ k ih =>
    intro i to hi h
    have hlt : i < all.length := by omega
    obtain ⟨v, hv, hvl⟩ := A.get hlt
    have hvl' : v < ms.length := hvl
    have hcl := hc.len
    have h1 : (i : Int) < (all.length : Int) := by omega
    have h0 : (0 : Int) ≤ (i : Int) := by omega
    have h2 : (0 : Int) ≤ (v : Int) := by omega
    have h3 : (v : Int) < (cl.length : Int) := by omega
    have h4 : (0 : Int) ≤ (u : Int) := by omega
    have h5 : (u : Int) < (cl.length : Int) := by omega
    have hw := wsucc hlt (show all.length ≤ 1000000 by omega)
    have hiff := hc.iff v u hvl' hu
    rw [← hv] at hiff
    refine r1903 _ _ _ _ _ _ _ _ _ _ _ _ _ _ _ _ ?_
    have hstep : ∀ b : Bool, (b = true ↔ SemEq (ms, ac) (all.getD i 0) (ms, ac) (u : Int)) → S 1903 ((dead, cl, x2, x3, (u : Int), (if b = true then (i : Int) else to), (all.length : Int), ((i + 1 : Nat) : Int), ()), (ms, ac, ()), (), j1, j2, all, (), mv, acc, row, ()) ((dead, cl, x2, x3, (u : Int), fndI ms ac (u : Int) all, ()), (ms, ac, ()), (), j1, j2, all, (), mv, acc, row, ()) := by
      intro b hb
      refine ih (i + 1) _ (by omega) ?_
      by_cases hs : SemEq (ms, ac) (all.getD i 0) (ms, ac) (u : Int)
      · rw [if_pos (hb.2 hs)]
        exact .inr ⟨i, by omega, hs, rfl⟩
      · rw [if_neg (fun k => hs (hb.1 k))]
        rcases h with ⟨rfl, h⟩ | ⟨j, hj, hs', rfl⟩
        · refine .inl ⟨rfl, fun j hj => ?_⟩
          rcases Nat.lt_or_ge j i with h6 | h6
          · exact h j h6
          · rw [show j = i by omega]; exact hs
        · exact .inr ⟨j, by omega, hs', rfl⟩
    have := hstep (cl.getD v 0 == cl.getD u 0) (by rw [beq_iff_eq]; exact hiff)
    simp only [l19_2, wp_ite, wp_chk, wp_ret, Int.toNat_natCast, hv, h1, h0, h2, h3, h4, h5, decide_true, if_true, true_and, hw]
    by_cases hb : (cl.getD v 0 == cl.getD u 0) = true
    · rw [if_pos hb] at this ⊢
      exact this
    · rw [if_neg hb] at this ⊢
      exact this

theorem row_len {d : Dfa} {s : Int} {c : Nat} {st : BSt} (o : Okd d) (hc : c ≤ 256) (R : RowInv d s c st) : st.2.length ≤ 256 := by
  have := okL_len R.ok (fun m hm => by
    have h1 := R.hi m hm
    have h2 := R.ty m hm
    have h3 := okL_lo R.ok m hm
    have h4 := R.all.le
    have h5 := o.two
    exact ⟨h2.1, by omega, h2.2, by omega, by omega, by omega⟩) (by omega)
  omega

theorem dead_get (ok : Okd (ms, ac)) {s c : Int} : (decide (nx ms s c < 0) || (deadF (ms, ac)).getD (nx ms s c).toNat false) = decide (DeadS (ms, ac) (nx ms s c)) := by
  have dl : (deadF (ms, ac)).length = ms.length := deadF_len (ms, ac)
  rcases nx_cases ok s c with h | ⟨u, h, hu⟩
  · have h : nx ms s c = -1 := h
    rw [h, decide_eq_true (dead_neg (ms, ac))]
    rfl
  · have h : nx ms s c = (u : Int) := h
    have hg : (deadF (ms, ac)).getD u false = decide (DeadS (ms, ac) (u : Int)) := deadF_at (ms, ac) hu
    rw [h, Int.toNat_natCast, hg]
    have : ¬ ((u : Int) < 0) := by omega
    rw [decide_eq_false this, Bool.false_or]

theorem s1902 (ok : Okd (ms, ac)) (ty : TyD (ms, ac)) (cl : List Int) (hc : ClsOk ms ac cl) (s : Int) (k0 : Nat) (j1 : List (List Move)) (j2 : List Int) (mv : List (List Move)) (acc : List Int) :
    ∀ k c (st : BSt), c + k = 256 → RowInv (ms, ac) s c st → k0 < st.1.length → st.1.getD k0 0 = s →
    S 1902 ((deadF (ms, ac), cl, (k0 : Int), (c : Int), ()), (ms, ac, ()), (), j1, j2, st.1, (), mv, acc, st.2, ()) ((deadF (ms, ac), cl, (k0 : Int), ()), (ms, ac, ()), (), j1, j2, (bF (ms, ac) s c k st).1, (), mv, acc, (bF (ms, ac) s c k st).2, ()) := by
  have hml : ∀ l ∈ ms, l.length ≤ 1000000 := fun l hl => by have := ok.mvlen ty l hl; omega
  have dl : (deadF (ms, ac)).length = ms.length := deadF_len (ms, ac)
  have two : ms.length ≤ 2000 := ok.two
  intro k
  induction k with
  | zero =>
    intro c st hck R hk hs
    refine r1902 _ _ _ _ _ _ _ _ _ _ _ _ ?_
    have h1 : ¬ ((c : Int) < 256) := by omega
    simp only [l19_1, wp_ite, h1, decide_false, Bool.false_eq_true, if_false, wp_ret]
    rfl
  | succ k ih =>
    intro c st hck R hk hs
    obtain ⟨R1, r, e1⟩ := R.step ok
    have hk1 : k0 < (mstep (ms, ac) (nx ms s (c : Int)) (c : Int) (c : Int) st).1.length := by
      have e1 : (mstep (ms, ac) (nx ms s (c : Int)) (c : Int) (c : Int) st).1 = st.1 ++ r := e1
      rw [e1, List.length_append]; omega
    have hs1 : (mstep (ms, ac) (nx ms s (c : Int)) (c : Int) (c : Int) st).1.getD k0 0 = s := by
      have e1 : (mstep (ms, ac) (nx ms s (c : Int)) (c : Int) (c : Int) st).1 = st.1 ++ r := e1
      rw [e1, getApp _ _ hk]; exact hs
    have hrest := ih (c + 1) _ (by omega) R1 hk1 hs1
    have hbf : bF (ms, ac) s c (k + 1) st = bF (ms, ac) s (c + 1) k (mstep (ms, ac) (nx ms s (c : Int)) (c : Int) (c : Int) st) := rfl
    rw [hbf]
    have hle : st.1.length ≤ ms.length := R.all.le
    have hrl := row_len ok (show c ≤ 256 by omega) R
    have h1 : (c : Int) < 256 := by omega
    have h2 : (0 : Int) ≤ (k0 : Int) := by omega
    have h3 : (k0 : Int) < (st.1.length : Int) := by omega
    have hu8 : IntKind.wrap IntKind.u8 (c : Int) = (c : Int) := IntWalk.u8_in _ (by omega)
    have hw : IntKind.wrap IntKind.i64 ((c : Int) + 1) = ((c + 1 : Nat) : Int) := by rw [w64 (by omega)]; omega
    have hx := nx_cases ok s (c : Int)
    have h4 : (decide (nx ms s (c : Int) < 0) || decide (0 ≤ nx ms s (c : Int))) = true := by
      rw [← Bool.decide_or, decide_eq_true_eq]; omega
    have h5 : (decide (nx ms s (c : Int) < 0) || decide (nx ms s (c : Int) < ((deadF (ms, ac)).length : Int))) = true := by
      rw [← Bool.decide_or, decide_eq_true_eq]
      rcases hx with h | ⟨u, h, hu⟩
      · left; have h : nx ms s (c : Int) = -1 := h; omega
      · right; have h : nx ms s (c : Int) = (u : Int) := h; have hu : u < ms.length := hu; omega
    refine r1902 _ _ _ _ _ _ _ _ _ _ _ _ ?_
    simp only [l19_1, wp_ite, wp_chk, Int.toNat_natCast, hs, h1, h2, h3, hu8, decide_true, if_true, true_and, wp_act]
    refine ⟨_, s2700 ms ac s (c : Int) hml, ?_⟩
    simp only [wp_ite, wp_chk, wp_ret, h4, h5, true_and, dead_get ms ac ok]
    by_cases hd : DeadS (ms, ac) (nx ms s (c : Int))
    · have em : mstep (ms, ac) (nx ms s (c : Int)) (c : Int) (c : Int) st = st := by unfold mstep; rw [if_pos hd]
      rw [em] at hrest ⊢
      simp only [hd, decide_true, if_true, hw]
      exact hrest
    · simp only [hd, decide_false, Bool.false_eq_true, if_false, wp_act]
      rcases hx with h | ⟨u, hu, hul⟩
      · have h : nx ms s (c : Int) = -1 := h
        rw [h] at hd; exact absurd (dead_neg _) hd
      · have hu : nx ms s (c : Int) = (u : Int) := hu
        have hul : u < ms.length := hul
        rw [hu] at hd hrest ⊢
        have hb := s1903 ms ac ok cl hc (deadF (ms, ac)) (k0 : Int) (c : Int) u hul j1 j2 st.1 R.all mv acc st.2 st.1.length 0 (-1) (by omega) (.inl ⟨rfl, fun j hj => by omega⟩)
        refine ⟨_, hb, ?_⟩
        have hty : ∀ m ∈ st.2, 0 ≤ m.2.1 ∧ m.2.1 ≤ 255 := fun m hm => by
          have := R.hi m hm
          have := R.ty m hm
          omega
        cases hf : fnd (ms, ac) (u : Int) st.1 with
        | none =>
          have ei : fndI ms ac (u : Int) st.1 = -1 := by unfold fndI; rw [hf]
          have em : mstep (ms, ac) (u : Int) (c : Int) (c : Int) st = (st.1 ++ [(u : Int)], layM (c : Int) (c : Int) (st.1.length : Int) st.2) := by unfold mstep; rw [if_neg hd, hf]
          rw [em] at hrest ⊢
          have h6 : ((-1 : Int) < 0) := by omega
          have h7 : (st.1.length + [(u : Int)].length) * 8 ≤ 140737488355328 := by rw [List.length_singleton]; omega
          simp only [ei, wp_ite, wp_chk, h6, h7, decide_true, if_true, true_and, wp_act, hu8, hw]
          exact ⟨_, s2800 (c : Int) (st.1.length : Int) st.2 (by omega) hty ⟨by omega, by omega⟩, hrest⟩
        | some i =>
          have ei : fndI ms ac (u : Int) st.1 = (i : Int) := by unfold fndI; rw [hf]
          have em : mstep (ms, ac) (u : Int) (c : Int) (c : Int) st = (st.1, layM (c : Int) (c : Int) (i : Int) st.2) := by unfold mstep; rw [if_neg hd, hf]
          rw [em] at hrest ⊢
          have h6 : ¬ ((i : Int) < 0) := by omega
          simp only [ei, wp_ite, wp_chk, h6, decide_false, Bool.false_eq_true, if_false, wp_act, hu8, hw]
          exact ⟨_, s2800 (c : Int) (i : Int) st.2 (by omega) hty ⟨by omega, by omega⟩, hrest⟩

theorem s1901 (ok : Okd (ms, ac)) (ty : TyD (ms, ac)) (cl : List Int) (hc : ClsOk ms ac cl) (j1 : List (List Move)) (j2 : List Int) :
    ∀ f k (all : List Int) (out : Dfa) (r : List Int × Dfa), BInv (ms, ac) k all out → bld (ms, ac) f k all out = some r →
    S 1901 ((deadF (ms, ac), cl, (k : Int), ()), (ms, ac, ()), (), j1, j2, all, (), out.1, out.2, ()) ((), (), j1, j2, (), r.2.1, r.2.2, ()) := by
  have two : ms.length ≤ 2000 := ok.two
  have ol : ac.length = ms.length := ok.len
  intro f
  induction f with
  | zero => intro k all out r B h; cases h
  | succ f ih =>
    intro k all out r B h
    have hle : all.length ≤ ms.length := B.a.le
    have hkl := B.kl
    simp only [bld] at h
    refine r1901 _ _ _ _ _ _ _ _ _ _ ?_
    cases hq : all[k]? with
    | none =>
      rw [hq] at h
      have h : some (all, out) = some r := h
      cases h
      have hge := List.getElem?_eq_none_iff.1 hq
      have h1 : ¬ ((k : Int) < (all.length : Int)) := by omega
      simp only [l19_0, wp_ite, h1, decide_false, Bool.false_eq_true, if_false, wp_ret]
      rfl
    | some s =>
      rw [hq] at h
      have h : bld (ms, ac) f (k + 1) (rowB (ms, ac) s all).1 (out.1 ++ [(rowB (ms, ac) s all).2], out.2 ++ [ac.getD s.toNat 0]) = some r := h
      obtain ⟨hlt, hse⟩ := List.getElem?_eq_some_iff.1 hq
      have hsg : all.getD k 0 = s := by rw [getN hlt]; exact hse
      have B2 := B.step ok hq
      obtain ⟨R, rr, e⟩ := rowB_ok ok (s := s) B.a
      have R0 : RowInv (ms, ac) s 0 (all, []) := ⟨B.a, rfl, fun m hm => (by cases hm), fun m hm => (by cases hm), fun c' h => by omega⟩
      have hb := s1902 ms ac ok ty cl hc s k j1 j2 out.1 out.2 256 0 (all, []) (by omega) R0 hlt hsg
      have h1 : (k : Int) < (all.length : Int) := by omega
      simp only [l19_0, wp_ite, h1, decide_true, if_true, wp_act]
      refine ⟨_, hb, ?_⟩
      have e : (bF (ms, ac) s 0 256 (all, [])).1 = all ++ rr := e
      have hk2 : k < (bF (ms, ac) s 0 256 (all, [])).1.length := by rw [e, List.length_append]; omega
      have hg2 : (bF (ms, ac) s 0 256 (all, [])).1.getD k 0 = s := by rw [e, getApp _ _ hlt]; exact hsg
      obtain ⟨u, hu, hul⟩ := B.a.get hlt
      have hul : u < ms.length := hul
      rw [hsg] at hu
      have l1 := B.l1
      have l2 := B.l2
      have h2 : (out.1.length + [(bF (ms, ac) s 0 256 (all, [])).2].length) * 24 ≤ 140737488355328 := by rw [List.length_singleton]; omega
      have h3 : (0 : Int) ≤ (k : Int) := by omega
      have h4 : (k : Int) < ((bF (ms, ac) s 0 256 (all, [])).1.length : Int) := by omega
      have h5 : (0 : Int) ≤ s := by omega
      have h6 : s < (ac.length : Int) := by omega
      have h7 : (out.2.length + [ac.getD s.toNat 0].length) * 8 ≤ 140737488355328 := by rw [List.length_singleton]; omega
      have hw : IntKind.wrap IntKind.i64 ((k : Int) + 1) = ((k + 1 : Nat) : Int) := by rw [w64 (by omega)]; omega
      simp only [wp_chk, wp_ret, Int.toNat_natCast, hg2, h2, h3, h4, h5, h6, h7, decide_true, true_and, hw]
      exact ih (k + 1) _ _ r B2 h

/-- What Build comes to. -/
noncomputable def buF (d : Dfa) : Dfa × Int := if okA d = true then ((bldF d).2, 0) else (([], []), 30)

theorem clsOk (ok : Okd (ms, ac)) {l : List Int} (N : Numbered (semN (ms, ac)) ms.length l) : ClsOk ms ac l :=
  ⟨N.len, fun u v hu hv => N.iff (semN_eqv (ms, ac) ms.length) hu hv⟩

end
end Go.Proofs.YtjmnjimlkljhjaaV

/- Build: the program's way; both come to one. -/
set_option linter.unusedVariables false
set_option maxRecDepth 100000
namespace Go.Proofs.YtjmnjimlkljhjaaV
open Go Go.Proofs
attribute [local irreducible] cs nx

section
open Classical

theorem firsts_eq {R : Nat → Nat → Prop} {n r q : Nat} (E : Eqv R n) (hr : r < n) (hq : q < n) (f1 : first R r) (f2 : first R q) (h : R r q) : r = q := by
  rcases Nat.lt_trichotomy r q with k | k | k
  · exact absurd h (f2 r k)
  · exact k
  · exact absurd (E.symm r q hr hq h) (f1 q k)

theorem num_exists {R : Nat → Nat → Prop} {n : Nat} (E : Eqv R n) : ∃ l, Numbered R n l := by
  have hex : ∀ s, s < n → ∃ r, r ≤ s ∧ first R r ∧ R r s := has_first E
  let rep : Nat → Nat := fun s => if h : s < n then (hex s h).choose else 0
  have hrep : ∀ s, s < n → rep s ≤ s ∧ first R (rep s) ∧ R (rep s) s := fun s hs => by
    show (if h : s < n then (hex s h).choose else 0) ≤ s ∧ first R (if h : s < n then (hex s h).choose else 0) ∧ R (if h : s < n then (hex s h).choose else 0) s
    rw [dif_pos hs]
    exact (hex s hs).choose_spec
  refine ⟨(List.range n).map fun s => (cnt R (rep s) : Int), by simp, fun s hs hf => ?_, fun s t hs ht hr => ?_⟩
  · have hg : ((List.range n).map fun s => (cnt R (rep s) : Int)).getD s 0 = (cnt R (rep s) : Int) := by
      simp [List.getD_eq_getElem?_getD, hs]
    obtain ⟨h1, h2, h3⟩ := hrep s hs
    rw [hg, firsts_eq E (by omega) hs h2 hf h3]
  · have hg : ∀ s, s < n → ((List.range n).map fun s => (cnt R (rep s) : Int)).getD s 0 = (cnt R (rep s) : Int) := fun s hs => by
      simp [List.getD_eq_getElem?_getD, hs]
    have htn : t < n := by omega
    obtain ⟨h1, h2, h3⟩ := hrep s hs
    obtain ⟨g1, g2, g3⟩ := hrep t htn
    rw [hg s hs, hg t htn]
    have hrs : R (rep s) (rep t) := E.trans _ s _ (by omega) hs (by omega) h3 (E.symm _ _ (by omega) hs (E.trans _ t _ (by omega) htn hs g3 hr))
    rw [firsts_eq E (by omega) (by omega) h2 g2 hrs]

theorem classF_num (d : Dfa) : Numbered (semN d) d.1.length (classF d) := by
  have h := num_exists (semN_eqv d d.1.length)
  obtain ⟨l, N⟩ := h
  rw [classF_eq d N]
  exact N

theorem classF_len (d : Dfa) : (classF d).length = d.1.length := (classF_num d).len

variable (ms : List (List Move)) (ac : List Int)

theorem clsOkF (ok : Okd (ms, ac)) : ClsOk ms ac (classF (ms, ac)) := clsOk ms ac ok (classF_num (ms, ac))

theorem s1900 (h : ms.length ≤ 1000000) (h2 : ∀ l ∈ ms, l.length ≤ 1000000) (ty : TyD (ms, ac)) : S 1900 (((ms, ac), ()), ()) ((((buF (ms, ac)).1.1, (buF (ms, ac)).1.2), (buF (ms, ac)).2, ()), ()) := by
  refine r1900 _ _ ?_
  simp only [t19, wp_act]
  refine ⟨_, s1200 ms ac h h2 ty.1, ?_⟩
  simp only [wp_ite]
  by_cases h1 : okA (ms, ac) = true
  · have ok := okA_okd h1
    have eb : buF (ms, ac) = ((bldF (ms, ac)).2, 0) := by unfold buF; rw [if_pos h1]
    rw [if_pos h1, eb]
    have e1 : ((0 : Int) != 0) = false := rfl
    simp only [e1, Bool.false_eq_true, if_false, wp_act]
    refine ⟨_, s1400 ms ac ok ty, _, s1700 ms ac ok ty, ?_⟩
    have hb := s1901 ms ac ok ty (classF (ms, ac)) (clsOkF ms ac ok) [] [] 2100 0 [0] ([], []) _ (start_all ok) (bldF_ok ok).1
    refine ⟨_, hb, ?_⟩
    rfl
  · have eb : buF (ms, ac) = (([], []), 30) := by unfold buF; rw [if_neg h1]
    rw [if_neg h1, eb]
    have e3 : ((30 : Int) != 0) = true := rfl
    simp only [e3, if_true]
    rfl

/-! ### a move at a time -/
noncomputable def mF (d : Dfa) (l : List Move) (st : BSt) : BSt := l.foldl (fun st m => mstep d m.2.2 m.1 m.2.1 st) st

theorem bF_add (d : Dfa) (s : Int) : ∀ (a c b : Nat) (st : BSt), bF d s c (a + b) st = bF d s (c + a) b (bF d s c a st) := by
  intro a
  induction a with
  | zero => intro c b st; rw [Nat.zero_add, Nat.add_zero]; rfl
  | succ a ih =>
    intro c b st
    rw [show a + 1 + b = (a + b) + 1 by omega]
    show bF d s (c + 1) (a + b) _ = bF d s (c + (a + 1)) b (bF d s (c + 1) a _)
    rw [ih, show c + 1 + a = c + (a + 1) by omega]

theorem bF_none (d : Dfa) (s : Int) : ∀ (k c : Nat) (st : BSt), (∀ i : Nat, c ≤ i → i < c + k → nx d.1 s (i : Int) = -1) → bF d s c k st = st := by
  intro k
  induction k with
  | zero => intro c st _; rfl
  | succ k ih =>
    intro c st h
    show bF d s (c + 1) k (mstep d (nx d.1 s (c : Int)) (c : Int) (c : Int) st) = st
    rw [h c (Nat.le_refl _) (by omega)]
    have : mstep d (-1) (c : Int) (c : Int) st = st := by unfold mstep; rw [if_pos (dead_neg d)]
    rw [this]
    exact ih (c + 1) st fun i h1 h2 => h i (by omega) (by omega)

theorem fnd_app (d : Dfa) (t x : Int) : ∀ (l : List Int), fnd d t (l ++ [x]) = match fnd d t l with | some i => some i | none => if SemEq d x d t then some l.length else none := by
  intro l
  induction l with
  | nil =>
    simp only [List.nil_append, fnd]
    rfl
  | cons a l ih =>
    rw [List.cons_append]
    simp only [fnd]
    by_cases h : SemEq d a d t
    · rw [if_pos h, if_pos h]
    · rw [if_neg h, if_neg h, ih]
      cases fnd d t l with
      | some i => rfl
      | none =>
        show Option.map (· + 1) (if SemEq d x d t then some l.length else none) = if SemEq d x d t then some (a :: l).length else none
        by_cases hx : SemEq d x d t
        · rw [if_pos hx, if_pos hx]; rfl
        · rw [if_neg hx, if_neg hx]; rfl

theorem bF_run (d : Dfa) (s t : Int) : ∀ (j lo : Nat) (st : BSt), (∀ i : Nat, lo ≤ i → i ≤ lo + j → nx d.1 s (i : Int) = t) → bF d s lo (j + 1) st = mstep d t (lo : Int) ((lo + j : Nat) : Int) st := by
  intro j
  induction j with
  | zero =>
    intro lo st h
    show mstep d (nx d.1 s (lo : Int)) (lo : Int) (lo : Int) st = _
    rw [h lo (Nat.le_refl _) (by omega)]
    rfl
  | succ j ih =>
    intro lo st h
    rw [bF_add d s (j + 1) lo 1 st, ih lo st fun i h1 h2 => h i h1 (by omega)]
    show mstep d (nx d.1 s ((lo + (j + 1) : Nat) : Int)) ((lo + (j + 1) : Nat) : Int) ((lo + (j + 1) : Nat) : Int) (mstep d t (lo : Int) ((lo + j : Nat) : Int) st) = mstep d t (lo : Int) ((lo + (j + 1) : Nat) : Int) st
    rw [h _ (by omega) (Nat.le_refl _)]
    have e : ((lo + (j + 1) : Nat) : Int) = ((lo + j : Nat) : Int) + 1 := by omega
    rw [e]
    unfold mstep
    by_cases hd : DeadS d t
    · rw [if_pos hd, if_pos hd, if_pos hd]
    · rw [if_neg hd, if_neg hd, if_neg hd]
      cases hf : fnd d t st.1 with
      | none =>
        have h2 : fnd d t (st.1 ++ [t]) = some st.1.length := by rw [fnd_app, hf]; exact if_pos (SemEq.refl d t)
        simp only [h2]
        rw [layM_ext]
      | some i =>
        simp only [hf]
        rw [layM_ext]

theorem bF_moves (d : Dfa) (s : Int) {n : Int} : ∀ (l : List Move) (e t : Int) (c k : Nat) (st : BSt), okL n e t l = true → (∀ m ∈ l, TyM m) → (c : Int) = e + 1 → c + k = 256 → (∀ i : Nat, c ≤ i → i < 256 → nx d.1 s (i : Int) = nxL (i : Int) l) → bF d s c k st = mF d l st := by
  intro l
  induction l with
  | nil =>
    intro e t c k st _ _ _ hk h
    exact bF_none d s k c st fun i h1 h2 => h i h1 (by omega)
  | cons m l ih =>
    intro e t c k st hok hty hc hk h
    have hm := okL_lo hok m (by simp)
    have ht := hty m (by simp)
    obtain ⟨t1, t2, t3, t4, _, _⟩ := ht
    have hok' := hok
    simp only [okL, Bool.and_eq_true] at hok'
    obtain ⟨lo, hlo⟩ : ∃ x : Nat, m.1 = (x : Int) := ⟨m.1.toNat, by omega⟩
    obtain ⟨hi, hhi⟩ : ∃ x : Nat, m.2.1 = (x : Int) := ⟨m.2.1.toNat, by omega⟩
    have hall : ∀ x ∈ l, m.2.1 < x.1 := fun x hx => (okL_lo hok'.2 x hx).1
    have hgap : ∀ (l : List Move) (i : Nat), (∀ x ∈ l, (i : Int) < x.1) → nxL (i : Int) l = -1 := by
      intro l i hl
      induction l with
      | nil => rfl
      | cons y l ih2 =>
        have := hl y (by simp)
        simp only [nxL]
        rw [if_neg (by omega)]
        exact ih2 fun x hx => hl x (by simp [hx])
    have e1 : k = (lo - c) + ((hi - lo) + 1 + (255 - hi)) := by omega
    rw [e1, bF_add, bF_none d s (lo - c) c st fun i h1 h2 => by
      rw [h i h1 (by omega)]
      exact hgap (m :: l) i fun x hx => by
        rcases List.mem_cons.1 hx with rfl | hx
        · omega
        · have := hall x hx; omega]
    rw [show c + (lo - c) = lo by omega, bF_add, bF_run d s m.2.2 (hi - lo) lo st fun i h1 h2 => by
      rw [h i (by omega) (by omega)]
      exact nxL_mem hok m (by simp) (by omega) (by omega)]
    rw [show lo + (hi - lo) = hi by omega, show lo + (hi - lo + 1) = hi + 1 by omega]
    have := ih m.2.1 m.2.2 (hi + 1) (255 - hi) (mstep d m.2.2 (lo : Int) (hi : Int) st) hok'.2 (fun x hx => hty x (by simp [hx])) (by omega) (by omega) (fun i h1 h2 => by
      rw [h i (by omega) h2]
      simp only [nxL]
      rw [if_neg (by omega)])
    rw [this]
    show mF d l (mstep d m.2.2 (lo : Int) (hi : Int) st) = mF d l (mstep d m.2.2 m.1 m.2.1 st)
    rw [hlo, hhi]

/-- What the map of classes holds. -/
def NumOk (cl : List Int) (num : List (Int × Int)) (all : List Int) : Prop := ∀ u, u < ms.length → lkp (eqEl tI) (cl.getD u 0) num = (fnd (ms, ac) (u : Int) all).map fun (i : Nat) => (i : Int)

theorem eqI (a b : Int) : eqEl tI a b = true ↔ a = b := by
  show (a == b) = true ↔ _
  exact beq_iff_eq

theorem lkp_putI (n m v : Int) (l : List (Int × Int)) : lkp (eqEl tI) n (putKV (eqEl tI) m v l) = if n = m then some v else lkp (eqEl tI) n l := by
  rw [lkp_putG (eq := eqEl tI) (fun a => (eqI a a).2 rfl) (fun a b h => (eqI b a).2 ((eqI a b).1 h).symm) (fun a b c h k => (eqI a c).2 (((eqI a b).1 h).trans ((eqI b c).1 k)))]
  by_cases h : n = m
  · rw [if_pos h, if_pos ((eqI n m).2 h)]
  · rw [if_neg h, if_neg (fun k => h ((eqI n m).1 k))]

theorem NumOk.add {cl : List Int} (hc : ClsOk ms ac cl) {num : List (Int × Int)} {all : List Int} (N : NumOk ms ac cl num all) {u : Nat} (hu : u < ms.length) (hf : fnd (ms, ac) (u : Int) all = none) : NumOk ms ac cl (putKV (eqEl tI) (cl.getD u 0) (all.length : Int) num) (all ++ [(u : Int)]) := by
  intro v hv
  rw [lkp_putI, fnd_app, N v hv]
  by_cases h : cl.getD v 0 = cl.getD u 0
  · rw [if_pos h]
    have hs := (hc.iff v u hv hu).1 h
    have hn : fnd (ms, ac) (v : Int) all = none := by
      cases hfv : fnd (ms, ac) (v : Int) all with
      | none => rfl
      | some i =>
        obtain ⟨h1, h2⟩ := fnd_some hfv
        exact absurd (h2.trans hs) (fnd_none hf i h1)
    rw [hn]
    simp only [if_pos hs.symm, Option.map_some]
  · rw [if_neg h]
    have hs : ¬ SemEq (ms, ac) (u : Int) (ms, ac) (v : Int) := fun k => h ((hc.iff v u hv hu).2 k.symm)
    cases fnd (ms, ac) (v : Int) all with
    | some i => rfl
    | none => simp only [if_neg hs]

theorem s1802 (ok : Okd (ms, ac)) (ty : TyD (ms, ac)) (cl : List Int) (hc : ClsOk ms ac cl) (x2 x3 : Int) (s : Nat) (hs : s < ms.length) (j1 : List (List Move)) (j2 : List Int) (mv : List (List Move)) (acc : List Int) :
    ∀ k i (num : List (Int × Int)) (st : BSt), i + k = ms[s].length → AllOk (ms, ac) st.1 → NumOk ms ac cl num st.1 → st.2.length ≤ i → (∀ m ∈ st.2, 0 ≤ m.2.1 ∧ m.2.1 ≤ 255) →
    ∃ num', NumOk ms ac cl num' (mF (ms, ac) (ms[s].drop i) st).1 ∧
    S 1802 ((deadF (ms, ac), cl, x2, x3, ms[s], (ms[s].length : Int), (i : Int), ()), (ms, ac, ()), (), j1, j2, num, st.1, (), mv, acc, st.2, ()) ((deadF (ms, ac), cl, x2, x3, ()), (ms, ac, ()), (), j1, j2, num', (mF (ms, ac) (ms[s].drop i) st).1, (), mv, acc, (mF (ms, ac) (ms[s].drop i) st).2, ()) := by
  have two : ms.length ≤ 2000 := ok.two
  have hml : ms[s].length ≤ 256 := ok.mvlen ty _ (List.getElem_mem hs)
  have dl : (deadF (ms, ac)).length = ms.length := deadF_len (ms, ac)
  have cll := hc.len
  intro k
  induction k with
  | zero =>
    intro i num st hi A N hl hb
    rw [List.drop_eq_nil_of_le (show ms[s].length ≤ i by omega)]
    refine ⟨num, N, r1802 _ _ _ _ _ _ _ _ _ _ _ _ _ _ _ _ ?_⟩
    have h1 : ¬ (i : Int) < (ms[s].length : Int) := by omega
    simp only [l18_1, wp_ite, h1, decide_false, Bool.false_eq_true, if_false, wp_ret]
    rfl
  | succ k ih =>
    intro i num st hi A N hl hb
    have hlt : i < ms[s].length := by omega
    have h1 : (i : Int) < (ms[s].length : Int) := by omega
    have h0 : (0 : Int) ≤ (i : Int) := by omega
    have hty := ty.1 _ (List.getElem_mem hs) _ (List.getElem_mem hlt)
    obtain ⟨t1, t2, t3, t4, _, _⟩ := hty
    have hbm := okL_lo (ok.mv _ (List.getElem_mem hs)) _ (List.getElem_mem hlt)
    have hun : ms[s][i].2.2 < (ms.length : Int) := hbm.2.2.2
    obtain ⟨u, hu⟩ : ∃ x : Nat, ms[s][i].2.2 = (x : Int) := ⟨ms[s][i].2.2.toNat, by omega⟩
    have hul : u < ms.length := by omega
    have hw := wsucc hlt (show ms[s].length ≤ 1000000 by omega)
    have h2 : (0 : Int) ≤ (u : Int) := by omega
    have h3 : (u : Int) < ((deadF (ms, ac)).length : Int) := by omega
    have h4 : (u : Int) < (cl.length : Int) := by omega
    have hg : (deadF (ms, ac)).getD u false = decide (DeadS (ms, ac) (u : Int)) := deadF_at (ms, ac) hul
    rw [drop_at hlt]
    have em : mF (ms, ac) (ms[s][i] :: ms[s].drop (i + 1)) st = mF (ms, ac) (ms[s].drop (i + 1)) (mstep (ms, ac) (u : Int) ms[s][i].1 ms[s][i].2.1 st) := by rw [← hu]; rfl
    rw [em]
    by_cases hd : DeadS (ms, ac) (u : Int)
    · have es : mstep (ms, ac) (u : Int) ms[s][i].1 ms[s][i].2.1 st = st := by unfold mstep; rw [if_pos hd]
      rw [es]
      obtain ⟨num', n1, n2⟩ := ih (i + 1) num st (by omega) A N (by omega) hb
      refine ⟨num', n1, r1802 _ _ _ _ _ _ _ _ _ _ _ _ _ _ _ _ ?_⟩
      simp only [l18_1, wp_ite, wp_chk, wp_ret, Int.toNat_natCast, getN hlt, hu, h1, h0, h2, h3, hg, decide_eq_true hd, decide_true, if_true, true_and, hw]
      exact n2
    · -- what is laid, whatever the number
      have hcap : ∀ (x : Move), (st.2.length + [x].length) * 16 ≤ 140737488355328 := fun x => by rw [List.length_singleton]; omega
      have lay_len : ∀ to : Int, (layM ms[s][i].1 ms[s][i].2.1 to st.2).length ≤ i + 1 := fun to => by
        unfold layM
        split
        · rw [List.length_set]; omega
        · rw [List.length_append, List.length_singleton]; omega
      have lay_b : ∀ to : Int, ∀ m ∈ layM ms[s][i].1 ms[s][i].2.1 to st.2, 0 ≤ m.2.1 ∧ m.2.1 ≤ 255 := fun to m hm => by
        rcases snoc_cases st.2 with e | ⟨l0, x, e⟩
        · rw [e, layM_nil, List.mem_singleton] at hm
          subst hm
          exact ⟨t3, t4⟩
        · rw [e] at hb hm
          rw [layM_snoc] at hm
          split at hm
          · rcases List.mem_append.1 hm with h | h
            · exact hb m (by simp [h])
            · rw [List.mem_singleton] at h; subst h; exact ⟨t3, t4⟩
          · rcases List.mem_append.1 hm with h | h
            · exact hb m h
            · rw [List.mem_singleton] at h; subst h; exact ⟨t3, t4⟩
      have hwlo : IntKind.wrap IntKind.i64 ms[s][i].1 = ms[s][i].1 := w64 (by omega)
      cases hf : fnd (ms, ac) (u : Int) st.1 with
      | none =>
        have es : mstep (ms, ac) (u : Int) ms[s][i].1 ms[s][i].2.1 st = (st.1 ++ [(u : Int)], layM ms[s][i].1 ms[s][i].2.1 (st.1.length : Int) st.2) := by unfold mstep; rw [if_neg hd, hf]
        rw [es]
        have hnum : lkp (eqEl tI) (cl.getD u 0) num = none := by rw [N u hul, hf]; rfl
        obtain ⟨num', n1, n2⟩ := ih (i + 1) (putKV (eqEl tI) (cl.getD u 0) (st.1.length : Int) num) (st.1 ++ [(u : Int)], layM ms[s][i].1 ms[s][i].2.1 (st.1.length : Int) st.2) (by omega) (A.add hul hd hf) (N.add ms ac hc hul hf) (lay_len _) (lay_b _)
        generalize mF (ms, ac) (ms[s].drop (i + 1)) (st.1 ++ [(u : Int)], layM ms[s][i].1 ms[s][i].2.1 (st.1.length : Int) st.2) = Z at n1 n2 ⊢
        have hle : st.1.length ≤ ms.length := A.le
        have hcap2 : (st.1.length + [(u : Int)].length) * 8 ≤ 140737488355328 := by rw [List.length_singleton]; omega
        refine ⟨num', n1, r1802 _ _ _ _ _ _ _ _ _ _ _ _ _ _ _ _ ?_⟩
        simp only [l18_1, wp_ite, wp_chk, wp_ret, Int.toNat_natCast, getN hlt, hu, h1, h0, h2, h3, h4, hg, decide_eq_false hd, hnum, Option.isSome_none, Bool.not_false, hcap, hcap2, decide_true, if_true, Bool.false_eq_true, if_false, true_and, hw, hwlo]
        rcases snoc_cases st.2 with e | ⟨l0, m, e⟩
        · rw [e] at n2 ⊢
          rw [layM_nil] at n2
          have hz : ¬ (IntKind.wrap IntKind.i64 (((([] : List Move).length : Nat) : Int) - 1) ≥ 0) := by
            have : IntKind.wrap IntKind.i64 (((([] : List Move).length : Nat) : Int) - 1) = -1 := rfl
            rw [this]; omega
          simp only [hz, decide_false, Bool.false_eq_true, if_false]
          exact n2
        · rw [e] at n2 hb ⊢
          rw [layM_snoc] at n2
          have hll : st.2.length = l0.length + 1 := by rw [e]; simp
          have hm := hb m (by simp)
          have hn : (l0 ++ [m]).length = l0.length + 1 := by simp
          have hwl : IntKind.wrap IntKind.i64 (((l0 ++ [m]).length : Int) - 1) = (l0.length : Int) := by rw [hn, w64 (by omega)]; omega
          have g1 : (l0.length : Int) ≥ 0 := by omega
          have g2 : (0 : Int) ≤ (l0.length : Int) := by omega
          have g3 : (l0.length : Int) < ((l0 ++ [m]).length : Int) := by omega
          have gg : (l0 ++ [m]).getD l0.length (0, 0, 0) = m := getApp1 l0 m (0, 0, 0)
          have hw1 : IntKind.wrap IntKind.i64 m.2.1 = m.2.1 := w64 (by omega)
          have hw2 : IntKind.wrap IntKind.i64 (m.2.1 + 1) = m.2.1 + 1 := w64 (by omega)
          simp only [hwl, g1, g3, gg, hw1, hw2, Int.toNat_natCast, decide_true, if_true, true_and]
          by_cases h5 : m.2.2 = (st.1.length : Int)
          · have b5 : (m.2.2 == (st.1.length : Int)) = true := beq_iff_eq.2 h5
            simp only [b5, if_true]
            by_cases h6 : m.2.1 + 1 = ms[s][i].1
            · have b6 : (m.2.1 + 1 == ms[s][i].1) = true := beq_iff_eq.2 h6
              rw [if_pos ⟨h5, h6⟩] at n2
              have e2 : (l0 ++ [m]).set l0.length (m.1, ms[s][i].2.1, m.2.2) = l0 ++ [(m.1, ms[s][i].2.1, m.2.2)] := by
                have := set_snoc l0 m (m.1, ms[s][i].2.1, m.2.2)
                rw [hn, Nat.add_sub_cancel] at this
                exact this
              simp only [b6, if_true, e2]
              exact n2
            · have b6 : (m.2.1 + 1 == ms[s][i].1) = false := beq_eq_false_iff_ne.2 h6
              rw [if_neg (fun k => h6 k.2)] at n2
              simp only [b6, Bool.false_eq_true, if_false]
              exact n2
          · have b5 : (m.2.2 == (st.1.length : Int)) = false := beq_eq_false_iff_ne.2 h5
            rw [if_neg (fun k => h5 k.1)] at n2
            simp only [b5, Bool.false_eq_true, if_false]
            exact n2
      | some q =>
        have es : mstep (ms, ac) (u : Int) ms[s][i].1 ms[s][i].2.1 st = (st.1, layM ms[s][i].1 ms[s][i].2.1 (q : Int) st.2) := by unfold mstep; rw [if_neg hd, hf]
        rw [es]
        have hnum : lkp (eqEl tI) (cl.getD u 0) num = some (q : Int) := by rw [N u hul, hf]; rfl
        obtain ⟨num', n1, n2⟩ := ih (i + 1) num (st.1, layM ms[s][i].1 ms[s][i].2.1 (q : Int) st.2) (by omega) A N (lay_len _) (lay_b _)
        generalize mF (ms, ac) (ms[s].drop (i + 1)) (st.1, layM ms[s][i].1 ms[s][i].2.1 (q : Int) st.2) = Z at n1 n2 ⊢
        refine ⟨num', n1, r1802 _ _ _ _ _ _ _ _ _ _ _ _ _ _ _ _ ?_⟩
        simp only [l18_1, wp_ite, wp_chk, wp_ret, Int.toNat_natCast, getN hlt, hu, h1, h0, h2, h3, h4, hg, decide_eq_false hd, hnum, Option.isSome_some, Option.getD_some, Bool.not_true, hcap, decide_true, if_true, Bool.false_eq_true, if_false, true_and, hw, hwlo]
        rcases snoc_cases st.2 with e | ⟨l0, m, e⟩
        · rw [e] at n2 ⊢
          rw [layM_nil] at n2
          have hz : ¬ (IntKind.wrap IntKind.i64 (((([] : List Move).length : Nat) : Int) - 1) ≥ 0) := by
            have : IntKind.wrap IntKind.i64 (((([] : List Move).length : Nat) : Int) - 1) = -1 := rfl
            rw [this]; omega
          simp only [hz, decide_false, Bool.false_eq_true, if_false]
          exact n2
        · rw [e] at n2 hb ⊢
          rw [layM_snoc] at n2
          have hll : st.2.length = l0.length + 1 := by rw [e]; simp
          have hm := hb m (by simp)
          have hn : (l0 ++ [m]).length = l0.length + 1 := by simp
          have hwl : IntKind.wrap IntKind.i64 (((l0 ++ [m]).length : Int) - 1) = (l0.length : Int) := by rw [hn, w64 (by omega)]; omega
          have g1 : (l0.length : Int) ≥ 0 := by omega
          have g2 : (0 : Int) ≤ (l0.length : Int) := by omega
          have g3 : (l0.length : Int) < ((l0 ++ [m]).length : Int) := by omega
          have gg : (l0 ++ [m]).getD l0.length (0, 0, 0) = m := getApp1 l0 m (0, 0, 0)
          have hw1 : IntKind.wrap IntKind.i64 m.2.1 = m.2.1 := w64 (by omega)
          have hw2 : IntKind.wrap IntKind.i64 (m.2.1 + 1) = m.2.1 + 1 := w64 (by omega)
          simp only [hwl, g1, g3, gg, hw1, hw2, Int.toNat_natCast, decide_true, if_true, true_and]
          by_cases h5 : m.2.2 = (q : Int)
          · have b5 : (m.2.2 == (q : Int)) = true := beq_iff_eq.2 h5
            simp only [b5, if_true]
            by_cases h6 : m.2.1 + 1 = ms[s][i].1
            · have b6 : (m.2.1 + 1 == ms[s][i].1) = true := beq_iff_eq.2 h6
              rw [if_pos ⟨h5, h6⟩] at n2
              have e2 : (l0 ++ [m]).set l0.length (m.1, ms[s][i].2.1, m.2.2) = l0 ++ [(m.1, ms[s][i].2.1, m.2.2)] := by
                have := set_snoc l0 m (m.1, ms[s][i].2.1, m.2.2)
                rw [hn, Nat.add_sub_cancel] at this
                exact this
              simp only [b6, if_true, e2]
              exact n2
            · have b6 : (m.2.1 + 1 == ms[s][i].1) = false := beq_eq_false_iff_ne.2 h6
              rw [if_neg (fun k => h6 k.2)] at n2
              simp only [b6, Bool.false_eq_true, if_false]
              exact n2
          · have b5 : (m.2.2 == (q : Int)) = false := beq_eq_false_iff_ne.2 h5
            rw [if_neg (fun k => h5 k.1)] at n2
            simp only [b5, Bool.false_eq_true, if_false]
            exact n2

theorem s1801 (ok : Okd (ms, ac)) (ty : TyD (ms, ac)) (cl : List Int) (hc : ClsOk ms ac cl) (j1 : List (List Move)) (j2 : List Int) :
    ∀ f k (num : List (Int × Int)) (all : List Int) (out : Dfa) (r : List Int × Dfa), BInv (ms, ac) k all out → NumOk ms ac cl num all → bld (ms, ac) f k all out = some r →
    S 1801 ((deadF (ms, ac), cl, (k : Int), ()), (ms, ac, ()), (), j1, j2, num, all, (), out.1, out.2, ()) ((), (), j1, j2, (), r.2.1, r.2.2, ()) := by
  have two : ms.length ≤ 2000 := ok.two
  have ol : ac.length = ms.length := ok.len
  intro f
  induction f with
  | zero => intro k num all out r B N h; cases h
  | succ f ih =>
    intro k num all out r B N h
    have hle : all.length ≤ ms.length := B.a.le
    have hkl := B.kl
    simp only [bld] at h
    cases hq : all[k]? with
    | none =>
      rw [hq] at h
      have h : some (all, out) = some r := h
      cases h
      have hge := List.getElem?_eq_none_iff.1 hq
      have h1 : ¬ ((k : Int) < (all.length : Int)) := by omega
      refine r1801 _ _ _ _ _ _ _ _ _ _ _ ?_
      simp only [l18_0, wp_ite, h1, decide_false, Bool.false_eq_true, if_false, wp_ret]
      rfl
    | some s =>
      rw [hq] at h
      have h : bld (ms, ac) f (k + 1) (rowB (ms, ac) s all).1 (out.1 ++ [(rowB (ms, ac) s all).2], out.2 ++ [ac.getD s.toNat 0]) = some r := h
      obtain ⟨hlt, hse⟩ := List.getElem?_eq_some_iff.1 hq
      have hsg : all.getD k 0 = s := by rw [getN hlt]; exact hse
      have B2 := B.step ok hq
      obtain ⟨u, hu, hul⟩ := B.a.get hlt
      have hul : u < ms.length := hul
      rw [hsg] at hu
      subst hu
      obtain ⟨num', n1, n2⟩ := s1802 ms ac ok ty cl hc (k : Int) (u : Int) u hul j1 j2 out.1 out.2 ms[u].length 0 num (all, []) (by omega) B.a N (Nat.zero_le _) (fun m hm => by cases hm)
      have er : mF (ms, ac) (ms[u].drop 0) (all, []) = rowB (ms, ac) (u : Int) all := by
        rw [List.drop_zero]
        refine (bF_moves (ms, ac) (u : Int) ms[u] (-1) (-1) 0 256 (all, []) (ok.mv _ (List.getElem_mem hul)) (ty.1 _ (List.getElem_mem hul)) (by omega) (by omega) (fun i _ _ => nx_at hul _)).symm
      rw [er] at n1 n2
      have hS := ih (k + 1) num' _ _ r B2 n1 h
      refine r1801 _ _ _ _ _ _ _ _ _ _ _ ?_
      have l1 := B.l1
      have l2 := B.l2
      have h0 : (0 : Int) ≤ (k : Int) := by omega
      have h1 : (k : Int) < (all.length : Int) := by omega
      have h2 : (0 : Int) ≤ (u : Int) := by omega
      have h3 : (u : Int) < (ms.length : Int) := by omega
      have h4 : (u : Int) < (ac.length : Int) := by omega
      have h5 : (out.1.length + [(rowB (ms, ac) (u : Int) all).2].length) * 24 ≤ 140737488355328 := by rw [List.length_singleton]; omega
      have h7 : (out.2.length + [ac.getD u 0].length) * 8 ≤ 140737488355328 := by rw [List.length_singleton]; omega
      have hw : IntKind.wrap IntKind.i64 ((k : Int) + 1) = ((k + 1 : Nat) : Int) := by rw [w64 (by omega)]; omega
      simp only [l18_0, wp_ite, wp_chk, Int.toNat_natCast, hsg, getN hul, h0, h1, h2, h3, decide_true, if_true, true_and, wp_act]
      refine ⟨_, n2, ?_⟩
      simp only [wp_chk, wp_ret, Int.toNat_natCast, h2, h4, h5, h7, decide_true, true_and, hw]
      rw [Int.toNat_natCast] at hS
      exact hS

theorem s1800 (h : ms.length ≤ 1000000) (h2 : ∀ l ∈ ms, l.length ≤ 1000000) (ty : TyD (ms, ac)) : S 1800 (((ms, ac), ()), ()) ((((buF (ms, ac)).1.1, (buF (ms, ac)).1.2), (buF (ms, ac)).2, ()), ()) := by
  refine r1800 _ _ ?_
  simp only [t18, wp_act]
  refine ⟨_, s2600 ms ac h h2 ty.1, ?_⟩
  simp only [wp_ite]
  by_cases h1 : okA (ms, ac) = true
  · have ok := okA_okd h1
    have eb : buF (ms, ac) = ((bldF (ms, ac)).2, 0) := by unfold buF; rw [if_pos h1]
    rw [if_pos h1, eb]
    have e1 : ((0 : Int) != 0) = false := rfl
    simp only [e1, Bool.false_eq_true, if_false, wp_act]
    refine ⟨_, s1300 ms ac ok ty, _, s1600 ms ac ok ty, ?_⟩
    have cll : (classF (ms, ac)).length = ms.length := classF_len (ms, ac)
    have pos : 0 < ms.length := ok.pos
    have h3 : (0 : Int) < ((classF (ms, ac)).length : Int) := by omega
    have hc := clsOkF ms ac ok
    have N0 : NumOk ms ac (classF (ms, ac)) (putKV (eqEl tI) ((classF (ms, ac)).getD 0 0) 0 []) [0] := by
      intro u hu
      rw [lkp_putI]
      simp only [fnd]
      have hi := hc.iff u 0 hu pos
      by_cases hs : SemEq (ms, ac) 0 (ms, ac) (u : Int)
      · rw [if_pos (hi.2 hs.symm), if_pos hs]; rfl
      · rw [if_neg (fun k => hs (hi.1 k).symm), if_neg hs]; rfl
    simp only [wp_chk, h3, decide_true, true_and, wp_act]
    have hb := s1801 ms ac ok ty (classF (ms, ac)) hc [] [] 2100 0 (putKV (eqEl tI) ((classF (ms, ac)).getD 0 0) 0 []) [0] ([], []) _ (start_all ok) N0 (bldF_ok ok).1
    refine ⟨_, hb, ?_⟩
    rfl
  · have eb : buF (ms, ac) = (([], []), 30) := by unfold buF; rw [if_neg h1]
    rw [if_neg h1, eb]
    have e3 : ((30 : Int) != 0) = true := rfl
    simp only [e3, if_true]
    rfl

end
end Go.Proofs.YtjmnjimlkljhjaaV

/- The statement LeastClasses: which states are dead, and which are alike, both ways. -/
set_option linter.unusedVariables false
set_option maxRecDepth 100000
namespace Go.Proofs.YtjmnjimlkljhjaaV
open Go Go.Proofs
attribute [local irreducible] cs nx

theorem s301 (ms : List (List Move)) (ac : List Int) (dead : List Bool) (hn : dead.length ≤ 1000000) : ∀ k i, i + k = dead.length →
    S 301 ((true, dead, dead, (dead.length : Int), (i : Int), ()), (ms, ac, ()), ()) (.inl ((true, ()), (ms, ac, ()), ())) := by
  intro k
  induction k with
  | zero =>
    intro i hi
    refine r301 _ _ _ _ _ _ _ ?_
    have h1 : ¬ (i : Int) < (dead.length : Int) := by omega
    simp only [l3_0, wp_ite, h1, decide_false, Bool.false_eq_true, if_false, wp_ret]
    rfl
  | succ k ih =>
    intro i hi
    refine r301 _ _ _ _ _ _ _ ?_
    have hlt : i < dead.length := by omega
    have h1 : (i : Int) < (dead.length : Int) := by omega
    have h0 : (0 : Int) ≤ (i : Int) := by omega
    have hb : (!dead[i] == dead[i]) = false := by cases dead[i] <;> rfl
    simp only [l3_0, wp_ite, wp_chk, wp_ret, Int.toNat_natCast, getN hlt, wsucc hlt hn, h1, h0, hb, decide_true, Bool.false_eq_true, if_false, if_true, true_and]
    exact ih (i + 1) (by omega)

theorem s300 (ms : List (List Move)) (ac : List Int) (ty : TyD (ms, ac)) : S 300 (((ms, ac), ()), ()) ((true, ()), ()) := by
  refine r300 _ _ ?_
  simp only [t3, wp_act]
  refine ⟨_, s1000, _, s1100 ms ac, ?_⟩
  cases f1 : fewF (ms, ac) with
  | false => rfl
  | true =>
    have g1 := few_le f1
    simp only [wp_ite, Bool.not_true, Bool.false_eq_true, if_false, wp_act]
    refine ⟨_, s1200 ms ac (by have := g1.1; simp at this; omega) (few_big f1) ty.1, ?_⟩
    by_cases h1 : okA (ms, ac) = true
    · rw [if_pos h1]
      have ok := okA_okd h1
      have two : ms.length ≤ 2000 := ok.two
      have dl : (deadF (ms, ac)).length = ms.length := deadF_len (ms, ac)
      have e1 : ((0 : Int) != 0) = false := rfl
      simp only [wp_ite, e1, Bool.false_eq_true, if_false, wp_act]
      refine ⟨_, s1300 ms ac ok ty, _, s1400 ms ac ok ty, ?_⟩
      have e2 : (((deadF (ms, ac)).length : Int) != ((deadF (ms, ac)).length : Int)) = false := by simp
      simp only [wp_ite, e2, Bool.false_eq_true, if_false, wp_act]
      refine ⟨_, s301 ms ac (deadF (ms, ac)) (by omega) (deadF (ms, ac)).length 0 (by omega), ?_⟩
      simp only [wp_ite, if_true, wp_act]
      have cl : (classF (ms, ac)).length ≤ 1000000 := by
        unfold classF
        split
        · rename_i h
          have := h.choose_spec.len
          rw [this]; show ms.length ≤ _; omega
        · simp
      refine ⟨_, s1600 ms ac ok ty, _, s1700 ms ac ok ty, _, s1500 _ _ cl, ?_⟩
      simp only [wp_ret, decide_true]
    · rw [if_neg h1]
      have e3 : ((30 : Int) != 0) = true := rfl
      simp only [wp_ite, e3, if_true]
      rfl

end Go.Proofs.YtjmnjimlkljhjaaV

/- The statements LeastBuilds, LeastSame, LeastOne, LeastTells. -/
set_option linter.unusedVariables false
set_option maxRecDepth 100000
namespace Go.Proofs.YtjmnjimlkljhjaaV
open Go Go.Proofs
attribute [local irreducible] cs nx

/-! ### what Build comes to is small -/
theorem okd_okA {d : Dfa} (o : Okd d) : okA d = true := by
  have h1 := o.pos
  have h2 := o.two
  have h3 := o.len
  simp only [okA, Bool.and_eq_true, decide_eq_true_eq, List.all_eq_true]
  exact ⟨⟨⟨⟨h1, h2⟩, h3⟩, o.acc⟩, o.mv⟩

theorem bld_le {d : Dfa} (o : Okd d) : (bldF d).2.1.length ≤ d.1.length := by
  obtain ⟨_, B⟩ := bldF_ok o
  rw [B.l1]; exact B.a.le

theorem bld_sm {d : Dfa} (o : Okd d) (ty : TyD d) (s : Sm d) : Sm (bldF d).2 := by
  refine ⟨by have := bld_le o; have := s.le; omega, fun l hl => ?_⟩
  have := (bld_okd o).mvlen (bld_tyd o ty) l hl
  omega

theorem bu_sizes {d : Dfa} (ty : TyD d) : (buF d).1.1.length ≤ 1000000 ∧ (∀ l ∈ (buF d).1.1, l.length ≤ 1000000) ∧ (buF d).1.2.length ≤ 1000000 := by
  unfold buF
  split
  · rename_i h
    have o := okA_okd h
    have o2 := bld_okd o
    have h1 : (bldF d).2.1.length ≤ 2000 := o2.two
    have h2 : (bldF d).2.2.length = (bldF d).2.1.length := o2.len
    refine ⟨by show (bldF d).2.1.length ≤ _; omega, fun l hl => ?_, by show (bldF d).2.2.length ≤ _; omega⟩
    have := o2.mvlen (bld_tyd o ty) l hl
    omega
  · exact ⟨by simp, fun l hl => (by cases hl), by simp⟩

theorem s400 (ms : List (List Move)) (ac : List Int) (ty : TyD (ms, ac)) : S 400 (((ms, ac), ()), ()) ((true, ()), ()) := by
  refine r400 _ _ ?_
  simp only [t4, wp_act]
  refine ⟨_, s1000, _, s1100 ms ac, ?_⟩
  cases f1 : fewF (ms, ac) with
  | false => rfl
  | true =>
    have g1 := few_le f1
    have hn : ms.length ≤ 1000000 := by have := g1.1; simp at this; omega
    simp only [wp_ite, Bool.not_true, Bool.false_eq_true, if_false, wp_act]
    obtain ⟨b1, b2, b3⟩ := bu_sizes ty
    refine ⟨_, s1800 ms ac hn (few_big f1) ty, _, s1900 ms ac hn (few_big f1) ty, _, s2000 _ _ _ _ b1 b2 b3, ?_⟩
    simp only [wp_ret, and_self, decide_true, beq_self_eq_true, Bool.and_self]

/-! ### texts -/
theorem ofBytes_bl (t : List Int) (h : Word t) : bl (ofBytes t) = t := by
  apply List.ext_getElem
  · rw [bl_len, ofBytes_size]
  · intro i h1 h2
    rw [bl_at]
    have hs : i < (ofBytes t).size := by rw [ofBytes_size]; exact h2
    unfold bt
    rw [dif_pos (by rw [Int.toNat_natCast]; exact hs)]
    have hb := h t[i] (List.getElem_mem h2)
    obtain ⟨h3, h4⟩ := hb
    have e : (ofBytes t)[((i : Int)).toNat]'(by rw [Int.toNat_natCast]; exact hs) = UInt8.ofNat (t[i]).toNat := by
      simp [ofBytes, ByteArray.getElem_eq_getElem_data]
    rw [e]
    simp
    omega

theorem word_bl (x : ByteArray) : Word (bl x) := by
  intro c hc
  obtain ⟨i, hi, rfl⟩ := List.getElem_of_mem hc
  rw [bl_at]
  unfold bt
  split
  · rename_i h
    have := (x[((i : Int)).toNat]'h).toNat_lt
    constructor <;> omega
  · constructor <;> omega

theorem runF_out (d : Dfa) (x : ByteArray) : runF d x = outS d 0 (bl x) := rfl

/-! ### what Apart tells -/
theorem apO_none {d b : Dfa} (h : SemEq d 0 b 0) : apO d b = none := by
  unfold apO
  cases hb : bfs (δR d.1 b.1) (tellR d.2 b.2) 200 0 start1 with
  | none => rfl
  | some r =>
    refine bfs_none (I := fun p => SemEq d p.1 b p.2) (fun p c hc hp => hp.step (mem_cs.1 hc)) (fun p hp => ?_) 200 0 start1 r (fun q hq => ?_) hb
    · have := hp [] Word.nil
      rw [outS_nil, outS_nil] at this
      show (toldF d.2 p.1 != toldF b.2 p.2) = false
      rw [this]; simp
    · rw [start1, List.mem_singleton] at hq; subst hq; exact h

/-- Each pair stands where its text leads. -/
def Leads (d b : Dfa) (acc : List Q1) : Prop := ∀ q ∈ acc, Word q.2 ∧ q.1 = (runS d 0 q.2, runS b 0 q.2)

theorem runS_snoc (d : Dfa) (s : Int) (w : List Int) (c : Int) : runS d s (w ++ [c]) = nx d.1 (runS d s w) c := by
  unfold runS; rw [List.foldl_append]; rfl

theorem ex1_leads {d b : Dfa} {q : Q1} (hq : Word q.2 ∧ q.1 = (runS d 0 q.2, runS b 0 q.2)) : ∀ (l : List Int) (acc : List Q1), (∀ c ∈ l, c ∈ cs) → Leads d b acc → Leads d b (l.foldl (ex1 (δR d.1 b.1) q.1 q.2) acc) := by
  intro l
  induction l with
  | nil => intro acc _ h; exact h
  | cons c l ih =>
    intro acc hl h
    refine ih _ (fun x hx => hl x (by simp [hx])) fun y hy => ?_
    unfold ex1 at hy
    split at hy
    · exact h y hy
    · rcases List.mem_append.1 hy with h1 | h1
      · exact h y h1
      · rw [List.mem_singleton.1 h1]
        refine ⟨fun x hx => ?_, ?_⟩
        · rcases List.mem_append.1 hx with h2 | h2
          · exact hq.1 x h2
          · rw [List.mem_singleton.1 h2]; exact mem_cs.1 (hl c (by simp))
        · show δR d.1 b.1 q.1 c = _
          rw [runS_snoc, runS_snoc, hq.2]

theorem bfs_some {d b : Dfa} : ∀ (f k : Nat) (acc : List Q1) (t : List Int), Leads d b acc → bfs (δR d.1 b.1) (tellR d.2 b.2) f k acc = some (some t) → Word t ∧ outS d 0 t ≠ outS b 0 t := by
  intro f
  induction f with
  | zero => intro k acc t _ h; cases h
  | succ f ih =>
    intro k acc t hL h
    simp only [bfs] at h
    cases hq : acc[k]? with
    | none => rw [hq] at h; cases h
    | some q =>
      rw [hq] at h
      have hm := hL q (List.mem_of_getElem? hq)
      have h : (if tellR d.2 b.2 q.1 = true then some (some q.2) else bfs (δR d.1 b.1) (tellR d.2 b.2) f (k + 1) (exAll (δR d.1 b.1) q.1 q.2 acc)) = some (some t) := h
      by_cases ht : tellR d.2 b.2 q.1 = true
      · rw [if_pos ht] at h
        cases h
        refine ⟨hm.1, fun e => ?_⟩
        have h2 : (toldF d.2 q.1.1 != toldF b.2 q.1.2) = true := ht
        rw [hm.2] at h2
        rw [bne_iff_ne] at h2
        exact h2 e
      · rw [if_neg ht] at h
        exact ih _ _ _ (ex1_leads hm cs acc (fun _ h => h) hL) h

theorem ex1_keeps {δ : Pr → Int → Pr} {p : Pr} {t : List Int} : ∀ (l : List Int) (acc : List Q1), (∀ x : Pr, (∃ q ∈ acc, q.1 = x) → ∃ q ∈ l.foldl (ex1 δ p t) acc, q.1 = x) ∧ (∀ c ∈ l, ∃ q ∈ l.foldl (ex1 δ p t) acc, q.1 = δ p c) := by
  intro l
  induction l with
  | nil => intro acc; exact ⟨fun x h => h, fun c hc => by cases hc⟩
  | cons c l ih =>
    intro acc
    obtain ⟨h1, h2⟩ := ih (ex1 δ p t acc c)
    have hk : ∀ x : Pr, (∃ q ∈ acc, q.1 = x) → ∃ q ∈ ex1 δ p t acc c, q.1 = x := by
      rintro x ⟨q, hq, e⟩
      refine ⟨q, ?_, e⟩
      unfold ex1
      split
      · exact hq
      · exact List.mem_append.2 (.inl hq)
    have hc : ∃ q ∈ ex1 δ p t acc c, q.1 = δ p c := by
      unfold ex1
      split
      · rename_i h
        obtain ⟨q, hq, e⟩ := List.any_eq_true.1 h
        exact ⟨q, hq, of_decide_eq_true e⟩
      · exact ⟨_, List.mem_append.2 (.inr (List.mem_singleton.2 rfl)), rfl⟩
    refine ⟨fun x hx => h1 x (hk x hx), fun x hx => ?_⟩
    rcases List.mem_cons.1 hx with rfl | hx
    · exact h1 _ hc
    · exact h2 x hx

theorem ex1_prefix {δ : Pr → Int → Pr} {p : Pr} {t : List Int} : ∀ (l : List Int) (acc : List Q1), ∃ r, l.foldl (ex1 δ p t) acc = acc ++ r := by
  intro l
  induction l with
  | nil => intro acc; exact ⟨[], (List.append_nil _).symm⟩
  | cons c l ih =>
    intro acc
    obtain ⟨r, hr⟩ := ih (ex1 δ p t acc c)
    have : ∃ r', ex1 δ p t acc c = acc ++ r' := by
      unfold ex1
      split
      · exact ⟨[], (List.append_nil _).symm⟩
      · exact ⟨_, rfl⟩
    obtain ⟨r', hr'⟩ := this
    exact ⟨r' ++ r, by rw [List.foldl_cons, hr, hr', List.append_assoc]⟩

/-- What has been looked at is not told apart, and its followers have been met. -/
def Looked (δ : Pr → Int → Pr) (tell : Pr → Bool) (k : Nat) (acc : List Q1) : Prop := ∀ i (h : i < acc.length), i < k → tell acc[i].1 = false ∧ ∀ c ∈ cs, ∃ q ∈ acc, q.1 = δ acc[i].1 c

theorem bfs_closed {δ : Pr → Int → Pr} {tell : Pr → Bool} {x0 : Pr} : ∀ (f k : Nat) (acc : List Q1), Looked δ tell k acc → (∃ q ∈ acc, q.1 = x0) → bfs δ tell f k acc = some none → ∃ P : Pr → Prop, P x0 ∧ (∀ p c, c ∈ cs → P p → P (δ p c)) ∧ ∀ p, P p → tell p = false := by
  intro f
  induction f with
  | zero => intro k acc _ _ h; cases h
  | succ f ih =>
    intro k acc hL h0 h
    simp only [bfs] at h
    cases hq : acc[k]? with
    | none =>
      have hge := List.getElem?_eq_none_iff.1 hq
      refine ⟨fun p => ∃ q ∈ acc, q.1 = p, h0, ?_, ?_⟩
      · rintro p c hc ⟨q, hqa, rfl⟩
        obtain ⟨i, hi, rfl⟩ := List.getElem_of_mem hqa
        exact (hL i hi (by omega)).2 c hc
      · rintro p ⟨q, hqa, rfl⟩
        obtain ⟨i, hi, rfl⟩ := List.getElem_of_mem hqa
        exact (hL i hi (by omega)).1
    | some q =>
      rw [hq] at h
      obtain ⟨hlt, hqe⟩ := List.getElem?_eq_some_iff.1 hq
      have h : (if tell q.1 = true then some (some q.2) else bfs δ tell f (k + 1) (exAll δ q.1 q.2 acc)) = some none := h
      by_cases ht : tell q.1 = true
      · rw [if_pos ht] at h; cases h
      · rw [if_neg ht] at h
        obtain ⟨g1, g2⟩ := ex1_keeps (δ := δ) (p := q.1) (t := q.2) cs acc
        obtain ⟨r, hr⟩ := ex1_prefix (δ := δ) (p := q.1) (t := q.2) cs acc
        refine ih (k + 1) _ (fun i hi hik => ?_) (g1 x0 h0) h
        have hia : i < acc.length := by
          have : acc.length = k + 1 ∨ k + 1 < acc.length := by omega
          omega
        have eg : (cs.foldl (ex1 δ q.1 q.2) acc)[i] = acc[i] := by
          simp only [hr]
          exact List.getElem_append_left hia
        rw [eg]
        rcases Nat.lt_or_ge i k with h3 | h3
        · obtain ⟨a1, a2⟩ := hL i hia h3
          exact ⟨a1, fun c hc => g1 _ (a2 c hc)⟩
        · have : i = k := by omega
          subst this
          rw [hqe]
          exact ⟨by simpa using ht, fun c hc => g2 c hc⟩

theorem apO_sem {d b : Dfa} (o1 : Okd d) (o2 : Okd b) (f1 : Sm d) (f2 : Sm b) (h : apO d b = none) : SemEq d 0 b 0 := by
  have hb := ap_ends o1 o2 f1 f2
  rw [h] at hb
  obtain ⟨P, h0, h1, h2⟩ := bfs_closed (x0 := (0, 0)) 200 0 start1 (fun i _ hi => by omega) ⟨((0, 0), []), by simp [start1], rfl⟩ hb
  have key : ∀ (w : List Int), Word w → ∀ s t : Int, P (s, t) → outS d s w = outS b t w := by
    intro w
    induction w with
    | nil =>
      intro _ s t hp
      rw [outS_nil, outS_nil]
      have : (toldF d.2 s != toldF b.2 t) = false := h2 _ hp
      simpa using this
    | cons c w ih =>
      intro hw s t hp
      rw [outS_cons, outS_cons]
      exact ih hw.tail _ _ (h1 (s, t) c (mem_cs.2 hw.head) hp)
  exact fun w hw => key w hw 0 0 h0

theorem apO_told {d b : Dfa} (o1 : Okd d) (o2 : Okd b) (f1 : Sm d) (f2 : Sm b) {t : List Int} (h : apO d b = some t) : Word t ∧ outS d 0 t ≠ outS b 0 t := by
  have hb := ap_ends o1 o2 f1 f2
  rw [h] at hb
  refine bfs_some 200 0 start1 t (fun q hq => ?_) hb
  rw [start1, List.mem_singleton] at hq
  subst hq
  exact ⟨Word.nil, rfl⟩

/-- A text that tells two apart is not long. -/
theorem bfs_len {δ : Pr → Int → Pr} {tell : Pr → Bool} : ∀ (f k : Nat) (acc : List Q1) (t : List Int), (∀ q ∈ acc, q.2.length ≤ k) → bfs δ tell f k acc = some (some t) → t.length ≤ k + f := by
  intro f
  induction f with
  | zero => intro k acc t _ h; cases h
  | succ f ih =>
    intro k acc t hL h
    simp only [bfs] at h
    cases hq : acc[k]? with
    | none => rw [hq] at h; cases h
    | some q =>
      rw [hq] at h
      have hm := hL q (List.mem_of_getElem? hq)
      have h : (if tell q.1 = true then some (some q.2) else bfs δ tell f (k + 1) (exAll δ q.1 q.2 acc)) = some (some t) := h
      by_cases ht : tell q.1 = true
      · rw [if_pos ht] at h; cases h; omega
      · rw [if_neg ht] at h
        have := ih (k + 1) _ t (ex1_text (by omega) cs acc fun q' hq' => by have := hL q' hq'; omega) h
        omega

theorem apO_len {d b : Dfa} (o1 : Okd d) (o2 : Okd b) (f1 : Sm d) (f2 : Sm b) {t : List Int} (h : apO d b = some t) : t.length ≤ 200 := by
  have hb := ap_ends o1 o2 f1 f2
  rw [h] at hb
  have := bfs_len 200 0 start1 t (fun q hq => by rw [start1, List.mem_singleton] at hq; subst hq; simp) hb
  omega

theorem s600 (ms : List (List Move)) (ac : List Int) (x : ByteArray) (ty : TyD (ms, ac)) : S 600 (((ms, ac), x, ()), ()) ((true, ()), ()) := by
  refine r600 _ _ _ ?_
  simp only [t6, wp_act]
  refine ⟨_, s1000, _, s1100 ms ac, ?_⟩
  cases f1 : fewF (ms, ac) with
  | false => rfl
  | true =>
    have sm := few_sm f1
    have hn : ms.length ≤ 1000000 := by have : ms.length ≤ 12 := sm.le; omega
    simp only [wp_ite, Bool.not_true, Bool.false_eq_true, if_false, wp_act]
    refine ⟨_, s1200 ms ac hn (few_big f1) ty.1, ?_⟩
    by_cases h1 : okA (ms, ac) = true
    · rw [if_pos h1]
      have e1 : ((0 : Int) != 0) = false := rfl
      simp only [wp_ite, e1, Bool.false_or]
      by_cases hx : (x.size : Int) > 100
      · simp only [hx, decide_true, if_true]; rfl
      · simp only [hx, decide_false, Bool.false_eq_true, if_false, wp_act]
        have ok := okA_okd h1
        have ok2 := bld_okd ok
        have ty2 := bld_tyd ok ty
        have sm2 := bld_sm ok ty sm
        have eb : buF (ms, ac) = ((bldF (ms, ac)).2, 0) := by unfold buF; rw [if_pos h1]
        have eb2 : buF (bldF (ms, ac)).2 = ((bldF (ms, ac)).2, 0) := by unfold buF; rw [if_pos (okd_okA ok2), bld_again ok]
        have hle : (bldF (ms, ac)).2.1.length ≤ ms.length := bld_le ok
        have hn2 : (bldF (ms, ac)).2.1.length ≤ 1000000 := by omega
        have hb1 := s1800 ms ac hn (few_big f1) ty
        rw [eb] at hb1
        refine ⟨_, hb1, ?_⟩
        have e2 : ¬ (((bldF (ms, ac)).2.1.length : Int) > (ms.length : Int)) := by omega
        simp only [wp_ite, e1, e2, decide_false, Bool.or_self, Bool.false_eq_true, if_false, wp_act]
        have hb2 := s1200 (bldF (ms, ac)).2.1 (bldF (ms, ac)).2.2 hn2 sm2.big ty2.1
        rw [if_pos (okd_okA ok2)] at hb2
        refine ⟨_, hb2, ?_⟩
        simp only [wp_ite, e1, Bool.false_eq_true, if_false, wp_act]
        have hsem : SemEq (ms, ac) 0 (bldF (ms, ac)).2 0 := (bld_same ok).symm
        have hap : apF (ms, ac) (bldF (ms, ac)).2 = (⟨#[]⟩, false, 0) := by
          unfold apF
          rw [if_pos ⟨h1, okd_okA ok2⟩, apO_none hsem]
        have hb3 := s2100 ms ac (bldF (ms, ac)).2.1 (bldF (ms, ac)).2.2 sm sm2 ty ty2
        have hap' : apF (ms, ac) ((bldF (ms, ac)).2.1, (bldF (ms, ac)).2.2) = (⟨#[]⟩, false, 0) := hap
        rw [hap'] at hb3
        refine ⟨_, hb3, ?_⟩
        have hb4 := s1800 (bldF (ms, ac)).2.1 (bldF (ms, ac)).2.2 hn2 sm2.big ty2
        have eb2' : buF ((bldF (ms, ac)).2.1, (bldF (ms, ac)).2.2) = ((bldF (ms, ac)).2, 0) := eb2
        rw [eb2'] at hb4
        refine ⟨_, hb4, ?_⟩
        have e0 : ((0 : Int) == 0) = true := rfl
        simp only [wp_ite, if_true, Bool.not_false, e0, wp_act]
        have hx2 : x.size ≤ 1000000 := by omega
        have hr1 := s2300 (bldF (ms, ac)).2.1 (bldF (ms, ac)).2.2 x hx2 sm2.big
        have hr2 := s2300 ms ac x hx2 sm.big
        have er : runF ((bldF (ms, ac)).2.1, (bldF (ms, ac)).2.2) x = runF (ms, ac) x := by
          rw [runF_out, runF_out]
          exact bld_same ok (bl x) (word_bl x)
        rw [er] at hr1
        refine ⟨_, hr1, _, hr2, ?_⟩
        simp only [wp_ite, beq_self_eq_true, if_true, wp_act]
        have h2 : (bldF (ms, ac)).2.2.length ≤ 1000000 := by rw [ok2.len]; exact hn2
        refine ⟨_, s2000 _ _ _ _ hn2 sm2.big h2, ?_⟩
        simp only [wp_ret, and_self, decide_true]
    · rw [if_neg h1]
      have e3 : ((30 : Int) != 0) = true := rfl
      simp only [wp_ite, e3, Bool.true_or, if_true]
      rfl

theorem s700 (m1 : List (List Move)) (a1 : List Int) (m2 : List (List Move)) (a2 : List Int) (t1 : TyD (m1, a1)) (t2 : TyD (m2, a2)) : S 700 (((m1, a1), (m2, a2), ()), ()) ((true, ()), ()) := by
  refine r700 _ _ _ _ ?_
  simp only [t7, wp_act]
  refine ⟨_, s1000, _, s1100 m1 a1, ?_⟩
  have e1 : ((0 : Int) != 0) = false := rfl
  have e3 : ((30 : Int) != 0) = true := rfl
  cases f1 : fewF (m1, a1) with
  | false => rfl
  | true =>
    have sm := few_sm f1
    have hn : m1.length ≤ 1000000 := by have : m1.length ≤ 12 := sm.le; omega
    simp only [wp_ite, Bool.not_true, Bool.false_eq_true, if_false, wp_act]
    refine ⟨_, s1100 m2 a2, ?_⟩
    cases f2 : fewF (m2, a2) with
    | false => rfl
    | true =>
      have sm2 := few_sm f2
      have hn2 : m2.length ≤ 1000000 := by have : m2.length ≤ 12 := sm2.le; omega
      simp only [wp_ite, Bool.not_true, Bool.false_eq_true, if_false, wp_act]
      refine ⟨_, s1200 m1 a1 hn sm.big t1.1, ?_⟩
      by_cases h1 : okA (m1, a1) = true
      · rw [if_pos h1]
        simp only [wp_ite, e1, Bool.false_eq_true, if_false, wp_act]
        refine ⟨_, s1200 m2 a2 hn2 sm2.big t2.1, ?_⟩
        by_cases h2 : okA (m2, a2) = true
        · rw [if_pos h2]
          have o1 := okA_okd h1
          have o2 := okA_okd h2
          have eb1 : buF (m1, a1) = ((bldF (m1, a1)).2, 0) := by unfold buF; rw [if_pos h1]
          have eb2 : buF (m2, a2) = ((bldF (m2, a2)).2, 0) := by unfold buF; rw [if_pos h2]
          have hb1 := s1800 m1 a1 hn sm.big t1
          have hb2 := s1800 m2 a2 hn2 sm2.big t2
          rw [eb1] at hb1
          rw [eb2] at hb2
          have hb3 := s2100 m1 a1 m2 a2 sm sm2 t1 t2
          have so1 := bld_okd o1
          have ss1 := bld_sm o1 t1 sm
          have hsm1 : (bldF (m1, a1)).2.1.length ≤ 1000000 := by have := ss1.le; omega
          have hsm2 : (bldF (m1, a1)).2.2.length ≤ 1000000 := by rw [so1.len]; exact hsm1
          have hb4 := s2000 (bldF (m1, a1)).2.1 (bldF (m1, a1)).2.2 (bldF (m2, a2)).2.1 (bldF (m2, a2)).2.2 hsm1 ss1.big hsm2
          simp only [wp_ite, e1, Bool.false_eq_true, if_false, wp_act]
          refine ⟨_, hb1, _, hb2, _, hb3, ?_⟩
          cases ha : apO (m1, a1) (m2, a2) with
          | none =>
            have eap : apF (m1, a1) (m2, a2) = (⟨#[]⟩, false, 0) := by unfold apF; rw [if_pos ⟨h1, h2⟩, ha]
            rw [eap]
            have hsem := apO_sem o1 o2 sm sm2 ha
            have eq := bld_eq o1 o2 hsem
            simp only [wp_ite, Bool.false_eq_true, if_false, if_true, wp_act]
            refine ⟨_, hb4, ?_⟩
            have : ((bldF (m1, a1)).2.1 = (bldF (m2, a2)).2.1 ∧ (bldF (m1, a1)).2.2 = (bldF (m2, a2)).2.2) := by rw [eq]; exact ⟨rfl, rfl⟩
            simp only [wp_ret, decide_eq_true this]
            rfl
          | some t =>
            have eap : apF (m1, a1) (m2, a2) = (ofBytes t, true, 0) := by unfold apF; rw [if_pos ⟨h1, h2⟩, ha]
            rw [eap]
            obtain ⟨hw, hne⟩ := apO_told o1 o2 sm sm2 ha
            have hlen := apO_len o1 o2 sm sm2 ha
            have hsz : (ofBytes t).size ≤ 1000000 := by rw [ofBytes_size]; omega
            simp only [wp_ite, if_true, wp_act]
            refine ⟨_, s2300 m1 a1 (ofBytes t) hsz sm.big, _, s2300 m2 a2 (ofBytes t) hsz sm2.big, ?_⟩
            have hb : (runF (m1, a1) (ofBytes t) == runF (m2, a2) (ofBytes t)) = false := by
              rw [runF_out, runF_out, ofBytes_bl t hw]
              exact beq_eq_false_iff_ne.2 hne
            simp only [wp_ite, hb, Bool.false_eq_true, if_false, if_true, wp_act]
            refine ⟨_, hb4, ?_⟩
            have : ¬ ((bldF (m1, a1)).2.1 = (bldF (m2, a2)).2.1 ∧ (bldF (m1, a1)).2.2 = (bldF (m2, a2)).2.2) := by
              rintro ⟨g1, g2⟩
              have eq : (bldF (m1, a1)).2 = (bldF (m2, a2)).2 := Prod.ext g1 g2
              have hs : SemEq (m1, a1) 0 (m2, a2) 0 := by
                have k1 := (bld_same o1).symm
                rw [eq] at k1
                exact k1.trans (bld_same o2)
              exact hne (hs t hw)
            simp only [wp_ret, decide_eq_false this]
            rfl
        · rw [if_neg h2]
          simp only [wp_ite, e3, if_true]
          rfl
      · rw [if_neg h1]
        simp only [wp_ite, e3, if_true]
        rfl

/-! ### its states are not alike -/
theorem cnt_id {R : Nat → Nat → Prop} {n : Nat} (h : ∀ s, s < n → first R s) : ∀ k, k ≤ n → cnt R k = k := by
  intro k
  induction k with
  | zero => intro _; rfl
  | succ k ih => intro hk; rw [cnt_succ, ih (by omega), if_pos (h k (by omega))]

theorem bF_dead (d : Dfa) (s : Int) (h : DeadS d s) : ∀ (k c : Nat) (st : BSt), c + k ≤ 256 → bF d s c k st = st := by
  intro k
  induction k with
  | zero => intro c st _; rfl
  | succ k ih =>
    intro c st hc
    show bF d s (c + 1) k (mstep d (nx d.1 s (c : Int)) (c : Int) (c : Int) st) = st
    have hd : DeadS d (nx d.1 s (c : Int)) := h.step ⟨by omega, by omega⟩
    have : mstep d (nx d.1 s (c : Int)) (c : Int) (c : Int) st = st := by unfold mstep; rw [if_pos hd]
    rw [this]
    exact ih (c + 1) st (by omega)

theorem bld_lone {d : Dfa} (o : Okd d) (h : DeadS d 0) : (bldF d).1 = [0] := by
  have h1 := (bldF_ok o).1
  have e : bld d 2100 0 [0] ([], []) = bld d 2099 1 (rowB d 0 [0]).1 ([] ++ [(rowB d 0 [0]).2], [] ++ [d.2.getD (0 : Int).toNat 0]) := rfl
  have er : rowB d 0 [0] = ([0], []) := bF_dead d 0 h 256 0 ([0], []) (by omega)
  rw [e, er] at h1
  have e2 : bld d 2099 1 [0] ([] ++ [[]], [] ++ [d.2.getD (0 : Int).toNat 0]) = some ([0], ([] ++ [[]], [] ++ [d.2.getD (0 : Int).toNat 0])) := rfl
  rw [e2] at h1
  rw [← Option.some.inj h1]

theorem bld_class {d : Dfa} (o : Okd d) : ∀ s, s < (bldF d).2.1.length → (classF (bldF d).2).getD s 0 = (s : Int) := by
  have N := classF_num (bldF d).2
  have hf : ∀ s, s < (bldF d).2.1.length → first (semN (bldF d).2) s := fun s hs t ht hr => by
    have := bld_part o (show t < (bldF d).2.1.length by omega) hs hr
    omega
  intro s hs
  rw [N.fst s hs (hf s hs), cnt_id hf s (by omega)]

theorem bld_live {d : Dfa} (o : Okd d) {s : Nat} (hs : s < (bldF d).2.1.length) (h : DeadS (bldF d).2 (s : Int)) : (bldF d).2.1.length = 1 := by
  obtain ⟨_, B⟩ := bldF_ok o
  rw [B.l1] at hs ⊢
  have hd : DeadS d ((bldF d).1.getD s 0) := fun w hw => by rw [← bld_sem o w hw s hs]; exact h w hw
  have hz : s = 0 := by
    rcases Nat.eq_zero_or_pos s with k | k
    · exact k
    · exact absurd hd (B.a.live s k hs)
  subst hz
  rw [B.zero] at hd
  rw [bld_lone o hd]
  rfl

section
open Classical
theorem s801 (d : Dfa) (o : Okd d) (hn : (bldF d).2.1.length ≤ 100000) : ∀ k i, i + k = (bldF d).2.1.length →
    S 801 ((true, deadF (bldF d).2, classF (bldF d).2, ((bldF d).2.1.length : Int), (i : Int), ()), ()) (.inl ((true, ()), ())) := by
  have cl : (classF (bldF d).2).length = (bldF d).2.1.length := classF_len _
  have dl : (deadF (bldF d).2).length = (bldF d).2.1.length := deadF_len _
  intro k
  induction k with
  | zero =>
    intro i hi
    refine r801 _ _ _ _ _ ?_
    have h1 : ¬ (i : Int) < ((bldF d).2.1.length : Int) := by omega
    simp only [l8_0, wp_ite, h1, decide_false, Bool.false_eq_true, if_false, wp_ret]
    rfl
  | succ k ih =>
    intro i hi
    have hlt : i < (bldF d).2.1.length := by omega
    refine r801 _ _ _ _ _ ?_
    have h0 : (0 : Int) ≤ (i : Int) := by omega
    have h1 : (i : Int) < ((bldF d).2.1.length : Int) := by omega
    have h2 : (i : Int) < ((classF (bldF d).2).length : Int) := by omega
    have h3 : (i : Int) < ((deadF (bldF d).2).length : Int) := by omega
    have hc := bld_class o i hlt
    have hne : ((i : Int) != (i : Int)) = false := by simp
    have hw := wsucc hlt (show (bldF d).2.1.length ≤ 1000000 by omega)
    have hb : ((deadF (bldF d).2).getD i false && decide (((classF (bldF d).2).length : Int) > 1)) = false := by
      rw [deadF_at _ hlt]
      by_cases hd : DeadS (bldF d).2 (i : Int)
      · have := bld_live o hlt hd
        have : ¬ (((classF (bldF d).2).length : Int) > 1) := by omega
        rw [decide_eq_false this, Bool.and_false]
      · rw [decide_eq_false hd, Bool.false_and]
    simp only [l8_0, wp_ite, wp_chk, wp_ret, Int.toNat_natCast, h0, h1, h2, h3, hc, hne, hb, hw, decide_true, Bool.or_true, Bool.false_eq_true, if_false, if_true, true_and]
    exact ih (i + 1) (by omega)
end

theorem s800 (ms : List (List Move)) (ac : List Int) (ty : TyD (ms, ac)) : S 800 (((ms, ac), ()), ()) ((true, ()), ()) := by
  refine r800 _ _ ?_
  simp only [t8, wp_act]
  refine ⟨_, s1000, _, s1100 ms ac, ?_⟩
  cases f1 : fewF (ms, ac) with
  | false => rfl
  | true =>
    have sm := few_sm f1
    have hn : ms.length ≤ 1000000 := by have : ms.length ≤ 12 := sm.le; omega
    simp only [wp_ite, Bool.not_true, Bool.false_eq_true, if_false, wp_act]
    refine ⟨_, s1200 ms ac hn (few_big f1) ty.1, ?_⟩
    by_cases h1 : okA (ms, ac) = true
    · rw [if_pos h1]
      have ok := okA_okd h1
      have ok2 := bld_okd ok
      have ty2 := bld_tyd ok ty
      have hle : (bldF (ms, ac)).2.1.length ≤ ms.length := bld_le ok
      have eb : buF (ms, ac) = ((bldF (ms, ac)).2, 0) := by unfold buF; rw [if_pos h1]
      have e1 : ((0 : Int) != 0) = false := rfl
      have hb1 := s1800 ms ac hn (few_big f1) ty
      rw [eb] at hb1
      simp only [wp_ite, e1, Bool.false_eq_true, if_false, wp_act]
      refine ⟨_, hb1, _, s1300 (bldF (ms, ac)).2.1 (bldF (ms, ac)).2.2 ok2 ty2, _, s1600 (bldF (ms, ac)).2.1 (bldF (ms, ac)).2.2 ok2 ty2, ?_⟩
      have cl : (classF ((bldF (ms, ac)).2.1, (bldF (ms, ac)).2.2)).length = (bldF (ms, ac)).2.1.length := classF_len _
      have dl : (deadF ((bldF (ms, ac)).2.1, (bldF (ms, ac)).2.2)).length = (bldF (ms, ac)).2.1.length := deadF_len _
      have e2 : (((bldF (ms, ac)).2.1.length : Int) != ((bldF (ms, ac)).2.1.length : Int)) = false := by simp
      simp only [wp_ite, cl, dl, e2, Bool.or_self, Bool.false_eq_true, if_false, wp_act]
      refine ⟨_, s801 (ms, ac) ok (by have : ms.length ≤ 2000 := ok.two; omega) (bldF (ms, ac)).2.1.length 0 (by omega), ?_⟩
      rfl
    · rw [if_neg h1]
      have e3 : ((30 : Int) != 0) = true := rfl
      simp only [wp_ite, e3, if_true]
      rfl

end Go.Proofs.YtjmnjimlkljhjaaV

/- What an automaton that was read is: numbers of their kinds. -/
set_option linter.unusedVariables false
namespace Go.Proofs.YtjmnjimlkljhjaaV
open Go Go.Proofs

theorem wf_tyD {d : El tD} (h : WfE tD d) : TyD d := by
  obtain ⟨⟨_, h1⟩, _, h2⟩ := h
  refine ⟨fun l hl m hm => ?_, fun a ha => ?_⟩
  · obtain ⟨w1, w2, w3⟩ := (h1 l hl).2 m hm
    have w1 : (decide (IntKind.u8.min ≤ m.1) && decide (m.1 ≤ IntKind.u8.max)) = true := w1
    have w2 : (decide (IntKind.u8.min ≤ m.2.1) && decide (m.2.1 ≤ IntKind.u8.max)) = true := w2
    have w3 : (decide (IntKind.i64.min ≤ m.2.2) && decide (m.2.2 ≤ IntKind.i64.max)) = true := w3
    simp only [Bool.and_eq_true, decide_eq_true_eq] at w1 w2 w3
    exact ⟨w1.1, w1.2, w2.1, w2.2, w3.1, w3.2⟩
  · have w : (decide (IntKind.i64.min ≤ a) && decide (a ≤ IntKind.i64.max)) = true := h2 a ha
    simp only [Bool.and_eq_true, decide_eq_true_eq] at w
    exact w

end Go.Proofs.YtjmnjimlkljhjaaV
