/- Classes: the program's way comes to the same; the statement LeastClasses. -/
import Derived.Test.YtjmnjimlkljhjaaPC1
set_option linter.unusedVariables false
set_option maxRecDepth 100000
namespace Go.Proofs.YtjmnjimlkljhjaaV
open Go Go.Proofs
attribute [local irreducible] cs nx

section
open Classical
variable (ms : List (List Move)) (ac : List Int)

theorem s1606 (ok : Okd (ms, ac)) (x1 : Int) (next : List Int) (hn : next.length = ms.length) : ∀ k i (C : List Int), i + k = ms.length → C.length = ms.length → (∀ j, j < i → C.getD j 0 = if DeadS (ms, ac) (j : Int) then -1 else next.getD j 0) →
    ∃ C', C'.length = ms.length ∧ (∀ j, j < ms.length → C'.getD j 0 = if DeadS (ms, ac) (j : Int) then -1 else next.getD j 0) ∧
    S 1606 ((deadF (ms, ac), x1, (ms.length : Int), (i : Int), ()), (ms, ac, ()), C, next, ()) ((deadF (ms, ac), x1, ()), (ms, ac, ()), C', ()) := by
  have dl : (deadF (ms, ac)).length = ms.length := deadF_len (ms, ac)
  intro k
  induction k with
  | zero =>
    intro i C hi hl h
    refine ⟨C, hl, fun j hj => h j (by omega), r1606 _ _ _ _ _ _ _ _ ?_⟩
    have h1 : ¬ (i : Int) < (ms.length : Int) := by omega
    simp only [l16_5, wp_ite, h1, decide_false, Bool.false_eq_true, if_false, wp_ret]
    rfl
  | succ k ih =>
    intro i C hi hl h
    have two : ms.length ≤ 2000 := ok.two
    have hlt : i < ms.length := by omega
    have h1 : (i : Int) < (ms.length : Int) := by omega
    have h0 : (0 : Int) ≤ (i : Int) := by omega
    have h2 : (i : Int) < (next.length : Int) := by omega
    have h3 : (i : Int) < (C.length : Int) := by omega
    have h4 : (i : Int) < ((deadF (ms, ac)).length : Int) := by omega
    have h5 : (i : Int) < ((C.set i (next.getD i 0)).length : Int) := by rw [List.length_set]; exact h3
    have hw := wsucc hlt (show ms.length ≤ 1000000 by omega)
    have hg : (deadF (ms, ac)).getD i false = decide (DeadS (ms, ac) (i : Int)) := deadF_at (ms, ac) hlt
    by_cases hd : DeadS (ms, ac) (i : Int)
    · obtain ⟨C', g1, g2, g3⟩ := ih (i + 1) ((C.set i (next.getD i 0)).set i (-1)) (by omega) (by rw [List.length_set, List.length_set]; exact hl) (fun j hj => by
        rw [getSet, getSet]
        by_cases e : i = j
        · subst e; rw [if_pos ⟨rfl, by rw [List.length_set]; omega⟩, if_pos hd]
        · rw [if_neg (fun h => e h.1), if_neg (fun h => e h.1)]; exact h j (by omega))
      refine ⟨C', g1, g2, r1606 _ _ _ _ _ _ _ _ ?_⟩
      simp only [l16_5, wp_ite, wp_chk, wp_ret, Int.toNat_natCast, h1, h0, h2, h3, h4, h5, hg, decide_eq_true hd, decide_true, if_true, true_and, hw]
      exact g3
    · obtain ⟨C', g1, g2, g3⟩ := ih (i + 1) (C.set i (next.getD i 0)) (by omega) (by rw [List.length_set]; exact hl) (fun j hj => by
        rw [getSet]
        by_cases e : i = j
        · subst e; rw [if_pos ⟨rfl, by omega⟩, if_neg hd]
        · rw [if_neg (fun h => e h.1)]; exact h j (by omega))
      refine ⟨C', g1, g2, r1606 _ _ _ _ _ _ _ _ ?_⟩
      simp only [l16_5, wp_ite, wp_chk, wp_ret, Int.toNat_natCast, h1, h0, h2, h3, h4, hg, decide_eq_false hd, decide_true, Bool.false_eq_true, if_false, if_true, true_and, hw]
      exact g3

/-- Lists that agree where states live. -/
theorem KL_agree {C l : List Int} (h : ∀ j, j < ms.length → ¬ DeadS (ms, ac) (j : Int) → C.getD j 0 = l.getD j 0) {s t : Nat} (hs : s < ms.length) (ht : t < ms.length) : KL (ms, ac) C s t ↔ KL (ms, ac) l s t := by
  constructor
  · rintro (k | ⟨k1, k2, k3⟩)
    · exact .inl k
    · exact .inr ⟨k1, k2, by rw [← h s hs k1, ← h t ht k2, k3]⟩
  · rintro (k | ⟨k1, k2, k3⟩)
    · exact .inl k
    · exact .inr ⟨k1, k2, by rw [h s hs k1, h t ht k2, k3]⟩

theorem Coarse.agree {C l : List Int} (h : ∀ j, j < ms.length → ¬ DeadS (ms, ac) (j : Int) → C.getD j 0 = l.getD j 0) (K : Coarse (ms, ac) l) : Coarse (ms, ac) C :=
  ⟨fun s t hs ht hr => (KL_agree ms ac h hs ht).2 (K.sem s t hs ht hr), fun s t hs ht h1 h2 h3 => K.acc s t hs ht h1 h2 (by rw [← h s hs h1, ← h t ht h2, h3])⟩

theorem s1602 (ok : Okd (ms, ac)) (ty : TyD (ms, ac)) : ∀ (f : Nat) (C : List Int) (many : Int), Cls ms ac C → NN (ms, ac) C → Coarse (ms, ac) C → (many = -1 ∨ many = (cnt (KL (ms, ac) C) ms.length : Int)) → (ms.length : Int) - many < f →
    S 1602 ((deadF (ms, ac), many, ()), (ms, ac, ()), C, ()) ((), classF (ms, ac), ()) := by
  intro f
  induction f with
  | zero =>
    intro C many K P Co hm hf
    have := cnt_le (KL (ms, ac) C) ms.length
    have pos : 0 < ms.length := ok.pos
    omega
  | succ f ih =>
    intro C many K P Co hm hf
    have two : ms.length ≤ 2000 := ok.two
    have hCl := K.len
    refine r1602 _ _ _ _ _ ?_
    have h1 : (0 : Int) ≤ (C.length : Int) := by omega
    have h2 : C.length * 1 ≤ 16777216 := by omega
    have h3 : 8 * C.length ≤ 281474976710656 := by omega
    simp only [l16_1, wp_chk, Int.toNat_natCast, h1, h2, h3, decide_true, true_and, beq_self_eq_true, wp_act]
    obtain ⟨next, at2, N, hat, hS⟩ := s1603 ms ac ok ty many C K P ms.length 0 (List.replicate C.length 0) [] (by omega) (by simp [hCl]) ⟨fun s hs => by omega, fun s t hs => by omega⟩ ⟨rfl, fun s f x _ hf => by omega, fun s x _ _ _ => rfl⟩
    refine ⟨_, hS, ?_⟩
    simp only [wp_ite, wp_ret, hat]
    by_cases hc : (cnt (alikeR (ms, ac) C) ms.length : Int) = many
    · have hb : ((cnt (alikeR (ms, ac) C) ms.length : Int) == many) = true := by rw [hc]; simp
      simp only [hb, if_true]
      have hm' : many = (cnt (KL (ms, ac) C) ms.length : Int) := by
        rcases hm with h | h
        · omega
        · exact h
      have := part_done (ms, ac) ok Co P N (show cnt (KL (ms, ac) C) ms.length = cnt (alikeR (ms, ac) C) ms.length by omega)
      rw [classF_eq (ms, ac) this]
      rfl
    · have hb : ((cnt (alikeR (ms, ac) C) ms.length : Int) == many) = false := by simpa using hc
      simp only [hb, Bool.false_eq_true, if_false, wp_act]
      have hnl := N.len
      have hnl' : next.length = ms.length := hnl
      obtain ⟨C', g1, g2, g3⟩ := s1606 ms ac ok (cnt (alikeR (ms, ac) C) ms.length : Int) next hnl' ms.length 0 C (by omega) hCl (fun j hj => by omega)
      have e : (next.length : Int) = (ms.length : Int) := by rw [hnl']
      simp only [e]
      refine ⟨_, g3, ?_⟩
      obtain ⟨Co', P', hK⟩ := part_step (ms, ac) ok Co N
      have ag : ∀ j, j < ms.length → ¬ DeadS (ms, ac) (j : Int) → C'.getD j 0 = next.getD j 0 := fun j hj hd => by rw [g2 j hj, if_neg hd]
      have hle := cnt_le (alikeR (ms, ac) C) ms.length
      have hfine := (cnt_fine (A := KL (ms, ac) C) (B := alikeR (ms, ac) C) (n := ms.length) (fun s t _ _ h => alike_KL (ms, ac) h) ms.length (Nat.le_refl _)).1
      have hcc : cnt (KL (ms, ac) C') ms.length = cnt (alikeR (ms, ac) C) ms.length := by
        rw [← cnt_congr hK]
        exact cnt_congr fun s t hs ht => KL_agree ms ac ag hs ht
      refine ih C' _ ⟨g1, fun s hs hd => by rw [g2 s hs, if_pos hd], fun s hs => ?_⟩ (fun s hs hd => by rw [ag s hs hd]; exact P' s hs hd) (Coarse.agree ms ac ag Co') (.inr (by rw [hcc])) (by omega)
      have E := alikeR_eqv (ms, ac) C ms.length
      rw [g2 s hs]
      split
      · unfold I64; omega
      · obtain ⟨r, h4, h5, h6⟩ := has_first E s hs
        have e2 : next.getD s 0 = next.getD r 0 := (N.iff E hs (show r < ms.length by omega)).2 (E.symm r s (by omega) hs h6)
        have hr := cnt_le (alikeR (ms, ac) C) r
        rw [e2, N.fst r (show r < ms.length by omega) h5]
        unfold I64; omega

theorem s1601 (ok : Okd (ms, ac)) : ∀ k i (C : List Int), i + k = ms.length → C.length = ms.length → (∀ j, j < i → C.getD j 0 = if DeadS (ms, ac) (j : Int) then -1 else IntKind.wrap IntKind.i64 (1 + ac.getD j 0)) →
    ∃ C', C'.length = ms.length ∧ (∀ j, j < ms.length → C'.getD j 0 = if DeadS (ms, ac) (j : Int) then -1 else IntKind.wrap IntKind.i64 (1 + ac.getD j 0)) ∧
    S 1601 ((deadF (ms, ac), (ms.length : Int), (i : Int), ()), (ms, ac, ()), C, ()) ((deadF (ms, ac), ()), (ms, ac, ()), C', ()) := by
  have dl : (deadF (ms, ac)).length = ms.length := deadF_len (ms, ac)
  intro k
  induction k with
  | zero =>
    intro i C hi hl h
    refine ⟨C, hl, fun j hj => h j (by omega), r1601 _ _ _ _ _ _ ?_⟩
    have h1 : ¬ (i : Int) < (ms.length : Int) := by omega
    simp only [l16_0, wp_ite, h1, decide_false, Bool.false_eq_true, if_false, wp_ret]
    rfl
  | succ k ih =>
    intro i C hi hl h
    have two : ms.length ≤ 2000 := ok.two
    have ol : ac.length = ms.length := ok.len
    have hlt : i < ms.length := by omega
    have h1 : (i : Int) < (ms.length : Int) := by omega
    have h0 : (0 : Int) ≤ (i : Int) := by omega
    have h2 : (i : Int) < (ac.length : Int) := by omega
    have h3 : (i : Int) < (C.length : Int) := by omega
    have h4 : (i : Int) < ((deadF (ms, ac)).length : Int) := by omega
    have h5 : (i : Int) < ((C.set i (-1)).length : Int) := by rw [List.length_set]; exact h3
    have hw := wsucc hlt (show ms.length ≤ 1000000 by omega)
    have hg : (deadF (ms, ac)).getD i false = decide (DeadS (ms, ac) (i : Int)) := deadF_at (ms, ac) hlt
    by_cases hd : DeadS (ms, ac) (i : Int)
    · obtain ⟨C', g1, g2, g3⟩ := ih (i + 1) (C.set i (-1)) (by omega) (by rw [List.length_set]; exact hl) (fun j hj => by
        rw [getSet]
        by_cases e : i = j
        · subst e; rw [if_pos ⟨rfl, by omega⟩, if_pos hd]
        · rw [if_neg (fun h => e h.1)]; exact h j (by omega))
      refine ⟨C', g1, g2, r1601 _ _ _ _ _ _ ?_⟩
      simp only [l16_0, wp_ite, wp_chk, wp_ret, Int.toNat_natCast, h1, h0, h2, h3, h4, hg, decide_eq_true hd, decide_true, Bool.not_true, Bool.false_and, Bool.false_eq_true, if_false, if_true, true_and, hw]
      exact g3
    · obtain ⟨C', g1, g2, g3⟩ := ih (i + 1) ((C.set i (-1)).set i (IntKind.wrap IntKind.i64 (1 + ac.getD i 0))) (by omega) (by rw [List.length_set, List.length_set]; exact hl) (fun j hj => by
        rw [getSet, getSet]
        by_cases e : i = j
        · subst e; rw [if_pos ⟨rfl, by rw [List.length_set]; omega⟩, if_neg hd]
        · rw [if_neg (fun h => e h.1), if_neg (fun h => e h.1)]; exact h j (by omega))
      refine ⟨C', g1, g2, r1601 _ _ _ _ _ _ ?_⟩
      simp only [l16_0, wp_ite, wp_chk, wp_ret, Int.toNat_natCast, h1, h0, h2, h3, h4, h5, hg, decide_eq_false hd, decide_true, Bool.not_false, Bool.true_and, if_true, true_and, hw]
      exact g3

theorem s1600 (ok : Okd (ms, ac)) (ty : TyD (ms, ac)) : S 1600 (((ms, ac), ()), ()) ((classF (ms, ac), ()), ()) := by
  have two : ms.length ≤ 2000 := ok.two
  have ol : ac.length = ms.length := ok.len
  refine r1600 _ _ ?_
  simp only [t16, wp_act]
  refine ⟨_, s1300 ms ac ok ty, ?_⟩
  have h1 : (0 : Int) ≤ (ms.length : Int) := by omega
  have h2 : ms.length * 1 ≤ 16777216 := by omega
  have h3 : 8 * ms.length ≤ 281474976710656 := by omega
  obtain ⟨C, g1, g2, g3⟩ := s1601 ms ac ok ms.length 0 (List.replicate ms.length (0 : Int)) (by omega) (by simp) (fun j hj => by omega)
  simp only [wp_chk, Int.toNat_natCast, h1, h2, h3, decide_true, true_and, beq_self_eq_true, wp_act, List.length_replicate]
  refine ⟨_, g3, ?_⟩
  have rng : ∀ s, s < ms.length → I64 (ac.getD s 0) := fun s hs => by
    have : s < ac.length := by omega
    rw [getN this]
    exact ty.2 _ (List.getElem_mem this)
  have nn : ∀ s, s < ms.length → IntKind.wrap IntKind.i64 (1 + ac.getD s 0) ≠ -1 := fun s hs h => by
    have h4 : s < ac.length := by omega
    have h5 : -1 ≤ ac.getD s 0 := by rw [getN h4]; exact ok.acc _ (List.getElem_mem h4)
    have h6 : IntKind.wrap IntKind.i64 (1 + ac.getD s 0) = IntKind.wrap IntKind.i64 (1 + (-2)) := by rw [h]; rfl
    have := wrap1_inj (rng s hs) (by unfold I64; omega) h6
    exact absurd this (by intro e; rw [e] at h5; omega)
  have K : Cls ms ac C := ⟨g1, fun s hs hd => by rw [g2 s hs, if_pos hd], fun s hs => by
    rw [g2 s hs]
    split
    · unfold I64; omega
    · exact wrap_i64 _⟩
  have P : NN (ms, ac) C := fun s hs hd => by rw [g2 s hs, if_neg hd]; exact nn s hs
  have Co : Coarse (ms, ac) C := coarse_of ms ac ok fun s t hs ht h1 h2 => by
    rw [g2 s hs, g2 t ht, if_neg h1, if_neg h2]
    constructor
    · intro h; exact wrap1_inj (rng s hs) (rng t ht) h
    · intro h; rw [h]
  exact ⟨_, s1602 ms ac ok ty (ms.length + 2) C (-1) K P Co (.inl rfl) (by omega), rfl⟩

end
end Go.Proofs.YtjmnjimlkljhjaaV

/- The statement LeastClasses: which states are dead, and which are alike, both ways. -/
set_option linter.unusedVariables false
set_option maxRecDepth 100000
namespace Go.Proofs.YtjmnjimlkljhjaaV
open Go Go.Proofs
attribute [local irreducible] cs nx

theorem s301 (ms : List (List Move)) (ac : List Int) (dead : List Bool) (hn : dead.length ≤ 1000000) : ∀ k i, i + k = dead.length →
    S 301 ((true, dead, dead, (dead.length : Int), (i : Int), ()), (ms, ac, ()), ()) (.inl ((true, ()), (ms, ac, ()), ())) := by
  intro k
  induction k with
  | zero =>
    intro i hi
    refine r301 _ _ _ _ _ _ _ ?_
    have h1 : ¬ (i : Int) < (dead.length : Int) := by omega
    simp only [l3_0, wp_ite, h1, decide_false, Bool.false_eq_true, if_false, wp_ret]
    rfl
  | succ k ih =>
    intro i hi
    refine r301 _ _ _ _ _ _ _ ?_
    have hlt : i < dead.length := by omega
    have h1 : (i : Int) < (dead.length : Int) := by omega
    have h0 : (0 : Int) ≤ (i : Int) := by omega
    have hb : (!dead[i] == dead[i]) = false := by cases dead[i] <;> rfl
    simp only [l3_0, wp_ite, wp_chk, wp_ret, Int.toNat_natCast, getN hlt, wsucc hlt hn, h1, h0, hb, decide_true, Bool.false_eq_true, if_false, if_true, true_and]
    exact ih (i + 1) (by omega)

theorem s300 (ms : List (List Move)) (ac : List Int) (ty : TyD (ms, ac)) : S 300 (((ms, ac), ()), ()) ((true, ()), ()) := by
  refine r300 _ _ ?_
  simp only [t3, wp_act]
  refine ⟨_, s1000, _, s1100 ms ac, ?_⟩
  cases f1 : fewF (ms, ac) with
  | false => rfl
  | true =>
    have g1 := few_le f1
    simp only [wp_ite, Bool.not_true, Bool.false_eq_true, if_false, wp_act]
    refine ⟨_, s1200 ms ac (by have := g1.1; simp at this; omega) (few_big f1) ty.1, ?_⟩
    by_cases h1 : okA (ms, ac) = true
    · rw [if_pos h1]
      have ok := okA_okd h1
      have two : ms.length ≤ 2000 := ok.two
      have dl : (deadF (ms, ac)).length = ms.length := deadF_len (ms, ac)
      have e1 : ((0 : Int) != 0) = false := rfl
      simp only [wp_ite, e1, Bool.false_eq_true, if_false, wp_act]
      refine ⟨_, s1300 ms ac ok ty, _, s1400 ms ac ok ty, ?_⟩
      have e2 : (((deadF (ms, ac)).length : Int) != ((deadF (ms, ac)).length : Int)) = false := by simp
      simp only [wp_ite, e2, Bool.false_eq_true, if_false, wp_act]
      refine ⟨_, s301 ms ac (deadF (ms, ac)) (by omega) (deadF (ms, ac)).length 0 (by omega), ?_⟩
      simp only [wp_ite, if_true, wp_act]
      have cl : (classF (ms, ac)).length ≤ 1000000 := by
        unfold classF
        split
        · rename_i h
          have := h.choose_spec.len
          rw [this]; show ms.length ≤ _; omega
        · simp
      refine ⟨_, s1600 ms ac ok ty, _, s1700 ms ac ok ty, _, s1500 _ _ cl, ?_⟩
      simp only [wp_ret, decide_true]
    · rw [if_neg h1]
      have e3 : ((30 : Int) != 0) = true := rfl
      simp only [wp_ite, e3, if_true]
      rfl

end Go.Proofs.YtjmnjimlkljhjaaV

/- What an automaton that was read is: numbers of their kinds. -/
set_option linter.unusedVariables false
namespace Go.Proofs.YtjmnjimlkljhjaaV
open Go Go.Proofs

theorem wf_tyD {d : El tD} (h : WfE tD d) : TyD d := by
  obtain ⟨⟨_, h1⟩, _, h2⟩ := h
  refine ⟨fun l hl m hm => ?_, fun a ha => ?_⟩
  · obtain ⟨w1, w2, w3⟩ := (h1 l hl).2 m hm
    have w1 : (decide (IntKind.u8.min ≤ m.1) && decide (m.1 ≤ IntKind.u8.max)) = true := w1
    have w2 : (decide (IntKind.u8.min ≤ m.2.1) && decide (m.2.1 ≤ IntKind.u8.max)) = true := w2
    have w3 : (decide (IntKind.i64.min ≤ m.2.2) && decide (m.2.2 ≤ IntKind.i64.max)) = true := w3
    simp only [Bool.and_eq_true, decide_eq_true_eq] at w1 w2 w3
    exact ⟨w1.1, w1.2, w2.1, w2.2, w3.1, w3.2⟩
  · have w : (decide (IntKind.i64.min ≤ a) && decide (a ≤ IntKind.i64.max)) = true := h2 a ha
    simp only [Bool.and_eq_true, decide_eq_true_eq] at w
    exact w

end Go.Proofs.YtjmnjimlkljhjaaV
