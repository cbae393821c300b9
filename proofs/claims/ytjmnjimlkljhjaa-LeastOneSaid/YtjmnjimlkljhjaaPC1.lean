/- What the least functions do: whether an automaton is small, may be; where it goes. -/
import Derived.Test.YtjmnjimlkljhjaaVB1
import Derived.IntWalk
import Derived.Test.YtjmnjimlkljhjaaVB2
import Derived.Test.YtjmnjimlkljhjaaVA3
import Derived.DataElems
import Derived.ChangeArms
import Derived.JoinedOf
import Derived.ChangeOld
import Derived.DataReads
import Derived.WideShapes
import Derived.ShutString
import Derived.Below
import Derived.Carry
import Derived.OpenShut
import Derived.ChangeSame
import Derived.SizedLaws
set_option linter.unusedVariables false
namespace Go.Proofs.YtjmnjimlkljhjaaV
open Go Go.Proofs

abbrev S : Spec Γ := SemR Try.prog Γ
abbrev Move := Int × Int × Int
abbrev Dfa := List (List Move) × List Int

section
variable {Γ : Nat → Sig} {X : Type} {R : Spec Γ} {Q : X → Prop}
theorem wp_ite {b : Bool} {t e : Tree Γ X} : (Tree.ite b t e).wp R Q ↔ if b = true then t.wp R Q else e.wp R Q := Iff.rfl
theorem wp_chk {b : Bool} {t : Tree Γ X} : (Tree.chk b t).wp R Q ↔ b = true ∧ t.wp R Q := Iff.rfl
theorem wp_ret {x : X} : (Tree.ret x : Tree Γ X).wp R Q ↔ Q x := Iff.rfl
theorem wp_act {i : Nat} {s : (Γ i).pre.T} {k : (Γ i).O → Tree Γ X} : (Tree.act i s k).wp R Q ↔ ∃ y, R i s y ∧ (k y).wp R Q := Iff.rfl
theorem wp_stuck {w : String} : (Tree.stuck w : Tree Γ X).wp R Q ↔ False := Iff.rfl
theorem loopP_inl {A B : Type} {R : A → B → Prop} {y : B} {x : A} : LoopP R y (.inl x) ↔ R x y := Iff.rfl
theorem loopP_inr {A B : Type} {R : A → B → Prop} {y z : B} : LoopP R y (.inr z) ↔ z = y := Iff.rfl
end

theorem getD_at {α : Type} {l : List α} {i : Nat} (h : i < l.length) (d : α) : List.getD l (Int.toNat (i : Int)) d = l[i] := by
  simp [List.getD_eq_getElem?_getD, h]

theorem drop_at {α : Type} {l : List α} {i : Nat} (h : i < l.length) : l.drop i = l[i] :: l.drop (i + 1) := List.drop_eq_getElem_cons h

theorem w64 {n : Int} (h : -9223372036854775808 ≤ n ∧ n ≤ 9223372036854775807) : IntKind.wrap IntKind.i64 n = n := IntWalk.i64_in n h
theorem wsucc {i n : Nat} (h : i < n) (hn : n ≤ 1000000) : IntKind.wrap IntKind.i64 ((i : Int) + 1) = ((i + 1 : Nat) : Int) := by
  rw [w64 (by omega)]; omega

/-! ### small enough -/
def fewF (d : Dfa) : Bool := decide (d.1.length ≤ 12) && decide (d.2.length ≤ 20) && d.1.all fun l => decide (l.length ≤ 60)

abbrev endB (b : Bool) : PUnit × PUnit ⊕ (Bool × PUnit) × PUnit := if b = true then .inl ((), ()) else .inr ((false, ()), ())

/-- Out by the one way, or with false. -/
abbrev out2 {A : Type} (b : Bool) (a : A) : A ⊕ (Bool × PUnit) × PUnit := if b = true then .inl a else .inr ((false, ()), ())

theorem s1101 (ms : List (List Move)) (hn : ms.length ≤ 1000000) : ∀ k i, i + k = ms.length →
    S 1101 ((ms, (ms.length : Int), (i : Int), ()), ()) (endB ((ms.drop i).all fun l => decide (l.length ≤ 60))) := by
  intro k
  induction k with
  | zero =>
    intro i hi
    refine r1101 _ _ _ ?_
    have h1 : ¬ (i : Int) < (ms.length : Int) := by omega
    rw [List.drop_eq_nil_of_le (show ms.length ≤ i by omega)]
    simp only [l11_0, wp_ite, h1, decide_false, Bool.false_eq_true, if_false, wp_ret]
    rfl
  | succ k ih =>
    intro i hi
    refine r1101 _ _ _ ?_
    have hlt : i < ms.length := by omega
    have h1 : (i : Int) < (ms.length : Int) := by omega
    have h0 : (0 : Int) ≤ (i : Int) := by omega
    rw [drop_at hlt, List.all_cons]
    simp only [l11_0, wp_ite, wp_chk, wp_ret, getD_at hlt, wsucc hlt hn, h1, h0, decide_true, if_true, true_and]
    by_cases hc : ms[i].length ≤ 60
    · have h2 : ¬ ((ms[i].length : Int) > 60) := by omega
      simp only [h2, hc, decide_false, decide_true, Bool.false_eq_true, if_false, Bool.true_and]
      exact ih (i + 1) (by omega)
    · have h2 : ((ms[i].length : Int) > 60) := by omega
      simp only [h2, hc, decide_false, decide_true, if_true, Bool.false_and]
      rfl

theorem s1100 (ms : List (List Move)) (ac : List Int) : S 1100 (((ms, ac), ()), ()) ((fewF (ms, ac), ()), ()) := by
  refine r1100 _ _ ?_
  simp only [t11, wp_ite]
  by_cases h : ms.length ≤ 12 ∧ ac.length ≤ 20
  · have h1 : ¬ ((ms.length : Int) > 12) := by omega
    have h2 : ¬ ((ac.length : Int) > 20) := by omega
    simp only [h1, h2, decide_false, Bool.or_false, Bool.false_eq_true, if_false, wp_act]
    refine ⟨endB (ms.all fun l => decide (l.length ≤ 60)), s1101 ms (by omega) ms.length 0 (by omega), ?_⟩
    have e : fewF (ms, ac) = ms.all fun l => decide (l.length ≤ 60) := by simp [fewF, h.1, h.2]
    rw [e]
    cases ms.all fun l => decide (l.length ≤ 60) <;> rfl
  · have h1 : (decide ((ms.length : Int) > 12) || decide ((ac.length : Int) > 20)) = true := by
      simp only [Bool.or_eq_true, decide_eq_true_eq]; omega
    simp only [h1, if_true, wp_ret]
    have e : fewF (ms, ac) = false := by
      simp only [fewF, Bool.and_eq_false_iff, decide_eq_false_iff_not]; omega
    rw [e]

/-! ### the same numbers -/
theorem s1501 (a b : List Int) (hn : a.length ≤ 1000000) (hl : a.length = b.length) : ∀ k i, i + k = a.length → S 1501 ((a, b, (a.length : Int), (i : Int), ()), ()) (endB (decide (a.drop i = b.drop i))) := by
  intro k
  induction k with
  | zero =>
    intro i hi
    refine r1501 _ _ _ _ ?_
    have h1 : ¬ (i : Int) < (a.length : Int) := by omega
    rw [List.drop_eq_nil_of_le (show a.length ≤ i by omega), List.drop_eq_nil_of_le (show b.length ≤ i by omega)]
    simp only [l15_0, wp_ite, h1, decide_false, Bool.false_eq_true, if_false, wp_ret]
    rfl
  | succ k ih =>
    intro i hi
    refine r1501 _ _ _ _ ?_
    have hlt : i < a.length := by omega
    have hlt' : i < b.length := by omega
    have h1 : (i : Int) < (a.length : Int) := by omega
    have h1' : (i : Int) < (b.length : Int) := by omega
    have h0 : (0 : Int) ≤ (i : Int) := by omega
    rw [drop_at hlt, drop_at hlt']
    simp only [l15_0, wp_ite, wp_chk, wp_ret, getD_at hlt, getD_at hlt', wsucc hlt hn, h1, h1', h0, decide_true, if_true, true_and]
    by_cases hc : a[i] = b[i]
    · have e : decide (a[i] :: a.drop (i + 1) = b[i] :: b.drop (i + 1)) = decide (a.drop (i + 1) = b.drop (i + 1)) := by
        rw [decide_eq_decide, List.cons.injEq]; simp only [hc, true_and]
      rw [e]
      simp only [hc, bne_self_eq_false, Bool.false_eq_true, if_false]
      exact ih (i + 1) (by omega)
    · have e : decide (a[i] :: a.drop (i + 1) = b[i] :: b.drop (i + 1)) = false := by
        rw [decide_eq_false_iff_not, List.cons.injEq]; exact fun h => hc h.1
      rw [e]
      have h2 : (a[i] != b[i]) = true := by simpa using hc
      simp only [h2, if_true]
      rfl

theorem s1500 (a b : List Int) (hn : a.length ≤ 1000000) : S 1500 ((a, b, ()), ()) ((decide (a = b), ()), ()) := by
  refine r1500 _ _ ?_
  simp only [t15, wp_ite]
  by_cases h : a.length = b.length
  · have h1 : ((a.length : Int) != (b.length : Int)) = false := by simp [h]
    simp only [h1, Bool.false_eq_true, if_false, wp_act]
    refine ⟨endB (decide (a = b)), s1501 a b hn h a.length 0 (by omega), ?_⟩
    cases decide (a = b) <;> rfl
  · have h1 : ((a.length : Int) != (b.length : Int)) = true := by simp; omega
    simp only [h1, if_true, wp_ret]
    have e : decide (a = b) = false := by simp; intro e; exact h (by rw [e])
    rw [e]

/-! ### the same automata -/
theorem eqMove (a b : Move) : eqEl tM (a.1, a.2.1, a.2.2) (b.1, b.2.1, b.2.2) = decide (a = b) := by
  obtain ⟨a1, a2, a3⟩ := a
  obtain ⟨b1, b2, b3⟩ := b
  show (a1 == b1 && (a2 == b2 && a3 == b3)) = _
  rw [Bool.eq_iff_iff]
  simp

theorem s2002 (s n : Nat) (m1 : List (List Move)) (a1 : List Int) (m2 : List (List Move)) (a2 : List Int) (hs : s < m1.length) (hs' : s < m2.length) (hn : m1[s].length ≤ 1000000) (hl : m1[s].length = m2[s].length) : ∀ k i, i + k = m1[s].length →
    S 2002 (((s : Int), (n : Int), (s : Int), (m1[s].length : Int), (i : Int), ()), (m1, a1, ()), (m2, a2, ()), ()) (out2 (decide (m1[s].drop i = m2[s].drop i)) (((n : Int), (s : Int), ()), (m1, a1, ()), (m2, a2, ()), ())) := by
  intro k
  induction k with
  | zero =>
    intro i hi
    refine r2002 _ _ _ _ _ _ _ _ _ ?_
    have h1 : ¬ (i : Int) < (m1[s].length : Int) := by omega
    rw [List.drop_eq_nil_of_le (show m1[s].length ≤ i by omega), List.drop_eq_nil_of_le (show m2[s].length ≤ i by omega)]
    simp only [l20_1, wp_ite, h1, decide_false, Bool.false_eq_true, if_false, wp_ret]
    rfl
  | succ k ih =>
    intro i hi
    refine r2002 _ _ _ _ _ _ _ _ _ ?_
    have hlt : i < m1[s].length := by omega
    have hlt' : i < m2[s].length := by omega
    have h1 : (i : Int) < (m1[s].length : Int) := by omega
    have h1' : (i : Int) < (m2[s].length : Int) := by omega
    have h0 : (0 : Int) ≤ (i : Int) := by omega
    have h2 : (0 : Int) ≤ (s : Int) := by omega
    have h3 : (s : Int) < (m1.length : Int) := by omega
    have h3' : (s : Int) < (m2.length : Int) := by omega
    rw [drop_at hlt, drop_at hlt']
    simp only [l20_1, wp_ite, wp_chk, wp_ret, getD_at hs, getD_at hs', getD_at hlt, getD_at hlt', wsucc hlt hn, h1, h1', h0, h2, h3, h3', decide_true, if_true, true_and]
    erw [eqMove m1[s][i] m2[s][i]]
    by_cases hc : m1[s][i] = m2[s][i]
    · have e : decide (m1[s][i] :: m1[s].drop (i + 1) = m2[s][i] :: m2[s].drop (i + 1)) = decide (m1[s].drop (i + 1) = m2[s].drop (i + 1)) := by
        rw [decide_eq_decide, List.cons.injEq]; simp only [hc, true_and]
      rw [e]
      simp only [hc, decide_true, Bool.not_true, Bool.false_eq_true, if_false]
      exact ih (i + 1) (by omega)
    · have e : decide (m1[s][i] :: m1[s].drop (i + 1) = m2[s][i] :: m2[s].drop (i + 1)) = false := by
        rw [decide_eq_false_iff_not, List.cons.injEq]; exact fun h => hc h.1
      rw [e]
      simp only [hc, decide_false, Bool.not_false, if_true]
      rfl

theorem s2001 (m1 : List (List Move)) (a1 : List Int) (m2 : List (List Move)) (a2 : List Int) (hn : m1.length ≤ 1000000) (hn2 : ∀ l ∈ m1, l.length ≤ 1000000) (hl : m1.length = m2.length) : ∀ k i, i + k = m1.length →
    S 2001 (((m1.length : Int), (i : Int), ()), (m1, a1, ()), (m2, a2, ()), ()) (endB (decide (m1.drop i = m2.drop i))) := by
  intro k
  induction k with
  | zero =>
    intro i hi
    refine r2001 _ _ _ _ _ _ ?_
    have h1 : ¬ (i : Int) < (m1.length : Int) := by omega
    rw [List.drop_eq_nil_of_le (show m1.length ≤ i by omega), List.drop_eq_nil_of_le (show m2.length ≤ i by omega)]
    simp only [l20_0, wp_ite, h1, decide_false, Bool.false_eq_true, if_false, wp_ret]
    rfl
  | succ k ih =>
    intro i hi
    refine r2001 _ _ _ _ _ _ ?_
    have hlt : i < m1.length := by omega
    have hlt' : i < m2.length := by omega
    have h1 : (i : Int) < (m1.length : Int) := by omega
    have h1' : (i : Int) < (m2.length : Int) := by omega
    have h0 : (0 : Int) ≤ (i : Int) := by omega
    rw [drop_at hlt, drop_at hlt']
    simp only [l20_0, wp_ite, wp_chk, wp_ret, getD_at hlt, getD_at hlt', h1, h1', h0, decide_true, if_true, true_and]
    by_cases hc : m1[i].length = m2[i].length
    · have h2 : ((m1[i].length : Int) != (m2[i].length : Int)) = false := by simp [hc]
      simp only [h2, Bool.false_eq_true, if_false, wp_act]
      have hb := s2002 i m1.length m1 a1 m2 a2 hlt hlt' (hn2 _ (List.getElem_mem _)) hc m1[i].length 0 (by omega)
      rw [List.drop_zero, List.drop_zero] at hb
      refine ⟨_, hb, ?_⟩
      by_cases he : m1[i] = m2[i]
      · have e : decide (m1[i] :: m1.drop (i + 1) = m2[i] :: m2.drop (i + 1)) = decide (m1.drop (i + 1) = m2.drop (i + 1)) := by
          rw [decide_eq_decide, List.cons.injEq]; simp only [he, true_and]
        rw [e, decide_eq_true he]
        show S 2001 (((m1.length : Int), IntKind.wrap IntKind.i64 ((i : Int) + 1), ()), (m1, a1, ()), (m2, a2, ()), ()) _
        rw [wsucc hlt hn]
        exact ih (i + 1) (by omega)
      · have e : decide (m1[i] :: m1.drop (i + 1) = m2[i] :: m2.drop (i + 1)) = false := by
          rw [decide_eq_false_iff_not, List.cons.injEq]; exact fun h => he h.1
        rw [e, decide_eq_false he]
        rfl
    · have h2 : ((m1[i].length : Int) != (m2[i].length : Int)) = true := by simp; omega
      have e : decide (m1[i] :: m1.drop (i + 1) = m2[i] :: m2.drop (i + 1)) = false := by
        rw [decide_eq_false_iff_not, List.cons.injEq]; exact fun h => hc (by rw [h.1])
      rw [e]
      simp only [h2, if_true]
      rfl

theorem s2000 (m1 : List (List Move)) (a1 : List Int) (m2 : List (List Move)) (a2 : List Int) (hn : m1.length ≤ 1000000) (hn2 : ∀ l ∈ m1, l.length ≤ 1000000) (ha : a1.length ≤ 1000000) :
    S 2000 (((m1, a1), (m2, a2), ()), ()) ((decide (m1 = m2 ∧ a1 = a2), ()), ()) := by
  refine r2000 _ _ _ _ ?_
  simp only [t20, wp_act]
  refine ⟨_, s1500 a1 a2 ha, ?_⟩
  simp only [wp_ite]
  by_cases he : a1 = a2
  · by_cases hl : m1.length = m2.length
    · have h1 : ((m1.length : Int) != (m2.length : Int)) = false := by simp [hl]
      simp only [he, decide_true, Bool.not_true, Bool.false_or, h1, Bool.false_eq_true, if_false, wp_act, and_true]
      have hb := s2001 m1 a2 m2 a2 hn hn2 hl m1.length 0 (by omega)
      rw [List.drop_zero, List.drop_zero] at hb
      refine ⟨_, hb, ?_⟩
      cases decide (m1 = m2) <;> rfl
    · have h1 : ((m1.length : Int) != (m2.length : Int)) = true := by simp; omega
      have h2 : ¬ (m1 = m2 ∧ a1 = a2) := fun h => hl (by rw [h.1])
      simp only [he, decide_true, Bool.not_true, Bool.false_or, h1, if_true, wp_ret]
      have h3 : ¬ (m1 = m2 ∧ True) := fun h => hl (by rw [h.1])
      simp only [h3, decide_false]
  · have h2 : ¬ (m1 = m2 ∧ a1 = a2) := fun h => he h.2
    simp only [he, decide_false, Bool.not_false, Bool.true_or, if_true, wp_ret, and_false]

end Go.Proofs.YtjmnjimlkljhjaaV

/- Whether an automaton may be: the two ways. -/
set_option linter.unusedVariables false
namespace Go.Proofs.YtjmnjimlkljhjaaV
open Go Go.Proofs

def TyM (m : Move) : Prop := 0 ≤ m.1 ∧ m.1 ≤ 255 ∧ 0 ≤ m.2.1 ∧ m.2.1 ≤ 255 ∧ -9223372036854775808 ≤ m.2.2 ∧ m.2.2 ≤ 9223372036854775807

/-- A state's moves, behind one that ended at e and led to t. -/
def okL (n : Int) : Int → Int → List Move → Bool
  | _, _, [] => true
  | e, t, m :: l => !(decide (m.1 > m.2.1) || decide (m.2.2 < 0) || decide (m.2.2 ≥ n) || decide (m.1 ≤ e) || (m.1 == e + 1 && m.2.2 == t)) && okL n m.2.1 m.2.2 l

def okA (d : Dfa) : Bool :=
  decide (1 ≤ d.1.length) && decide (d.1.length ≤ 2000) && decide (d.2.length = d.1.length) && d.2.all (fun a => decide (-1 ≤ a)) && d.1.all (okL (d.1.length : Int) (-1) (-1))

/-- What ended ahead of the i-th. -/
def prevE (l : List Move) : Nat → Int
  | 0 => -1
  | i + 1 => (l.getD i (0, 0, 0)).2.1
def prevT (l : List Move) : Nat → Int
  | 0 => -1
  | i + 1 => (l.getD i (0, 0, 0)).2.2

abbrev out30 {A : Type} (b : Bool) (a : A) : A ⊕ (Int × PUnit) × PUnit := if b = true then .inl a else .inr ((30, ()), ())

theorem s1202 (n : Int) (s : Nat) (x2 : Int) (ms : List (List Move)) (ac : List Int) (hs : s < ms.length) (hn : ms[s].length ≤ 1000000) (hty : ∀ m ∈ ms[s], TyM m) : ∀ k i, i + k = ms[s].length →
    S 1202 ((n, (s : Int), x2, (s : Int), ms[s], (ms[s].length : Int), (i : Int), ()), (ms, ac, ()), ()) (out30 (okL n (prevE ms[s] i) (prevT ms[s] i) (ms[s].drop i)) ((n, x2, (s : Int), ()), (ms, ac, ()), ())) := by
  intro k
  induction k with
  | zero =>
    intro i hi
    refine r1202 _ _ _ _ _ _ _ _ _ ?_
    have h1 : ¬ (i : Int) < (ms[s].length : Int) := by omega
    rw [List.drop_eq_nil_of_le (show ms[s].length ≤ i by omega)]
    simp only [l12_1, wp_ite, h1, decide_false, Bool.false_eq_true, if_false, wp_ret]
    rfl
  | succ k ih =>
    intro i hi
    refine r1202 _ _ _ _ _ _ _ _ _ ?_
    have hlt : i < ms[s].length := by omega
    have h1 : (i : Int) < (ms[s].length : Int) := by omega
    have h0 : (0 : Int) ≤ (i : Int) := by omega
    have h2 : (0 : Int) ≤ (s : Int) := by omega
    have h3 : (s : Int) < (ms.length : Int) := by omega
    have ht := hty _ (List.getElem_mem hlt)
    have ih := ih (i + 1) (by omega)
    rw [drop_at hlt]
    have eok : okL n (prevE ms[s] i) (prevT ms[s] i) (ms[s][i] :: ms[s].drop (i + 1)) =
        (!(decide (ms[s][i].1 > ms[s][i].2.1) || decide (ms[s][i].2.2 < 0) || decide (ms[s][i].2.2 ≥ n) || decide (ms[s][i].1 ≤ prevE ms[s] i) || (ms[s][i].1 == prevE ms[s] i + 1 && ms[s][i].2.2 == prevT ms[s] i)) && okL n ms[s][i].2.1 ms[s][i].2.2 (ms[s].drop (i + 1))) := rfl
    have e1 : prevE ms[s] (i + 1) = ms[s][i].2.1 := by simp [prevE, List.getD_eq_getElem?_getD, hlt]
    have e2 : prevT ms[s] (i + 1) = ms[s][i].2.2 := by simp [prevT, List.getD_eq_getElem?_getD, hlt]
    rw [e1, e2] at ih
    simp only [l12_1, wp_ite, wp_chk, wp_ret, getD_at hs, getD_at hlt, wsucc hlt hn, h1, h0, h2, h3, decide_true, if_true, true_and]
    cases hb : (decide (ms[s][i].1 > ms[s][i].2.1) || decide (ms[s][i].2.2 < 0) || decide (ms[s][i].2.2 ≥ n)) with
    | true =>
      rw [eok, hb]
      simp only [if_true]
      rfl
    | false =>
      simp only [Bool.false_eq_true, if_false]
      cases i with
      | zero =>
        have e3 : ((ms[s][0].1 == prevE ms[s] 0 + 1) && (ms[s][0].2.2 == prevT ms[s] 0)) = false := by
          simp only [Bool.or_eq_false_iff, decide_eq_false_iff_not] at hb
          simp only [prevE, prevT, Bool.and_eq_false_iff, beq_eq_false_iff_ne]
          omega
        have hp : prevE ms[s] 0 = -1 := rfl
        have e4 : decide (ms[s][0].1 ≤ prevE ms[s] 0) = false := by
          rw [hp, decide_eq_false_iff_not]
          have := ht.1; omega
        rw [eok, hb, e3, e4]
        have e5 : (((0 : Nat) : Int) == 0) = true := rfl
        simp only [e5, if_true, Bool.or_self, Bool.not_false, Bool.true_and]
        exact ih
      | succ j =>
        have hj : j < ms[s].length := by omega
        have htj := hty _ (List.getElem_mem hj)
        have e5 : (((j + 1 : Nat) : Int) == 0) = false := by simp; omega
        have e6 : IntKind.wrap IntKind.i64 (((j + 1 : Nat) : Int) - 1) = (j : Int) := by rw [w64 (by omega)]; omega
        have e7 : prevE ms[s] (j + 1) = ms[s][j].2.1 := by simp [prevE, List.getD_eq_getElem?_getD, hj]
        have e8 : prevT ms[s] (j + 1) = ms[s][j].2.2 := by simp [prevT, List.getD_eq_getElem?_getD, hj]
        have e9 : (0 : Int) ≤ (j : Int) := by omega
        have e10 : (j : Int) < (ms[s].length : Int) := by omega
        have e11 : IntKind.wrap IntKind.i64 ms[s][j + 1].1 = ms[s][j + 1].1 := w64 (by have := ht.1; have := ht.2.1; omega)
        have e12 : IntKind.wrap IntKind.i64 (IntKind.wrap IntKind.i64 ms[s][j].2.1 + 1) = ms[s][j].2.1 + 1 := by
          have h4 := htj.2.2.1
          have h5 := htj.2.2.2.1
          rw [w64 (n := ms[s][j].2.1) (by omega), w64 (by omega)]
        rw [eok, hb, e7, e8]
        simp only [e5, e6, e9, e10, e11, e12, getD_at hj, Bool.false_eq_true, if_false, decide_true, true_and, Bool.false_or]
        cases hc : decide (ms[s][j + 1].1 ≤ ms[s][j].2.1) with
        | true => simp only [if_true]; rfl
        | false =>
          simp only [Bool.false_eq_true, if_false, Bool.false_or]
          cases hd : (ms[s][j + 1].1 == ms[s][j].2.1 + 1 && ms[s][j + 1].2.2 == ms[s][j].2.2) with
          | true => simp only [if_true]; rfl
          | false =>
            simp only [Bool.false_eq_true, if_false, Bool.not_false, Bool.true_and]
            exact ih

def okR (n : Int) : List Int → List (List Move) → Bool
  | a :: bs, l :: ls => (decide (-1 ≤ a) && okL n (-1) (-1) l) && okR n bs ls
  | _, _ => true

theorem okR_eq (n : Int) : ∀ (bs : List Int) (ls : List (List Move)), bs.length = ls.length → okR n bs ls = (bs.all (fun a => decide (-1 ≤ a)) && ls.all (okL n (-1) (-1))) := by
  intro bs
  induction bs with
  | nil => intro ls h; cases ls with
    | nil => rfl
    | cons l ls => simp at h
  | cons a bs ih =>
    intro ls h
    cases ls with
    | nil => simp at h
    | cons l ls =>
      simp only [okR, List.all_cons]
      rw [ih ls (by simpa using h)]
      cases decide (-1 ≤ a) <;> cases okL n (-1) (-1) l <;> cases bs.all (fun a => decide (-1 ≤ a)) <;> rfl

theorem s1201 (ms : List (List Move)) (ac : List Int) (hl : ac.length = ms.length) (hn : ms.length ≤ 1000000) (hn2 : ∀ l ∈ ms, l.length ≤ 1000000) (hty : ∀ l ∈ ms, ∀ m ∈ l, TyM m) : ∀ k i, i + k = ms.length →
    S 1201 (((ms.length : Int), (ms.length : Int), (i : Int), ()), (ms, ac, ()), ()) (out30 (okR (ms.length : Int) (ac.drop i) (ms.drop i)) ((), ())) := by
  intro k
  induction k with
  | zero =>
    intro i hi
    refine r1201 _ _ _ _ _ ?_
    have h1 : ¬ (i : Int) < (ms.length : Int) := by omega
    rw [List.drop_eq_nil_of_le (show ms.length ≤ i by omega), List.drop_eq_nil_of_le (show ac.length ≤ i by omega)]
    simp only [l12_0, wp_ite, h1, decide_false, Bool.false_eq_true, if_false, wp_ret]
    rfl
  | succ k ih =>
    intro i hi
    refine r1201 _ _ _ _ _ ?_
    have hlt : i < ms.length := by omega
    have hlt' : i < ac.length := by omega
    have h1 : (i : Int) < (ms.length : Int) := by omega
    have h1' : (i : Int) < (ac.length : Int) := by omega
    have h0 : (0 : Int) ≤ (i : Int) := by omega
    rw [drop_at hlt, drop_at hlt']
    simp only [l12_0, wp_ite, wp_chk, wp_ret, getD_at hlt, getD_at hlt', h1, h1', h0, decide_true, if_true, true_and]
    by_cases hc : ac[i] < -1
    · have e : okR (ms.length : Int) (ac[i] :: ac.drop (i + 1)) (ms[i] :: ms.drop (i + 1)) = false := by
        have : decide (-1 ≤ ac[i]) = false := by simp; omega
        simp only [okR, this, Bool.false_and]
      rw [e]
      simp only [hc, decide_true, if_true]
      rfl
    · simp only [hc, decide_false, Bool.false_eq_true, if_false, wp_act]
      have hb := s1202 (ms.length : Int) i (ms.length : Int) ms ac hlt (hn2 _ (List.getElem_mem hlt)) (hty _ (List.getElem_mem hlt)) ms[i].length 0 (by omega)
      rw [List.drop_zero] at hb
      refine ⟨_, hb, ?_⟩
      have hc' : decide (-1 ≤ ac[i]) = true := by simp; omega
      have e : okR (ms.length : Int) (ac[i] :: ac.drop (i + 1)) (ms[i] :: ms.drop (i + 1)) = (okL (ms.length : Int) (-1) (-1) ms[i] && okR (ms.length : Int) (ac.drop (i + 1)) (ms.drop (i + 1))) := by
        simp only [okR, hc', Bool.true_and]
      rw [e]
      show Tree.wp _ _ _
      have e2 : okL (ms.length : Int) (prevE ms[i] 0) (prevT ms[i] 0) ms[i] = okL (ms.length : Int) (-1) (-1) ms[i] := rfl
      rw [e2]
      cases okL (ms.length : Int) (-1) (-1) ms[i] with
      | false => rfl
      | true =>
        rw [Bool.true_and]
        show S 1201 (((ms.length : Int), (ms.length : Int), IntKind.wrap IntKind.i64 ((i : Int) + 1), ()), (ms, ac, ()), ()) _
        rw [wsucc hlt hn]
        exact ih (i + 1) (by omega)

theorem s1200 (ms : List (List Move)) (ac : List Int) (hn : ms.length ≤ 1000000) (hn2 : ∀ l ∈ ms, l.length ≤ 1000000) (hty : ∀ l ∈ ms, ∀ m ∈ l, TyM m) :
    S 1200 (((ms, ac), ()), ()) ((if okA (ms, ac) = true then 0 else 30, ()), ()) := by
  refine r1200 _ _ ?_
  simp only [t12, wp_ite]
  by_cases h : 1 ≤ ms.length ∧ ms.length ≤ 2000 ∧ ac.length = ms.length
  · have h1 : (decide ((ms.length : Int) < 1) || decide ((ms.length : Int) > 2000) || (ac.length : Int) != (ms.length : Int)) = false := by
      simp only [Bool.or_eq_false_iff, decide_eq_false_iff_not, bne_eq_false_iff_eq]; omega
    simp only [h1, Bool.false_eq_true, if_false, wp_act]
    have hb := s1201 ms ac h.2.2 hn hn2 hty ms.length 0 (by omega)
    rw [List.drop_zero, List.drop_zero, okR_eq _ _ _ h.2.2] at hb
    refine ⟨_, hb, ?_⟩
    have e : okA (ms, ac) = (ac.all (fun a => decide (-1 ≤ a)) && ms.all (okL (ms.length : Int) (-1) (-1))) := by
      simp only [okA, h.1, h.2.1, h.2.2, decide_true, Bool.true_and]
    rw [e]
    cases (ac.all (fun a => decide (-1 ≤ a)) && ms.all (okL (ms.length : Int) (-1) (-1))) <;> rfl
  · have h1 : (decide ((ms.length : Int) < 1) || decide ((ms.length : Int) > 2000) || (ac.length : Int) != (ms.length : Int)) = true := by
      simp only [Bool.or_eq_true, decide_eq_true_eq, bne_iff_ne]; omega
    simp only [h1, if_true, wp_ret]
    have e : okA (ms, ac) = false := by
      have : (decide (1 ≤ ms.length) && decide (ms.length ≤ 2000) && decide (ac.length = ms.length)) = false := by
        simp only [Bool.and_eq_false_iff, decide_eq_false_iff_not]; omega
      simp only [okA, this, Bool.false_and]
    rw [e]
    rfl

/-! ### the program's own way -/
theorem s3301 (l : List Int) (hn : l.length ≤ 1000000) : ∀ k i x, i + k = l.length → S 3301 ((l, x, (i : Int), ()), ()) (((l.drop i).foldl imin x, ()), ()) := by
  intro k
  induction k with
  | zero =>
    intro i x hi
    refine r3301 _ _ _ ?_
    have h1 : ¬ (i : Int) < (l.length : Int) := by omega
    rw [List.drop_eq_nil_of_le (show l.length ≤ i by omega)]
    simp only [l33_0, wp_ite, h1, decide_false, Bool.false_eq_true, if_false, wp_ret]
    rfl
  | succ k ih =>
    intro i x hi
    refine r3301 _ _ _ ?_
    have hlt : i < l.length := by omega
    have h1 : (i : Int) < (l.length : Int) := by omega
    have h0 : (0 : Int) ≤ (i : Int) := by omega
    rw [drop_at hlt, List.foldl_cons]
    simp only [l33_0, wp_ite, wp_chk, wp_ret, getD_at hlt, wsucc hlt hn, h1, h0, decide_true, if_true, true_and]
    exact ih (i + 1) _ (by omega)

theorem imin_fold (l : List Int) : ∀ x, (l.foldl imin x < -1) ↔ (x < -1 ∨ ∃ a ∈ l, a < -1) := by
  induction l with
  | nil => intro x; simp
  | cons b l ih =>
    intro x
    rw [List.foldl_cons, ih]
    simp only [List.mem_cons, exists_eq_or_imp]
    have : imin x b < -1 ↔ x < -1 ∨ b < -1 := by unfold imin; split <;> omega
    rw [this]
    constructor
    · rintro ((h | h) | h)
      · exact .inl h
      · exact .inr (.inl h)
      · exact .inr (.inr h)
    · rintro (h | h | h)
      · exact .inl (.inl h)
      · exact .inl (.inr h)
      · exact .inr h

theorem s3300 (l : List Int) (hn : l.length ≤ 1000000) (hp : 0 < l.length) : ∃ v, S 3300 ((l, ()), ()) ((v, ()), ()) ∧ (v < -1 ↔ ∃ a ∈ l, a < -1) := by
  refine ⟨(l.drop 1).foldl imin (l.getD 0 0), ?_, ?_⟩
  · refine r3300 _ ?_
    have h1 : ¬ ((l.length : Int) < 1) := by omega
    have h2 : (0 : Int) < (l.length : Int) := by omega
    simp only [t33, wp_ite, h1, decide_false, Bool.false_eq_true, if_false, wp_chk, h2, decide_true, true_and, wp_act]
    exact ⟨_, s3301 l hn (l.length - 1) 1 _ (by omega), rfl⟩
  · rw [imin_fold]
    cases l with
    | nil => simp at hp
    | cons a l => simp

theorem s2602 (ms : List (List Move)) (l : List Move) (s : Nat) (n' : Int) (ac : List Int) (hn : l.length ≤ 1000000) (hty : ∀ m ∈ l, TyM m) : ∀ k i (e : Int) (p q t : Int), i + k = l.length → -1 ≤ e → e ≤ 255 → ((e = -1 ∧ t = -1) ∨ 0 ≤ e) →
    S 2602 ((e, ms, n', (s : Int), l, (l.length : Int), (i : Int), ()), (ms, ac, ()), (p, q, t, ()), ()) (out30 (okL (ms.length : Int) e t (l.drop i)) ((ms, n', (s : Int), ()), (ms, ac, ()), ())) := by
  intro k
  induction k with
  | zero =>
    intro i e p q t hi _ _ _
    refine r2602 _ _ _ _ _ _ _ _ _ _ _ _ ?_
    have h1 : ¬ (i : Int) < (l.length : Int) := by omega
    rw [List.drop_eq_nil_of_le (show l.length ≤ i by omega)]
    simp only [l26_1, wp_ite, h1, decide_false, Bool.false_eq_true, if_false, wp_ret]
    rfl
  | succ k ih =>
    intro i e p q t hi he1 he2 het
    refine r2602 _ _ _ _ _ _ _ _ _ _ _ _ ?_
    have hlt : i < l.length := by omega
    have h1 : (i : Int) < (l.length : Int) := by omega
    have h0 : (0 : Int) ≤ (i : Int) := by omega
    have ht := hty _ (List.getElem_mem hlt)
    obtain ⟨t1, t2, t3, t4, t5, t6⟩ := ht
    rw [drop_at hlt]
    have eok : okL (ms.length : Int) e t (l[i] :: l.drop (i + 1)) =
        (!(decide (l[i].1 > l[i].2.1) || decide (l[i].2.2 < 0) || decide (l[i].2.2 ≥ (ms.length : Int)) || decide (l[i].1 ≤ e) || (l[i].1 == e + 1 && l[i].2.2 == t)) && okL (ms.length : Int) l[i].2.1 l[i].2.2 (l.drop (i + 1))) := rfl
    rw [eok]
    have e1 : IntKind.wrap IntKind.i64 l[i].1 = l[i].1 := w64 (by omega)
    have e2 : IntKind.wrap IntKind.i64 l[i].2.1 = l[i].2.1 := w64 (by omega)
    have e3 : IntKind.wrap IntKind.i64 (e + 1) = e + 1 := w64 (by omega)
    simp only [l26_1, wp_ite, wp_chk, wp_ret, getD_at hlt, wsucc hlt hn, h1, h0, decide_true, if_true, true_and, e1, e2, e3]
    cases hb : (decide (l[i].1 > l[i].2.1) || decide (l[i].2.2 < 0) || decide (l[i].2.2 ≥ (ms.length : Int)) || decide (l[i].1 ≤ e)) with
    | true => simp only [if_true]; rfl
    | false =>
      simp only [Bool.false_eq_true, if_false, Bool.false_or]
      cases hd : (l[i].1 == e + 1 && l[i].2.2 == t) with
      | true => simp only [if_true]; rfl
      | false =>
        simp only [Bool.false_eq_true, if_false, Bool.not_false, Bool.true_and]
        exact ih (i + 1) _ _ _ _ (by omega) (by omega) (by omega) (by omega)

theorem s2601 (ms : List (List Move)) (ac : List Int) (hn : ms.length ≤ 1000000) (hn2 : ∀ l ∈ ms, l.length ≤ 1000000) (hty : ∀ l ∈ ms, ∀ m ∈ l, TyM m) : ∀ k i, i + k = ms.length →
    S 2601 ((ms, (ms.length : Int), (i : Int), ()), (ms, ac, ()), ()) (out30 ((ms.drop i).all (okL (ms.length : Int) (-1) (-1))) ((), ())) := by
  intro k
  induction k with
  | zero =>
    intro i hi
    refine r2601 _ _ _ _ _ ?_
    have h1 : ¬ (i : Int) < (ms.length : Int) := by omega
    rw [List.drop_eq_nil_of_le (show ms.length ≤ i by omega)]
    simp only [l26_0, wp_ite, h1, decide_false, Bool.false_eq_true, if_false, wp_ret]
    rfl
  | succ k ih =>
    intro i hi
    refine r2601 _ _ _ _ _ ?_
    have hlt : i < ms.length := by omega
    have h1 : (i : Int) < (ms.length : Int) := by omega
    have h0 : (0 : Int) ≤ (i : Int) := by omega
    rw [drop_at hlt, List.all_cons]
    simp only [l26_0, wp_ite, wp_chk, wp_ret, getD_at hlt, h1, h0, decide_true, if_true, true_and, wp_act]
    have hb := s2602 ms ms[i] i (ms.length : Int) ac (hn2 _ (List.getElem_mem hlt)) (hty _ (List.getElem_mem hlt)) ms[i].length 0 (-1) 0 0 (-1) (by omega) (by omega) (by omega) (.inl ⟨rfl, rfl⟩)
    rw [List.drop_zero] at hb
    refine ⟨_, hb, ?_⟩
    cases okL (ms.length : Int) (-1) (-1) ms[i] with
    | false => rfl
    | true =>
      rw [Bool.true_and]
      show S 2601 ((ms, (ms.length : Int), IntKind.wrap IntKind.i64 ((i : Int) + 1), ()), (ms, ac, ()), ()) _
      rw [wsucc hlt hn]
      exact ih (i + 1) (by omega)

theorem s2600 (ms : List (List Move)) (ac : List Int) (hn : ms.length ≤ 1000000) (hn2 : ∀ l ∈ ms, l.length ≤ 1000000) (hty : ∀ l ∈ ms, ∀ m ∈ l, TyM m) :
    S 2600 (((ms, ac), ()), ()) ((if okA (ms, ac) = true then 0 else 30, ()), ()) := by
  refine r2600 _ _ ?_
  simp only [t26, wp_ite]
  by_cases h : 1 ≤ ms.length ∧ ms.length ≤ 2000 ∧ ac.length = ms.length
  · have h1 : ((ms.length : Int) == 0 || decide ((ms.length : Int) > 2000) || (ac.length : Int) != (ms.length : Int)) = false := by
      simp only [Bool.or_eq_false_iff, decide_eq_false_iff_not, bne_eq_false_iff_eq, beq_eq_false_iff_ne]; omega
    simp only [h1, Bool.false_eq_true, if_false, wp_act]
    obtain ⟨v, hv, hvi⟩ := s3300 ac (by omega) (by omega)
    refine ⟨_, hv, ?_⟩
    simp only [wp_ite]
    have e : okA (ms, ac) = (ac.all (fun a => decide (-1 ≤ a)) && ms.all (okL (ms.length : Int) (-1) (-1))) := by
      simp only [okA, h.1, h.2.1, h.2.2, decide_true, Bool.true_and]
    rw [e]
    by_cases hc : v < -1
    · obtain ⟨a, ha, hlt⟩ := hvi.1 hc
      have e2 : ac.all (fun a => decide (-1 ≤ a)) = false := by
        rw [List.all_eq_false]; exact ⟨a, ha, by simp; omega⟩
      rw [e2]
      simp only [hc, decide_true, if_true]
      rfl
    · have e2 : ac.all (fun a => decide (-1 ≤ a)) = true := by
        rw [List.all_eq_true]
        intro a ha
        rw [decide_eq_true_eq]
        rcases Int.lt_or_le a (-1) with h3 | h3
        · exact absurd (hvi.2 ⟨a, ha, h3⟩) hc
        · exact h3
      rw [e2, Bool.true_and]
      simp only [hc, decide_false, Bool.false_eq_true, if_false, wp_act]
      have hb := s2601 ms ac hn hn2 hty ms.length 0 (by omega)
      rw [List.drop_zero] at hb
      refine ⟨_, hb, ?_⟩
      cases ms.all (okL (ms.length : Int) (-1) (-1)) <;> rfl
  · have h1 : ((ms.length : Int) == 0 || decide ((ms.length : Int) > 2000) || (ac.length : Int) != (ms.length : Int)) = true := by
      simp only [Bool.or_eq_true, decide_eq_true_eq, bne_iff_ne, beq_iff_eq]; omega
    simp only [h1, if_true, wp_ret]
    have e : okA (ms, ac) = false := by
      have : (decide (1 ≤ ms.length) && decide (ms.length ≤ 2000) && decide (ac.length = ms.length)) = false := by
        simp only [Bool.and_eq_false_iff, decide_eq_false_iff_not]; omega
      simp only [okA, this, Bool.false_and]
    rw [e]
    rfl

end Go.Proofs.YtjmnjimlkljhjaaV

/- Where an automaton goes: the two ways; what a text comes to. -/
set_option linter.unusedVariables false
namespace Go.Proofs.YtjmnjimlkljhjaaV
open Go Go.Proofs

def nxL (c : Int) : List Move → Int
  | [] => -1
  | m :: l => if c ≥ m.1 ∧ c ≤ m.2.1 then m.2.2 else nxL c l

def nx (ms : List (List Move)) (s c : Int) : Int := if s < 0 ∨ s ≥ (ms.length : Int) then -1 else nxL c (ms.getD s.toNat [])

abbrev outI {A : Type} (o : Option Int) (a : A) : A ⊕ (Int × PUnit) × PUnit := match o with | none => .inl a | some v => .inr ((v, ()), ())

def nxO (c : Int) : List Move → Option Int
  | [] => none
  | m :: l => if c ≥ m.1 ∧ c ≤ m.2.1 then some m.2.2 else nxO c l

theorem nxO_eq (c : Int) : ∀ l, nxL c l = (nxO c l).getD (-1) := by
  intro l
  induction l with
  | nil => rfl
  | cons m l ih => simp only [nxL, nxO]; split; rfl; exact ih

theorem s2701 (c : Int) (l : List Move) (hn : l.length ≤ 1000000) : ∀ k i, i + k = l.length → S 2701 ((c, l, (l.length : Int), (i : Int), ()), ()) (outI (nxO c (l.drop i)) ((), ())) := by
  intro k
  induction k with
  | zero =>
    intro i hi
    refine r2701 _ _ _ _ ?_
    have h1 : ¬ (i : Int) < (l.length : Int) := by omega
    rw [List.drop_eq_nil_of_le (show l.length ≤ i by omega)]
    simp only [l27_0, wp_ite, h1, decide_false, Bool.false_eq_true, if_false, wp_ret]
    rfl
  | succ k ih =>
    intro i hi
    refine r2701 _ _ _ _ ?_
    have hlt : i < l.length := by omega
    have h1 : (i : Int) < (l.length : Int) := by omega
    have h0 : (0 : Int) ≤ (i : Int) := by omega
    rw [drop_at hlt]
    simp only [l27_0, wp_ite, wp_chk, wp_ret, getD_at hlt, wsucc hlt hn, h1, h0, decide_true, if_true, true_and]
    by_cases hc : c ≥ l[i].1 ∧ c ≤ l[i].2.1
    · have e : nxO c (l[i] :: l.drop (i + 1)) = some l[i].2.2 := by simp only [nxO, hc, and_self, if_true]
      rw [e]
      simp only [hc.1, hc.2, decide_true, Bool.and_self, if_true]
      rfl
    · have e : nxO c (l[i] :: l.drop (i + 1)) = nxO c (l.drop (i + 1)) := by simp only [nxO, hc, if_false]
      rw [e]
      have h2 : (decide (c ≥ l[i].1) && decide (c ≤ l[i].2.1)) = false := by
        rw [← Bool.decide_and, decide_eq_false_iff_not]; exact hc
      simp only [h2, Bool.false_eq_true, if_false]
      exact ih (i + 1) (by omega)

theorem s2700 (ms : List (List Move)) (ac : List Int) (s c : Int) (hn2 : ∀ l ∈ ms, l.length ≤ 1000000) : S 2700 (((ms, ac), s, c, ()), ()) ((nx ms s c, ()), ()) := by
  refine r2700 _ _ _ _ ?_
  simp only [t27, wp_ite]
  by_cases h : s < 0 ∨ s ≥ (ms.length : Int)
  · have h1 : (decide (s < 0) || decide (s ≥ (ms.length : Int))) = true := by rw [← Bool.decide_or, decide_eq_true_eq]; exact h
    simp only [h1, if_true, wp_ret, nx, if_pos h]
  · have h1 : (decide (s < 0) || decide (s ≥ (ms.length : Int))) = false := by rw [← Bool.decide_or, decide_eq_false_iff_not]; exact h
    obtain ⟨i, rfl⟩ : ∃ i : Nat, s = (i : Int) := ⟨s.toNat, by omega⟩
    have hlt : i < ms.length := by omega
    have h0 : (0 : Int) ≤ (i : Int) := by omega
    have h2 : (i : Int) < (ms.length : Int) := by omega
    simp only [h1, Bool.false_eq_true, if_false, wp_chk, h0, h2, decide_true, true_and, wp_act, getD_at hlt]
    have hb := s2701 c ms[i] (hn2 _ (List.getElem_mem hlt)) ms[i].length 0 (by omega)
    rw [List.drop_zero] at hb
    refine ⟨_, hb, ?_⟩
    have e : nx ms (i : Int) c = (nxO c ms[i]).getD (-1) := by
      simp only [nx, if_neg h, getD_at hlt, nxO_eq]
    rw [e]
    cases nxO c ms[i] <;> rfl

/-! ### the program's own search -/
def idx (c : Int) : List Move → Nat
  | [] => 0
  | m :: l => if m.2.1 < c then idx c l + 1 else 0

theorem idx_le (c : Int) : ∀ l, idx c l ≤ l.length := by
  intro l
  induction l with
  | nil => exact Nat.le_refl _
  | cons m l ih => simp only [idx, List.length_cons]; split <;> omega

theorem idx_lt (c : Int) : ∀ (l : List Move) (j : Nat) (h : j < l.length), j < idx c l → l[j].2.1 < c := by
  intro l
  induction l with
  | nil => intro j h; simp at h
  | cons m l ih =>
    intro j h hj
    simp only [idx] at hj
    split at hj
    · cases j with
      | zero => assumption
      | succ j => exact ih j (by simpa using h) (by omega)
    · omega

theorem idx_at (c : Int) : ∀ (l : List Move) (h : idx c l < l.length), c ≤ l[idx c l].2.1 := by
  intro l
  induction l with
  | nil => intro h; simp at h
  | cons m l ih =>
    intro h
    by_cases hm : m.2.1 < c
    · have e : idx c (m :: l) = idx c l + 1 := by simp only [idx, hm, if_true]
      simp only [e, List.getElem_cons_succ]
      exact ih (by rw [e] at h; simpa using h)
    · have e : idx c (m :: l) = 0 := by simp only [idx, hm, if_false]
      simp only [e, List.getElem_cons_zero]
      omega

/-- Ends that rise. -/
def Rise (l : List Move) : Prop := ∀ i j (hi : i < l.length) (hj : j < l.length), i ≤ j → l[i].2.1 ≤ l[j].2.1

theorem s3500 (i : Nat) (l : List Move) (c : Int) (h : i < l.length) : S 3500 (((i : Int), ()), (l, ()), (c, ()), ()) ((decide (l[i].2.1 ≥ c), ()), (l, ()), (c, ()), ()) := by
  refine r3500 _ _ _ ?_
  have h0 : (0 : Int) ≤ (i : Int) := by omega
  have h1 : (i : Int) < (l.length : Int) := by omega
  simp only [t35, wp_chk, wp_ret, h0, h1, decide_true, true_and, getD_at h]

theorem s3401 (l : List Move) (c : Int) (hn : l.length ≤ 1000000) (hr : Rise l) : ∀ k (lo hi : Nat), hi - lo ≤ k → lo ≤ idx c l → idx c l ≤ hi → hi ≤ l.length →
    S 3401 (((lo : Int), (hi : Int), ()), (l, ()), (c, ()), ()) (((idx c l : Int), ()), (l, ()), (c, ()), ()) := by
  intro k
  induction k with
  | zero =>
    intro lo hi h1 h2 h3 h4
    have e : lo = idx c l := by omega
    refine r3401 _ _ _ _ ?_
    have h5 : ¬ ((lo : Int) < (hi : Int)) := by omega
    simp only [l34_0, wp_ite, h5, decide_false, Bool.false_eq_true, if_false, wp_ret]
    rw [e]
    rfl
  | succ k ih =>
    intro lo hi h1 h2 h3 h4
    refine r3401 _ _ _ _ ?_
    by_cases h5 : (lo : Int) < (hi : Int)
    · have e : IntKind.wrap IntKind.i64 (Int.fdiv (IntKind.wrap IntKind.u64 (IntKind.wrap IntKind.i64 ((lo : Int) + (hi : Int)))) 2) = (((lo + hi) / 2 : Nat) : Int) := by
        rw [w64 (n := (lo : Int) + hi) (by omega), IntWalk.u64_in _ (by omega), Int.fdiv_eq_ediv_of_nonneg _ (by omega), w64 (by omega)]
        omega
      have hm : (lo + hi) / 2 < l.length := by omega
      have e2 : IntKind.wrap IntKind.i64 ((((lo + hi) / 2 : Nat) : Int) + 1) = (((lo + hi) / 2 + 1 : Nat) : Int) := by
        rw [w64 (by omega)]; omega
      simp only [l34_0, wp_ite, h5, decide_true, if_true, wp_chk, true_and, wp_act, e, e2]
      refine ⟨_, s3500 _ l c hm, ?_⟩
      simp only [wp_ite, wp_ret]
      by_cases hc : l[(lo + hi) / 2].2.1 ≥ c
      · simp only [hc, decide_true, Bool.not_true, Bool.false_eq_true, if_false]
        refine ih lo ((lo + hi) / 2) (by omega) h2 ?_ (by omega)
        rcases Nat.lt_or_ge ((lo + hi) / 2) (idx c l) with h6 | h6
        · have := idx_lt c l _ hm h6; omega
        · exact h6
      · simp only [hc, decide_false, Bool.not_false, if_true]
        refine ih ((lo + hi) / 2 + 1) hi (by omega) ?_ h3 h4
        rcases Nat.lt_or_ge ((lo + hi) / 2) (idx c l) with h6 | h6
        · exact h6
        · have h7 : idx c l < l.length := by omega
          have h8 := idx_at c l h7
          have := hr _ _ h7 hm h6
          omega
    · have e : lo = idx c l := by omega
      simp only [l34_0, wp_ite, h5, decide_false, Bool.false_eq_true, if_false, wp_ret]
      rw [e]
      rfl

theorem s3400 (l : List Move) (c : Int) (hn : l.length ≤ 1000000) (hr : Rise l) : S 3400 (((l.length : Int), ()), (l, ()), (c, ()), ()) (((idx c l : Int), ()), (l, ()), (c, ()), ()) := by
  refine r3400 _ _ _ ?_
  simp only [t34, wp_act]
  exact ⟨_, s3401 l c hn hr l.length 0 l.length (by omega) (by omega) (idx_le c l) (Nat.le_refl _), rfl⟩

/-- What moves that may be are like. -/
theorem okL_lo {n : Int} : ∀ {l : List Move} {e t : Int}, okL n e t l = true → ∀ m ∈ l, e < m.1 ∧ m.1 ≤ m.2.1 ∧ 0 ≤ m.2.2 ∧ m.2.2 < n := by
  intro l
  induction l with
  | nil => intro e t _ m hm; cases hm
  | cons x l ih =>
    intro e t h m hm
    simp only [okL, Bool.and_eq_true, Bool.not_eq_true', Bool.or_eq_false_iff, decide_eq_false_iff_not] at h
    obtain ⟨⟨⟨⟨⟨h1, h2⟩, h3⟩, h4⟩, _⟩, h5⟩ := h
    rcases List.mem_cons.1 hm with rfl | hm
    · omega
    · have := ih h5 m hm; omega

theorem okL_rise {n : Int} : ∀ {l : List Move} {e t : Int}, okL n e t l = true → Rise l := by
  intro l
  induction l with
  | nil => intro e t _ i j hi; simp at hi
  | cons x l ih =>
    intro e t h i j hi hj hij
    have hx := okL_lo h x (by simp)
    simp only [okL, Bool.and_eq_true] at h
    cases i with
    | zero =>
      cases j with
      | zero => exact Int.le_refl _
      | succ j =>
        have hj' : j < l.length := by simpa using hj
        have := okL_lo h.2 l[j] (List.getElem_mem hj')
        simp only [List.getElem_cons_zero, List.getElem_cons_succ]
        omega
    | succ i =>
      cases j with
      | zero => omega
      | succ j => exact ih h.2 i j (by simpa using hi) (by simpa using hj) (by omega)

theorem nxL_idx {n : Int} (c : Int) : ∀ {l : List Move} {e t : Int}, okL n e t l = true → nxL c l = if h : idx c l < l.length then (if l[idx c l].1 > c then -1 else l[idx c l].2.2) else -1 := by
  intro l
  induction l with
  | nil => intro e t _; rfl
  | cons x l ih =>
    intro e t h
    have hx := okL_lo h x (by simp)
    simp only [okL, Bool.and_eq_true] at h
    by_cases hm : x.2.1 < c
    · have e1 : idx c (x :: l) = idx c l + 1 := by simp only [idx, hm, if_true]
      have e2 : nxL c (x :: l) = nxL c l := by
        have : ¬ (c ≥ x.1 ∧ c ≤ x.2.1) := by omega
        simp only [nxL, this, if_false]
      rw [e2, ih h.2]
      simp only [e1, List.length_cons, List.getElem_cons_succ, Nat.add_lt_add_iff_right]
    · have e1 : idx c (x :: l) = 0 := by simp only [idx, hm, if_false]
      simp only [e1, List.length_cons, List.getElem_cons_zero, Nat.zero_lt_succ, dif_pos]
      by_cases hc : x.1 > c
      · rw [if_pos hc]
        have e2 : nxL c (x :: l) = nxL c l := by
          have : ¬ (c ≥ x.1 ∧ c ≤ x.2.1) := by omega
          simp only [nxL, this, if_false]
        rw [e2]
        have hall : ∀ m ∈ l, x.2.1 < m.1 := fun m hm2 => (okL_lo h.2 m hm2).1
        clear ih h e2 e1
        induction l with
        | nil => rfl
        | cons y l ih2 =>
          have hy := hall y (by simp)
          have : ¬ (c ≥ y.1 ∧ c ≤ y.2.1) := by omega
          simp only [nxL, this, if_false]
          exact ih2 (fun m hm2 => hall m (by simp [hm2]))
      · rw [if_neg hc]
        have : c ≥ x.1 ∧ c ≤ x.2.1 := by omega
        simp only [nxL, this, and_self, if_true]

theorem s3000 (ms : List (List Move)) (ac : List Int) (s c : Int) (hn2 : ∀ l ∈ ms, l.length ≤ 1000000) (hok : ∀ l ∈ ms, okL (ms.length : Int) (-1) (-1) l = true) : S 3000 (((ms, ac), s, c, ()), ()) ((nx ms s c, ()), ()) := by
  refine r3000 _ _ _ _ ?_
  simp only [t30, wp_ite]
  by_cases h : s < 0 ∨ s ≥ (ms.length : Int)
  · have h1 : (decide (s < 0) || decide (s ≥ (ms.length : Int))) = true := by rw [← Bool.decide_or, decide_eq_true_eq]; exact h
    simp only [h1, if_true, wp_ret, nx, if_pos h]
  · have h1 : (decide (s < 0) || decide (s ≥ (ms.length : Int))) = false := by rw [← Bool.decide_or, decide_eq_false_iff_not]; exact h
    obtain ⟨i, rfl⟩ : ∃ i : Nat, s = (i : Int) := ⟨s.toNat, by omega⟩
    have hlt : i < ms.length := by omega
    have h0 : (0 : Int) ≤ (i : Int) := by omega
    have h2 : (i : Int) < (ms.length : Int) := by omega
    have hk := hok _ (List.getElem_mem hlt)
    simp only [h1, Bool.false_eq_true, if_false, wp_chk, h0, h2, decide_true, true_and, wp_act, getD_at hlt]
    refine ⟨_, s3400 ms[i] c (hn2 _ (List.getElem_mem hlt)) (okL_rise hk), ?_⟩
    have e : nx ms (i : Int) c = nxL c ms[i] := by simp only [nx, if_neg h, getD_at hlt]
    rw [e, nxL_idx c hk]
    simp only [wp_ite, wp_chk, wp_ret]
    by_cases h3 : idx c ms[i] < ms[i].length
    · have h4 : ((idx c ms[i] : Int) == (ms[i].length : Int)) = false := by simp; omega
      have h5 : (0 : Int) ≤ (idx c ms[i] : Int) := by omega
      have h6 : (idx c ms[i] : Int) < (ms[i].length : Int) := by omega
      rw [dif_pos h3]
      simp only [h4, Bool.false_eq_true, if_false, h5, h6, decide_true, true_and, getD_at h3, decide_eq_true_eq]
      by_cases h7 : ms[i][idx c ms[i]].1 > c
      · simp only [h7, if_true]
      · simp only [h7, if_false]
    · have h4 : ((idx c ms[i] : Int) == (ms[i].length : Int)) = true := by
        have := idx_le c ms[i]; simp; omega
      rw [dif_neg h3]
      simp only [h4, if_true]

/-! ### what a state accepts; what a text comes to -/
theorem s2900 (ms : List (List Move)) (ac : List Int) (s : Int) (h : s < (ac.length : Int)) : S 2900 (((ms, ac), s, ()), ()) ((if s < 0 then -1 else ac.getD s.toNat 0, ()), ()) := by
  refine r2900 _ _ _ ?_
  simp only [t29, wp_ite, wp_chk, wp_ret]
  by_cases h0 : s < 0
  · simp only [h0, decide_true, if_true]
  · have h1 : (0 : Int) ≤ s := by omega
    simp only [h0, h1, h, decide_false, Bool.false_eq_true, if_false, decide_true, true_and]

def toldF (ac : List Int) (s : Int) : Int := if s < 0 ∨ s ≥ (ac.length : Int) then -1 else ac.getD s.toNat 0

theorem s3100 (ms : List (List Move)) (ac : List Int) (s : Int) : S 3100 (((ms, ac), s, ()), ()) ((toldF ac s, ()), ()) := by
  refine r3100 _ _ _ ?_
  simp only [t31, wp_ite, wp_chk, wp_ret, toldF]
  by_cases h : s < 0 ∨ s ≥ (ac.length : Int)
  · have h1 : (decide (s < 0) || decide (s ≥ (ac.length : Int))) = true := by rw [← Bool.decide_or, decide_eq_true_eq]; exact h
    simp only [h1, if_true, if_pos h]
  · have h1 : (decide (s < 0) || decide (s ≥ (ac.length : Int))) = false := by rw [← Bool.decide_or, decide_eq_false_iff_not]; exact h
    have h2 : (0 : Int) ≤ s := by omega
    have h3 : s < (ac.length : Int) := by omega
    simp only [h1, Bool.false_eq_true, if_false, if_neg h, h2, h3, decide_true, true_and]

theorem s2900' (ms : List (List Move)) (ac : List Int) (s : Int) (h : s < (ac.length : Int)) : S 2900 (((ms, ac), s, ()), ()) ((toldF ac s, ()), ()) := by
  have := s2900 ms ac s h
  have e : toldF ac s = if s < 0 then -1 else ac.getD s.toNat 0 := by
    unfold toldF
    by_cases h0 : s < 0
    · simp [h0]
    · have : ¬ (s < 0 ∨ s ≥ (ac.length : Int)) := by omega
      rw [if_neg this, if_neg h0]
  rw [e]; exact this

/-- A text's bytes. -/
def bl (x : ByteArray) : List Int := (List.range x.size).map fun (i : Nat) => bt x (i : Int)

def runF (d : Dfa) (x : ByteArray) : Int := toldF d.2 ((bl x).foldl (nx d.1) 0)

theorem bl_len (x : ByteArray) : (bl x).length = x.size := by simp [bl]
theorem bl_at (x : ByteArray) (i : Nat) (h : i < (bl x).length) : (bl x)[i] = bt x (i : Int) := by simp [bl]

theorem s2301 (x : ByteArray) (ms : List (List Move)) (ac : List Int) (hx : x.size ≤ 1000000) (hn2 : ∀ l ∈ ms, l.length ≤ 1000000) : ∀ k i at0, i + k = x.size →
    S 2301 ((x, at0, (i : Int), ()), (ms, ac, ()), ()) (((((bl x).drop i).foldl (nx ms) at0), ()), (ms, ac, ()), ()) := by
  intro k
  induction k with
  | zero =>
    intro i at0 hi
    refine r2301 _ _ _ _ _ ?_
    have h1 : ¬ (i : Int) < (x.size : Int) := by omega
    rw [List.drop_eq_nil_of_le (show (bl x).length ≤ i by rw [bl_len]; omega)]
    simp only [l23_0, wp_ite, h1, decide_false, Bool.false_eq_true, if_false, wp_ret]
    rfl
  | succ k ih =>
    intro i at0 hi
    refine r2301 _ _ _ _ _ ?_
    have hlt : i < (bl x).length := by rw [bl_len]; omega
    have hlt' : i < x.size := by omega
    have h1 : (i : Int) < (x.size : Int) := by omega
    have h0 : (0 : Int) ≤ (i : Int) := by omega
    rw [drop_at hlt, List.foldl_cons, bl_at]
    simp only [l23_0, wp_ite, wp_chk, wp_ret, wsucc hlt' hx, h1, h0, decide_true, if_true, true_and, wp_act]
    exact ⟨_, s2700 ms ac at0 _ hn2, ih (i + 1) _ (by omega)⟩

theorem s2300 (ms : List (List Move)) (ac : List Int) (x : ByteArray) (hx : x.size ≤ 1000000) (hn2 : ∀ l ∈ ms, l.length ≤ 1000000) : S 2300 (((ms, ac), x, ()), ()) ((runF (ms, ac) x, ()), ()) := by
  refine r2300 _ _ _ ?_
  simp only [t23, wp_act]
  refine ⟨_, s2301 x ms ac hx hn2 x.size 0 0 (by omega), ?_⟩
  rw [List.drop_zero]
  simp only [wp_ite, wp_chk, wp_ret, runF, toldF]
  generalize (bl x).foldl (nx ms) 0 = s
  by_cases h : s < 0 ∨ s ≥ (ac.length : Int)
  · have h1 : (decide (s < 0) || decide (s ≥ (ac.length : Int))) = true := by rw [← Bool.decide_or, decide_eq_true_eq]; exact h
    simp only [h1, if_true, if_pos h]
  · have h1 : (decide (s < 0) || decide (s ≥ (ac.length : Int))) = false := by rw [← Bool.decide_or, decide_eq_false_iff_not]; exact h
    have h2 : (0 : Int) ≤ s := by omega
    have h3 : s < (ac.length : Int) := by omega
    simp only [h1, Bool.false_eq_true, if_false, if_neg h, h2, h3, decide_true, true_and]

end Go.Proofs.YtjmnjimlkljhjaaV

/- Which text tells two automata apart: the document's way. -/
set_option linter.unusedVariables false
set_option maxRecDepth 100000
namespace Go.Proofs.YtjmnjimlkljhjaaV
open Go Go.Proofs

/-- Two automata are told apart by the empty text, and so on: played. -/
theorem s1000 : S 1000 ((), ()) ((true, ()), ()) := run_ok table_ok 1500 1000 ((), ()) ((true, ()), ()) (by kernel_rfl)

abbrev Pr := Int × Int
abbrev Q1 := Pr × List Int

section
variable (δ : Pr → Int → Pr) (tell : Pr → Bool)

def ex1 (p : Pr) (t : List Int) (acc : List Q1) (c : Int) : List Q1 :=
  if acc.any (fun q => decide (q.1 = δ p c)) = true then acc else acc ++ [(δ p c, t ++ [c])]

def cs : List Int := (List.range 256).map fun (i : Nat) => (i : Int)

def exAll (p : Pr) (t : List Int) (acc : List Q1) : List Q1 := cs.foldl (ex1 δ p t) acc

def bfs : Nat → Nat → List Q1 → Option (Option (List Int))
  | 0, _, _ => none
  | f + 1, k, acc => match acc[k]? with
    | none => some none
    | some q => if tell q.1 = true then some (some q.2) else bfs f (k + 1) (exAll δ q.1 q.2 acc)
end

theorem cs_len : cs.length = 256 := by simp [cs]
theorem cs_at (i : Nat) (h : i < cs.length) : cs[i] = (i : Int) := by simp [cs]

theorem ex1_len (δ : Pr → Int → Pr) (p : Pr) (t : List Int) (acc : List Q1) (c : Int) : (ex1 δ p t acc c).length ≤ acc.length + 1 ∧ acc.length ≤ (ex1 δ p t acc c).length := by
  unfold ex1; split <;> simp

theorem fold_len (δ : Pr → Int → Pr) (p : Pr) (t : List Int) : ∀ (l : List Int) (acc : List Q1), (l.foldl (ex1 δ p t) acc).length ≤ acc.length + l.length ∧ acc.length ≤ (l.foldl (ex1 δ p t) acc).length := by
  intro l
  induction l with
  | nil => intro acc; simp
  | cons c l ih =>
    intro acc
    have h1 := ih (ex1 δ p t acc c)
    have h2 := ex1_len δ p t acc c
    simp only [List.foldl_cons, List.length_cons]
    omega

theorem ofBytes_app (a b : List Int) : ofBytes (a ++ b) = ofBytes a ++ ofBytes b := by
  apply ByteArray.ext
  simp [ofBytes]

theorem ofBytes_size (a : List Int) : (ofBytes a).size = a.length := by simp [ofBytes, ByteArray.size]

/-- A pair with its text, as the document's way holds it. -/
def toR (q : Q1) : Int × Int × ByteArray := (q.1.1, q.1.2, ofBytes q.2)

section
variable (m1 : List (List Move)) (a1 : List Int) (m2 : List (List Move)) (a2 : List Int)

abbrev δR (p : Pr) (c : Int) : Pr := (nx m1 p.1 c, nx m2 p.2 c)

theorem s2203 (k c : Int) (all : List (Int × Int × ByteArray)) (p : Int × Int × ByteArray) (n1 n2 : Int) (t : ByteArray) (hn : all.length ≤ 1000000) : ∀ j i (b : Bool), i + j = all.length →
    S 2203 ((k, c, b, (all.length : Int), (i : Int), ()), (m1, a1, ()), (m2, a2, ()), all, (p.1, p.2.1, p.2.2, ()), (n1, n2, t, ()), ())
      ((k, c, b || (all.drop i).any (fun o => o.1 == n1 && o.2.1 == n2), ()), (m1, a1, ()), (m2, a2, ()), all, (p.1, p.2.1, p.2.2, ()), (n1, n2, t, ()), ()) := by
  intro j
  induction j with
  | zero =>
    intro i b hi
    refine r2203 _ _ _ _ _ _ _ _ _ _ _ _ _ _ _ _ ?_
    have h1 : ¬ (i : Int) < (all.length : Int) := by omega
    rw [List.drop_eq_nil_of_le (show all.length ≤ i by omega)]
    simp only [l22_2, wp_ite, h1, decide_false, Bool.false_eq_true, if_false, wp_ret, List.any_nil, Bool.or_false]
    rfl
  | succ j ih =>
    intro i b hi
    refine r2203 _ _ _ _ _ _ _ _ _ _ _ _ _ _ _ _ ?_
    have hlt : i < all.length := by omega
    have h1 : (i : Int) < (all.length : Int) := by omega
    have h0 : (0 : Int) ≤ (i : Int) := by omega
    rw [drop_at hlt, List.any_cons]
    simp only [l22_2, wp_ite, wp_chk, wp_ret, getD_at hlt, wsucc hlt hn, h1, h0, decide_true, if_true, true_and]
    cases b with
    | true =>
      simp only [if_true, Bool.true_or]
      have := ih (i + 1) true (by omega)
      rw [Bool.true_or] at this
      exact this
    | false =>
      simp only [Bool.false_eq_true, if_false, Bool.false_or]
      exact ih (i + 1) _ (by omega)

theorem any_toR (acc : List Q1) (n : Pr) : (acc.map toR).any (fun o => o.1 == n.1 && o.2.1 == n.2) = acc.any (fun q => decide (q.1 = n)) := by
  induction acc with
  | nil => rfl
  | cons q acc ih =>
    rw [List.map_cons, List.any_cons, List.any_cons, ih]
    congr 1
    obtain ⟨⟨q1, q2⟩, t⟩ := q
    obtain ⟨n1, n2⟩ := n
    rw [Bool.eq_iff_iff]
    simp [toR]

theorem s2202 (h1 : ∀ l ∈ m1, l.length ≤ 1000000) (h2 : ∀ l ∈ m2, l.length ≤ 1000000) (k : Int) (q : Q1) (ht : q.2.length ≤ 1000000) : ∀ (j i : Nat) (acc : List Q1), i + j = 256 → acc.length + j ≤ 500000 →
    S 2202 ((k, (i : Int), ()), (m1, a1, ()), (m2, a2, ()), acc.map toR, (q.1.1, q.1.2, ofBytes q.2, ()), ()) ((k, ()), (m1, a1, ()), (m2, a2, ()), ((cs.drop i).foldl (ex1 (δR m1 m2) q.1 q.2) acc).map toR, ()) := by
  intro j
  induction j with
  | zero =>
    intro i acc hi _
    refine r2202 _ _ _ _ _ _ _ _ _ _ ?_
    have h3 : ¬ (i : Int) < 256 := by omega
    rw [List.drop_eq_nil_of_le (show cs.length ≤ i by rw [cs_len]; omega)]
    simp only [l22_1, wp_ite, h3, decide_false, Bool.false_eq_true, if_false, wp_ret]
    rfl
  | succ j ih =>
    intro i acc hi hlen
    refine r2202 _ _ _ _ _ _ _ _ _ _ ?_
    have hlt : i < cs.length := by rw [cs_len]; omega
    have h3 : (i : Int) < 256 := by omega
    have hu : IntKind.wrap IntKind.u8 (i : Int) = (i : Int) := IntWalk.u8_in _ (by omega)
    rw [drop_at hlt, List.foldl_cons, cs_at]
    simp only [l22_1, wp_ite, h3, decide_true, if_true, wp_act, hu]
    refine ⟨_, s2700 m1 a1 q.1.1 (i : Int) h1, _, s2700 m2 a2 q.1.2 (i : Int) h2, ?_⟩
    have hsz : (ofBytes q.2).size + (ofBytes [(i : Int)]).size ≤ 9223372036854775807 := by rw [ofBytes_size, ofBytes_size]; simp; omega
    simp only [wp_chk, hsz, decide_true, true_and, wp_act]
    have hb := s2203 m1 a1 m2 a2 k (i : Int) (acc.map toR) (toR q) (nx m1 q.1.1 (i : Int)) (nx m2 q.1.2 (i : Int)) (ofBytes q.2 ++ ofBytes [(i : Int)]) (by rw [List.length_map]; omega) (acc.map toR).length 0 false (by omega)
    refine ⟨_, hb, ?_⟩
    rw [List.drop_zero, Bool.false_or, any_toR acc (nx m1 q.1.1 (i : Int), nx m2 q.1.2 (i : Int))]
    simp only [wp_ite, wp_chk, wp_ret]
    have hw : IntKind.wrap IntKind.i64 ((i : Int) + 1) = ((i + 1 : Nat) : Int) := by rw [w64 (by omega)]; omega
    cases hany : acc.any (fun q' => decide (q'.1 = (nx m1 q.1.1 (i : Int), nx m2 q.1.2 (i : Int)))) with
    | true =>
      have e : ex1 (δR m1 m2) q.1 q.2 acc (i : Int) = acc := by unfold ex1; rw [if_pos hany]
      rw [e, hw]
      simp only [Bool.not_true, Bool.false_eq_true, if_false]
      exact ih (i + 1) acc (by omega) (by omega)
    | false =>
      have e : ex1 (δR m1 m2) q.1 q.2 acc (i : Int) = acc ++ [((nx m1 q.1.1 (i : Int), nx m2 q.1.2 (i : Int)), q.2 ++ [(i : Int)])] := by
        unfold ex1; rw [if_neg (by rw [hany]; simp)]
      have e2 : (acc.map toR) ++ [(nx m1 q.1.1 (i : Int), nx m2 q.1.2 (i : Int), ofBytes q.2 ++ ofBytes [(i : Int)])] = (ex1 (δR m1 m2) q.1 q.2 acc (i : Int)).map toR := by
        rw [e, List.map_append]
        simp only [List.map_cons, List.map_nil, toR, ofBytes_app]
      have hl : ((acc.map toR).length + [(nx m1 q.1.1 (i : Int), nx m2 q.1.2 (i : Int), ofBytes q.2 ++ ofBytes [(i : Int)])].length) * 32 ≤ 140737488355328 := by
        rw [List.length_map]; simp; omega
      simp only [Bool.not_false, if_true, hl, decide_true, true_and, hw, e2]
      have hl2 := (ex1_len (δR m1 m2) q.1 q.2 acc (i : Int)).1
      exact ih (i + 1) _ (by omega) (by omega)

theorem exAll_len (δ : Pr → Int → Pr) (p : Pr) (t : List Int) (acc : List Q1) : (exAll δ p t acc).length ≤ acc.length + 256 := by
  have := (fold_len δ p t cs acc).1
  rw [cs_len] at this
  exact this

/-- Texts are no longer than there were rounds. -/
theorem ex1_text {δ : Pr → Int → Pr} {p : Pr} {t : List Int} {n : Nat} (ht : t.length < n) : ∀ (l : List Int) (acc : List Q1), (∀ q ∈ acc, q.2.length ≤ n) → ∀ q ∈ l.foldl (ex1 δ p t) acc, q.2.length ≤ n := by
  intro l
  induction l with
  | nil => intro acc h; exact h
  | cons c l ih =>
    intro acc h
    refine ih _ fun q hq => ?_
    unfold ex1 at hq
    split at hq
    · exact h q hq
    · rcases List.mem_append.1 hq with h1 | h1
      · exact h q h1
      · rw [List.mem_singleton.1 h1]; simp; omega

abbrev tellR (p : Pr) : Bool := toldF a1 p.1 != toldF a2 p.2

abbrev outA (o : Option (List Int)) : PUnit × PUnit ⊕ (ByteArray × Bool × Int × PUnit) × PUnit := match o with | none => .inl ((), ()) | some t => .inr ((ofBytes t, true, 0, ()), ())

theorem s2201 (h1 : ∀ l ∈ m1, l.length ≤ 1000000) (h2 : ∀ l ∈ m2, l.length ≤ 1000000) : ∀ (f k : Nat) (acc : List Q1) (r : Option (List Int)), bfs (δR m1 m2) (tellR a1 a2) f k acc = some r → k + f ≤ 1000 → acc.length ≤ 1 + 256 * k → (∀ q ∈ acc, q.2.length ≤ k) →
    S 2201 (((k : Int), ()), (m1, a1, ()), (m2, a2, ()), acc.map toR, ()) (outA r) := by
  intro f
  induction f with
  | zero => intro k acc r h; cases h
  | succ f ih =>
    intro k acc r h hk hlen htx
    refine r2201 _ _ _ _ _ _ ?_
    simp only [bfs] at h
    cases hq : acc[k]? with
    | none =>
      rw [hq] at h
      have h : some none = some r := h
      cases h
      have hge := List.getElem?_eq_none_iff.1 hq
      have h3 : ¬ (k : Int) < ((acc.map toR).length : Int) := by rw [List.length_map]; omega
      simp only [l22_0, wp_ite, h3, decide_false, Bool.false_eq_true, if_false, wp_ret]
      rfl
    | some q =>
      obtain ⟨hlt, hqe⟩ := List.getElem?_eq_some_iff.1 hq
      rw [hq] at h
      have h : (if tellR a1 a2 q.1 = true then some (some q.2) else bfs (δR m1 m2) (tellR a1 a2) f (k + 1) (exAll (δR m1 m2) q.1 q.2 acc)) = some r := h
      have hlt' : k < (acc.map toR).length := by rw [List.length_map]; exact hlt
      have h3 : (k : Int) < ((acc.map toR).length : Int) := by omega
      have h0 : (0 : Int) ≤ (k : Int) := by omega
      have e : (acc.map toR)[k] = toR q := by rw [List.getElem_map, hqe]
      have hqt : q.2.length ≤ k := htx q (by rw [← hqe]; exact List.getElem_mem _)
      simp only [l22_0, wp_ite, wp_chk, h3, h0, decide_true, if_true, true_and, getD_at hlt', e, wp_act]
      refine ⟨_, s3100 m1 a1 q.1.1, _, s3100 m2 a2 q.1.2, ?_⟩
      simp only [wp_ite, wp_ret]
      by_cases hd : tellR a1 a2 q.1 = true
      · rw [if_pos hd] at h
        cases h
        have hd' : (toldF a1 q.1.1 != toldF a2 q.1.2) = true := hd
        simp only [hd', if_true]
        rfl
      · rw [if_neg hd] at h
        have hd' : (toldF a1 q.1.1 != toldF a2 q.1.2) = false := by simpa using hd
        simp only [hd', Bool.false_eq_true, if_false, wp_act]
        have hb := s2202 m1 a1 m2 a2 h1 h2 (k : Int) q (by omega) 256 0 acc (by omega) (by omega)
        refine ⟨_, hb, ?_⟩
        rw [List.drop_zero]
        show S 2201 ((IntKind.wrap IntKind.i64 ((k : Int) + 1), ()), (m1, a1, ()), (m2, a2, ()), (exAll (δR m1 m2) q.1 q.2 acc).map toR, ()) _
        have hw : IntKind.wrap IntKind.i64 ((k : Int) + 1) = ((k + 1 : Nat) : Int) := by rw [w64 (by omega)]; omega
        rw [hw]
        have hl := exAll_len (δR m1 m2) q.1 q.2 acc
        exact ih (k + 1) _ r h (by omega) (by omega) (ex1_text (by omega) cs acc fun q' hq' => by have := htx q' hq'; omega)

end

end Go.Proofs.YtjmnjimlkljhjaaV

/- Which text tells two automata apart: the program's own way. -/
set_option linter.unusedVariables false
set_option maxRecDepth 100000
namespace Go.Proofs.YtjmnjimlkljhjaaV
open Go Go.Proofs

theorem eqPair (a b : Int × Int) : eqEl (Ty.prod tI tI) a b = decide (a = b) := by
  obtain ⟨a1, a2⟩ := a
  obtain ⟨b1, b2⟩ := b
  show (a1 == b1 && a2 == b2) = _
  rw [Bool.eq_iff_iff]
  simp

theorem lkp_put (n m : Int × Int) (v : Bool) : ∀ (l : List ((Int × Int) × Bool)), lkp (eqEl (Ty.prod tI tI)) n (putKV (eqEl (Ty.prod tI tI)) m v l) = if n = m then some v else lkp (eqEl (Ty.prod tI tI)) n l := by
  intro l
  induction l with
  | nil =>
    simp only [putKV, lkp, eqPair]
    by_cases h : n = m <;> simp [h]
  | cons p l ih =>
    obtain ⟨k, w⟩ := p
    simp only [putKV, eqPair]
    by_cases h : m = k
    · subst h
      simp only [decide_true, if_true, lkp, eqPair]
      by_cases h2 : n = m <;> simp [h2]
    · simp only [h, decide_false, Bool.false_eq_true, if_false, lkp, eqPair, ih]
      by_cases h2 : n = k
      · subst h2
        have : ¬ n = m := fun e => h e.symm
        simp [this]
      · simp [h2]

/-- What the program holds of the pairs that it met. -/
structure Ways (acc : List Q1) (ways : List (Int × Int)) (met : List ((Int × Int) × Bool)) : Prop where
  len : ways.length = acc.length
  first : ways.getD 0 (0, 0) = (-1, 0) ∧ (acc.getD 0 ((0, 0), [])).2 = []
  way : ∀ j, 0 < j → j < acc.length → ∃ i : Nat, i < j ∧ (ways.getD j (0, 0)).1 = (i : Int) ∧ (acc.getD j ((0, 0), [])).2 = (acc.getD i ((0, 0), [])).2 ++ [(ways.getD j (0, 0)).2]
  met : ∀ n, lkp (eqEl (Ty.prod tI tI)) n met = if acc.any (fun q => decide (q.1 = n)) = true then some true else none

theorem s2102 {acc : List Q1} {ways : List (Int × Int)} {met : List ((Int × Int) × Bool)} (W : Ways acc ways met) : ∀ (i : Nat) (text : List Int), i < acc.length → (acc.getD i ((0, 0), [])).2.length + text.length ≤ 1000000 →
    S 2102 (((i : Int), ()), ways, text, ()) ((), (acc.getD i ((0, 0), [])).2 ++ text, ()) := by
  intro i
  induction i using Nat.strongRecOn with
  | _ i ih =>
    intro text hi hlen
    refine r2102 _ _ _ ?_
    have hw : i < ways.length := by rw [W.len]; exact hi
    have h0 : (0 : Int) ≤ (i : Int) := by omega
    have h1 : (i : Int) < (ways.length : Int) := by omega
    have hg : ways.getD i (0, 0) = ways[i] := by simp [List.getD_eq_getElem?_getD, hw]
    simp only [l21_1, wp_ite, wp_chk, wp_ret, h0, h1, decide_true, true_and, getD_at hw]
    by_cases hz : i = 0
    · subst hz
      have e := W.first.1
      rw [hg] at e
      rw [W.first.2, List.nil_append, e]
      have h2 : ¬ ((-1 : Int) ≥ 0) := by omega
      simp only [h2, decide_false, Bool.false_eq_true, if_false]
      rfl
    · obtain ⟨j, hj, h2, h3⟩ := W.way i (by omega) hi
      rw [hg] at h2 h3
      have h4 : ways[i].1 ≥ 0 := by omega
      rw [h3] at hlen ⊢
      rw [List.length_append] at hlen
      have hl : ([ways[i].2].length + text.length) * 1 ≤ 140737488355328 := by simp at hlen ⊢; omega
      simp only [h4, decide_true, if_true, hl, true_and]
      rw [List.append_assoc]
      have := ih j hj ([ways[i].2] ++ text) (by omega) (by rw [List.length_append]; simp at hlen ⊢; omega)
      rw [← h2] at this
      exact this

section
variable (m1 : List (List Move)) (a1 : List Int) (m2 : List (List Move)) (a2 : List Int)

/-- One more pair. -/
theorem Ways.add {acc : List Q1} {ways : List (Int × Int)} {met : List ((Int × Int) × Bool)} (W : Ways acc ways met) {k : Nat} (hk : k < acc.length) {n : Pr} {c : Int} {t : List Int} (ht : (acc.getD k ((0, 0), [])).2 = t) :
    Ways (acc ++ [(n, t ++ [c])]) (ways ++ [((k : Int), c)]) (putKV (eqEl (Ty.prod tI tI)) n true met) := by
  have hpos : 0 < acc.length := by omega
  have ga : ∀ j, j < acc.length → (acc ++ [(n, t ++ [c])]).getD j ((0, 0), []) = acc.getD j ((0, 0), []) := by
    intro j hj
    rw [List.getD_eq_getElem?_getD, List.getElem?_append_left hj, ← List.getD_eq_getElem?_getD]
  have gw : ∀ j, j < acc.length → (ways ++ [((k : Int), c)]).getD j (0, 0) = ways.getD j (0, 0) := by
    intro j hj
    rw [List.getD_eq_getElem?_getD, List.getElem?_append_left (by rw [W.len]; exact hj), ← List.getD_eq_getElem?_getD]
  refine ⟨by simp [W.len], ?_, fun j h0 hj => ?_, fun (q : Pr) => ?_⟩
  · rw [ga 0 hpos, gw 0 hpos]; exact W.first
  · by_cases e : j < acc.length
    · obtain ⟨i, h1, h2, h3⟩ := W.way j h0 e
      refine ⟨i, h1, ?_, ?_⟩
      · rw [gw j e]; exact h2
      · rw [ga j e, ga i (by omega), gw j e]; exact h3
    · have hj' : j = acc.length := by simp at hj; omega
      subst hj'
      refine ⟨k, hk, ?_, ?_⟩
      · rw [List.getD_eq_getElem?_getD, List.getElem?_append_right (by rw [W.len]; exact Nat.le_refl _)]; simp [W.len]
      · rw [ga k hk, ht, List.getD_eq_getElem?_getD, List.getElem?_append_right (Nat.le_refl _), List.getD_eq_getElem?_getD, List.getElem?_append_right (by rw [W.len]; exact Nat.le_refl _)]
        simp [W.len]
  · rw [lkp_put, W.met, List.any_append]
    by_cases h : q = n
    · subst h; simp
    · have hd : decide (n = q) = false := decide_eq_false fun e => h e.symm
      rw [if_neg h, List.any_cons, List.any_nil, hd, Bool.or_false, Bool.or_false]

theorem s2103 (h1 : ∀ l ∈ m1, l.length ≤ 1000000) (h2 : ∀ l ∈ m2, l.length ≤ 1000000) (o1 : ∀ l ∈ m1, okL (m1.length : Int) (-1) (-1) l = true) (o2 : ∀ l ∈ m2, okL (m2.length : Int) (-1) (-1) l = true) (k : Nat) (q : Q1) :
    ∀ (j i : Nat) (acc : List Q1) (ways : List (Int × Int)) (met : List ((Int × Int) × Bool)), i + j = 256 → acc.length + j ≤ 500000 → Ways acc ways met → k < acc.length → (acc.getD k ((0, 0), [])).2 = q.2 →
    ∃ ways' met', Ways ((cs.drop i).foldl (ex1 (δR m1 m2) q.1 q.2) acc) ways' met' ∧
      S 2103 (((k : Int), (i : Int), ()), (m1, a1, ()), (m2, a2, ()), acc.map (·.1), ways, met, (q.1.1, q.1.2, ()), ()) (((k : Int), ()), (m1, a1, ()), (m2, a2, ()), ((cs.drop i).foldl (ex1 (δR m1 m2) q.1 q.2) acc).map (·.1), ways', met', ()) := by
  intro j
  induction j with
  | zero =>
    intro i acc ways met hi _ W hk hkq
    rw [List.drop_eq_nil_of_le (show cs.length ≤ i by rw [cs_len]; omega)]
    refine ⟨ways, met, W, r2103 _ _ _ _ _ _ _ _ _ _ _ ?_⟩
    have h3 : ¬ (i : Int) < 256 := by omega
    simp only [l21_2, wp_ite, h3, decide_false, Bool.false_eq_true, if_false, wp_ret]
    rfl
  | succ j ih =>
    intro i acc ways met hi hlen W hk hkq
    have hlt : i < cs.length := by rw [cs_len]; omega
    have h3 : (i : Int) < 256 := by omega
    have hu : IntKind.wrap IntKind.u8 (i : Int) = (i : Int) := IntWalk.u8_in _ (by omega)
    have hw : IntKind.wrap IntKind.i64 ((i : Int) + 1) = ((i + 1 : Nat) : Int) := by rw [w64 (by omega)]; omega
    rw [drop_at hlt, List.foldl_cons, cs_at]
    have hm := W.met (nx m1 q.1.1 (i : Int), nx m2 q.1.2 (i : Int))
    cases hany : acc.any (fun q' => decide (q'.1 = (nx m1 q.1.1 (i : Int), nx m2 q.1.2 (i : Int)))) with
    | true =>
      rw [hany, if_pos rfl] at hm
      have e : ex1 (δR m1 m2) q.1 q.2 acc (i : Int) = acc := by unfold ex1; rw [if_pos hany]
      rw [e]
      obtain ⟨ways', met', W', hS⟩ := ih (i + 1) acc ways met (by omega) (by omega) W hk hkq
      refine ⟨ways', met', W', r2103 _ _ _ _ _ _ _ _ _ _ _ ?_⟩
      simp only [l21_2, wp_ite, h3, decide_true, if_true, wp_act, hu]
      refine ⟨_, s3000 m1 a1 q.1.1 (i : Int) h1 o1, _, s3000 m2 a2 q.1.2 (i : Int) h2 o2, ?_⟩
      simp only [wp_ite, wp_chk, wp_ret, hm, Option.getD_some, Bool.not_true, Bool.false_eq_true, if_false, hw]
      exact hS
    | false =>
      rw [hany, if_neg (by simp)] at hm
      have e : ex1 (δR m1 m2) q.1 q.2 acc (i : Int) = acc ++ [((nx m1 q.1.1 (i : Int), nx m2 q.1.2 (i : Int)), q.2 ++ [(i : Int)])] := by
        unfold ex1; rw [if_neg (by rw [hany]; simp)]
      have W2 := W.add hk (n := (nx m1 q.1.1 (i : Int), nx m2 q.1.2 (i : Int))) (c := (i : Int)) hkq
      rw [e]
      obtain ⟨ways', met', W', hS⟩ := ih (i + 1) _ _ _ (by omega) (by simp; omega) W2 (by simp; omega) (by
        rw [List.getD_eq_getElem?_getD, List.getElem?_append_left hk, ← List.getD_eq_getElem?_getD]; exact hkq)
      refine ⟨ways', met', W', r2103 _ _ _ _ _ _ _ _ _ _ _ ?_⟩
      simp only [l21_2, wp_ite, h3, decide_true, if_true, wp_act, hu]
      refine ⟨_, s3000 m1 a1 q.1.1 (i : Int) h1 o1, _, s3000 m2 a2 q.1.2 (i : Int) h2 o2, ?_⟩
      have hl1 : ((acc.map (·.1)).length + [(nx m1 q.1.1 (i : Int), nx m2 q.1.2 (i : Int))].length) * 16 ≤ 140737488355328 := by simp; omega
      have hl2 : (ways.length + [((k : Int), (i : Int))].length) * 16 ≤ 140737488355328 := by rw [W.len]; simp; omega
      simp only [wp_ite, wp_chk, wp_ret, hm, Option.getD_none, Bool.not_false, if_true, hw, hl1, hl2, decide_true, true_and]
      rw [List.map_append] at hS
      exact hS

end

end Go.Proofs.YtjmnjimlkljhjaaV

/- Apart: both ways come to one. -/
set_option linter.unusedVariables false
set_option maxRecDepth 100000
namespace Go.Proofs.YtjmnjimlkljhjaaV
open Go Go.Proofs
attribute [local irreducible] cs nx

section
variable (m1 : List (List Move)) (a1 : List Int) (m2 : List (List Move)) (a2 : List Int)

/-- Pairs of numbers that may be states', or none. -/
def PairsIn (n1 n2 : Int) (acc : List Q1) : Prop := ∀ q ∈ acc, q.1.1 < n1 ∧ q.1.2 < n2

theorem nxL_lt {n : Int} (h0 : 0 < n) (c : Int) : ∀ {l : List Move} {e t : Int}, okL n e t l = true → nxL c l < n := by
  intro l
  induction l with
  | nil => intro e t _; simp only [nxL]; omega
  | cons m l ih =>
    intro e t h
    have hm := okL_lo h m (by simp)
    simp only [okL, Bool.and_eq_true] at h
    simp only [nxL]
    split
    · exact hm.2.2.2
    · exact ih h.2

theorem nx_lt {ms : List (List Move)} (h0 : 0 < ms.length) (ho : ∀ l ∈ ms, okL (ms.length : Int) (-1) (-1) l = true) (s c : Int) : nx ms s c < (ms.length : Int) := by
  unfold nx
  split
  · omega
  · rename_i h
    have hlt : s.toNat < ms.length := by omega
    rw [List.getD_eq_getElem?_getD, List.getElem?_eq_getElem hlt]
    exact nxL_lt (by omega) c (ho _ (List.getElem_mem hlt))

theorem ex1_in {n1 n2 : Int} {δ : Pr → Int → Pr} (hδ : ∀ p c, (δ p c).1 < n1 ∧ (δ p c).2 < n2) (p : Pr) (t : List Int) : ∀ (l : List Int) (acc : List Q1), PairsIn n1 n2 acc → PairsIn n1 n2 (l.foldl (ex1 δ p t) acc) := by
  intro l
  induction l with
  | nil => intro acc h; exact h
  | cons c l ih =>
    intro acc h
    refine ih _ fun q hq => ?_
    unfold ex1 at hq
    split at hq
    · exact h q hq
    · rcases List.mem_append.1 hq with h1 | h1
      · exact h q h1
      · rw [List.mem_singleton.1 h1]; exact hδ p c

theorem foldAll (δ : Pr → Int → Pr) (p : Pr) (t : List Int) (acc : List Q1) : cs.foldl (ex1 δ p t) acc = exAll δ p t acc := rfl

theorem s2101 (h1 : ∀ l ∈ m1, l.length ≤ 1000000) (h2 : ∀ l ∈ m2, l.length ≤ 1000000) (o1 : ∀ l ∈ m1, okL (m1.length : Int) (-1) (-1) l = true) (o2 : ∀ l ∈ m2, okL (m2.length : Int) (-1) (-1) l = true)
    (p1 : 0 < m1.length) (p2 : 0 < m2.length) (l1 : a1.length = m1.length) (l2 : a2.length = m2.length) : ∀ (f k : Nat) (acc : List Q1) (ways : List (Int × Int)) (met : List ((Int × Int) × Bool)) (r : Option (List Int)),
    bfs (δR m1 m2) (tellR a1 a2) f k acc = some r → k + f ≤ 1000 → acc.length ≤ 1 + 256 * k → (∀ q ∈ acc, q.2.length ≤ k) → PairsIn (m1.length : Int) (m2.length : Int) acc → Ways acc ways met →
    S 2101 (((k : Int), ()), (m1, a1, ()), (m2, a2, ()), acc.map (·.1), ways, met, ()) (outA r) := by
  intro f
  induction f with
  | zero => intro k acc ways met r h; cases h
  | succ f ih =>
    intro k acc ways met r h hk hlen htx hin W
    refine r2101 _ _ _ _ _ _ _ _ ?_
    simp only [bfs] at h
    cases hq : acc[k]? with
    | none =>
      rw [hq] at h
      have h : some none = some r := h
      cases h
      have hge := List.getElem?_eq_none_iff.1 hq
      have h3 : ¬ (k : Int) < ((acc.map (·.1)).length : Int) := by rw [List.length_map]; omega
      simp only [l21_0, wp_ite, h3, decide_false, Bool.false_eq_true, if_false, wp_ret]
      rfl
    | some q =>
      obtain ⟨hlt, hqe⟩ := List.getElem?_eq_some_iff.1 hq
      rw [hq] at h
      have h : (if tellR a1 a2 q.1 = true then some (some q.2) else bfs (δR m1 m2) (tellR a1 a2) f (k + 1) (exAll (δR m1 m2) q.1 q.2 acc)) = some r := h
      have hlt' : k < (acc.map (·.1)).length := by rw [List.length_map]; exact hlt
      have h3 : (k : Int) < ((acc.map (·.1)).length : Int) := by omega
      have h0 : (0 : Int) ≤ (k : Int) := by omega
      have e : (acc.map (·.1))[k] = q.1 := by rw [List.getElem_map, hqe]
      have hmem : q ∈ acc := by rw [← hqe]; exact List.getElem_mem _
      have hqt : q.2.length ≤ k := htx q hmem
      have hgq : acc.getD k ((0, 0), []) = q := by rw [List.getD_eq_getElem?_getD, hq]; rfl
      obtain ⟨i1, i2⟩ := hin q hmem
      simp only [l21_0, wp_ite, wp_chk, h3, h0, decide_true, if_true, true_and, getD_at hlt', e, wp_act]
      refine ⟨_, s2900' m1 a1 q.1.1 (by rw [l1]; exact i1), _, s2900' m2 a2 q.1.2 (by rw [l2]; exact i2), ?_⟩
      simp only [wp_ite]
      by_cases hd : tellR a1 a2 q.1 = true
      · rw [if_pos hd] at h
        cases h
        have hd' : (toldF a1 q.1.1 != toldF a2 q.1.2) = true := hd
        simp only [hd', if_true, wp_act]
        have hb := s2102 W k [] hlt (by rw [hgq]; simp; omega)
        refine ⟨_, hb, ?_⟩
        rw [hgq, List.append_nil]
        rfl
      · rw [if_neg hd] at h
        have hd' : (toldF a1 q.1.1 != toldF a2 q.1.2) = false := by simpa using hd
        simp only [hd', Bool.false_eq_true, if_false, wp_act]
        obtain ⟨ways', met', W', hS⟩ := s2103 m1 a1 m2 a2 h1 h2 o1 o2 k q 256 0 acc ways met (by omega) (by omega) W hlt (by rw [hgq])
        refine ⟨_, hS, ?_⟩
        rw [List.drop_zero, foldAll] at W' ⊢
        show S 2101 ((IntKind.wrap IntKind.i64 ((k : Int) + 1), ()), (m1, a1, ()), (m2, a2, ()), (exAll (δR m1 m2) q.1 q.2 acc).map (·.1), ways', met', ()) _
        have hw : IntKind.wrap IntKind.i64 ((k : Int) + 1) = ((k + 1 : Nat) : Int) := by rw [w64 (by omega)]; omega
        rw [hw]
        have hl := exAll_len (δR m1 m2) q.1 q.2 acc
        have W2 : Ways (exAll (δR m1 m2) q.1 q.2 acc) ways' met' := by exact W'
        have hp2 : PairsIn (m1.length : Int) (m2.length : Int) (exAll (δR m1 m2) q.1 q.2 acc) := by
          unfold exAll; exact ex1_in (fun p c => ⟨nx_lt p1 o1 p.1 c, nx_lt p2 o2 p.2 c⟩) q.1 q.2 cs acc hin
        have htx2 : ∀ q' ∈ exAll (δR m1 m2) q.1 q.2 acc, q'.2.length ≤ k + 1 := by
          unfold exAll; exact ex1_text (by omega) cs acc fun q' hq' => by have := htx q' hq'; omega
        exact ih (k + 1) (exAll (δR m1 m2) q.1 q.2 acc) ways' met' r h (by omega) (by omega) htx2 hp2 W2

end

end Go.Proofs.YtjmnjimlkljhjaaV

/- What a call's arguments are: pure values, read out of the world by the given reading. -/
set_option linter.unusedVariables false
namespace Go.Proofs.YtjmnjimlkljhjaaV
open Go Go.ChangeShapes Go.WideShapes Go.RowKit

mutual
/-- A type of the program stands for this pure type; fields in line from this offset on. -/
def tyIs (P : Program) : Nat → Ty → TypeId → Bool
  | 0, _, _ => false
  | n + 1, .int k, T => (match P.underlying T with | some (.int k') => decide (k' = k) | _ => false)
  | n + 1, .bool, T => (match P.underlying T with | some .bool => true | _ => false)
  | n + 1, .str, T => (match P.underlying T with | some .string => true | _ => false)
  | n + 1, .slice e t, T => (match P.underlying T with | some (.slice e') => decide (e' = e) && decide (P.cellsOf e = sz t) && decide (0 < sz t) && tyIs P n t e | _ => false)
  | n + 1, .prod a b, T => (match P.underlying T with | some (.struct fs) => tyFs P n (.prod a b) 0 fs.toList && decide (P.cellsOf T = sz (.prod a b)) | _ => false)
  | _ + 1, _, _ => false
def tyFs (P : Program) : Nat → Ty → Nat → List Field → Bool
  | 0, _, _, _ => false
  | n + 1, t, off, [f] => decide (f.offset = off) && decide (P.cellsOf f.type = sz t) && tyIs P n t f.type
  | n + 1, .prod a b, off, f :: g :: r => decide (f.offset = off) && decide (P.cellsOf f.type = sz a) && tyIs P n a f.type && tyFs P n b (off + sz a) (g :: r)
  | _ + 1, _, _, _ => false
end

/-- Numbers are of their kinds. -/
def WfE : (t : Ty) → El t → Prop
  | .int k, x => (Lit.int k x).wf = true
  | .bool, _ => True
  | .str, (s : ByteArray) => s.size ≤ maxLen
  | .prod a b, x => WfE a x.1 ∧ WfE b x.2
  | .slice _ t, (xs : List (El t)) => xs.length ≤ maxLen ∧ ∀ y ∈ xs, WfE t y
  | .rose _ _, _ => True
  | .arr _ _, _ => True

theorem sz_pos_of {P : Program} : ∀ {n : Nat} {t : Ty} {T : TypeId}, tyIs P n t T = true → 0 < sz t := by
  intro n
  induction n using Nat.strongRecOn with
  | _ n ih =>
    intro t T h
    cases n with
    | zero => simp [tyIs] at h
    | succ n =>
      cases t with
      | prod a b =>
        simp only [tyIs] at h
        split at h
        · rename_i fs hu
          rw [Bool.and_eq_true] at h
          have h := h.1
          cases n with
          | zero => simp [tyFs] at h
          | succ n =>
            cases hl : fs.toList with
            | nil => rw [hl] at h; simp [tyFs] at h
            | cons f r =>
              cases r with
              | nil =>
                rw [hl] at h
                simp only [tyFs, Bool.and_eq_true] at h
                exact ih n (by omega) h.2
              | cons g r =>
                rw [hl] at h
                simp only [tyFs, Bool.and_eq_true] at h
                have := ih n (by omega) h.1.2
                show 0 < sz a + sz b
                omega
        · cases h
      | int k => exact Nat.one_pos
      | bool => exact Nat.one_pos
      | str => exact Nat.one_pos
      | slice e t => exact Nat.one_pos
      | rose t e => simp [tyIs] at h
      | arr m t => simp [tyIs] at h

section
variable {H : Type} {enc' : TypeId × Value → H} {P : Program} {w : World} {sp : Nat → Bool} {held : Bool}

/-- What is read is a pure value. -/
def Reads1 (w : World) (n : Nat) (t : Ty) (cs : List Value) : Prop := ∃ x : El t, TRep w (fun k => k < w.heap.size) n t x cs ∧ WfE t x

theorem cell_lt {w : World} {a : Addr} {v : Value} (h : w.cell? a = some v) : a.block < w.heap.size := by
  rcases Nat.lt_or_ge a.block w.heap.size with h1 | h1
  · exact h1
  · have : w.heap[a.block]? = none := Array.getElem?_eq_none h1
    simp [World.cell?, this] at h

theorem pick {α : Type} {n : Nat} {p : Nat → α → Prop} (h : ∀ i, i < n → ∃ x, p i x) : ∃ l : List α, l.length = n ∧ ∀ (i : Nat) (hi : i < l.length), p i l[i] := by
  induction n with
  | zero => exact ⟨[], rfl, fun i hi => absurd hi (by simp)⟩
  | succ n ih =>
    obtain ⟨l, hl, hp⟩ := ih fun i hi => h i (by omega)
    obtain ⟨x, hx⟩ := h n (by omega)
    refine ⟨l ++ [x], by simp [hl], fun i hi => ?_⟩
    by_cases e : i < l.length
    · rw [List.getElem_append_left e]; exact hp i e
    · have e2 : i = l.length := by simp at hi; omega
      subst e2
      rw [List.getElem_append_right (Nat.le_refl _)]
      simp only [Nat.sub_self, List.getElem_cons_zero]
      rw [hl]; exact hx

theorem reads_slice {n : Nat} {e : TypeId} {t : Ty} {T : TypeId} (hu : P.underlying T = some (.slice e)) (hc : P.cellsOf e = sz t) (hp : 0 < sz t)
    (ih : ∀ fuel cs x, DataW.trod enc' P w 0 sp held fuel e cs = some x → Reads1 w n t cs) {fuel : Nat} {cs : List Value} {x : DataW H × List MemPlace} (h : DataW.trod enc' P w 0 sp held fuel T cs = some x) :
    Reads1 w (n + 1) (.slice e t) cs := by
  rcases DataW.trod_slice hu h with ⟨rfl, _⟩ | ⟨a, len, cap, elems, rest, m, _, rfl, _, _, hl, hm, hlen, hel, _, _⟩
  · refine ⟨([] : List (El t)), ⟨none, 0, rfl, Nat.le_refl _, Nat.zero_le _, fun j hj => absurd hj (by simp)⟩, Nat.zero_le _, fun y hy => by cases hy⟩
  · have each : ∀ i, i < len → ∃ y : El t, WfE t y ∧ a.block < w.heap.size ∧ ∃ c, TRep w (fun k => k < w.heap.size) n t y c ∧ ∀ j u, c[j]? = some u → w.cell? (a.add (i * sz t + j)) = some u := by
      intro i hi
      have hb := hel i hi
      have : elems[i]? = some (elems[i]'(by omega)) := List.getElem?_eq_getElem (by omega)
      rw [this, Option.bind_eq_some_iff] at hb
      obtain ⟨c, hcs, hy⟩ := hb
      obtain ⟨y, hy, hw⟩ := ih _ _ _ hy
      obtain ⟨_, hcl, hcell⟩ := World.cells?_some hcs
      rw [hc] at hcl hcell
      have hlt : a.block < w.heap.size := by
        have h0 := hcell 0 hp
        have h1 : c[0]? = some (c[0]'(by omega)) := List.getElem?_eq_getElem (by omega)
        rw [h1] at h0
        have := cell_lt h0
        rwa [add_block, add_block] at this
      refine ⟨y, hw, hlt, c, hy, fun j u hu => ?_⟩
      have hj : j < c.length := (List.getElem?_eq_some_iff.1 hu).1
      have := hcell j (by omega)
      rw [hu, Addr.add_add] at this
      exact this
    obtain ⟨l, hll, hp⟩ := pick each
    refine ⟨l, ⟨some a, cap, by rw [hll], by omega, hm, fun j hj => ?_⟩, by show l.length ≤ _; omega, fun y hy => ?_⟩
    · obtain ⟨_, hlt, c, hr, hcell⟩ := hp j hj
      exact ⟨a, c, rfl, hlt, hlt, hr, hcell⟩
    · obtain ⟨i, hi, rfl⟩ := List.getElem_of_mem hy
      exact (hp i hi).1

theorem Reads1.mono {n m : Nat} (h : n ≤ m) {t : Ty} {cs : List Value} (hr : Reads1 w n t cs) : Reads1 w m t cs := by
  obtain ⟨x, h1, h2⟩ := hr
  exact ⟨x, TRep.mono n m h _ _ _ h1, h2⟩

theorem reads_ok : ∀ (n : Nat),
    (∀ t T, tyIs P n t T = true → ∀ fuel cs x, DataW.trod enc' P w 0 sp held fuel T cs = some x → Reads1 w n t cs) ∧
    (∀ t off fs, tyFs P n t off fs = true → ∀ cs : List Value, cs.length = off + sz t → (∀ f ∈ fs, ∃ fuel x, DataW.trod enc' P w 0 sp held fuel f.type ((cs.drop f.offset).take (P.cellsOf f.type)) = some x) → Reads1 w n t (cs.drop off)) := by
  intro n
  induction n with
  | zero => exact ⟨fun t T h => by simp [tyIs] at h, fun t off fs h => by simp [tyFs] at h⟩
  | succ n ih =>
    refine ⟨fun t T h fuel cs x hx => ?_, fun t off fs h cs hl hf => ?_⟩
    · cases t with
      | int k =>
        simp only [tyIs] at h
        split at h
        · rename_i k' hu
          have := of_decide_eq_true h
          subst this
          obtain ⟨v, rfl, _, hw⟩ := DataW.trod_int hu hx
          exact ⟨v, rfl, hw⟩
        · cases h
      | bool =>
        simp only [tyIs] at h
        split at h
        · rename_i hu
          cases fuel with
          | zero => simp [DataW.trod] at hx
          | succ m =>
            unfold DataW.trod at hx
            rw [hu] at hx
            split at hx <;> simp_all
            exact ⟨_, rfl, trivial⟩
        · cases h
      | str =>
        simp only [tyIs] at h
        split at h
        · rename_i hu
          cases fuel with
          | zero => simp [DataW.trod] at hx
          | succ m =>
            unfold DataW.trod at hx
            rw [hu] at hx
            split at hx <;> simp_all
            exact ⟨_, rfl, hx.1⟩
        · cases h
      | slice e t =>
        simp only [tyIs] at h
        split at h
        · rename_i e' hu
          simp only [Bool.and_eq_true, decide_eq_true_eq] at h
          obtain ⟨⟨⟨rfl, hc⟩, hp⟩, ht⟩ := h
          exact reads_slice hu hc hp (fun fuel cs x hx => ih.1 t _ ht fuel cs x hx) hx
        · cases h
      | prod a b =>
        simp only [tyIs] at h
        split at h
        · rename_i fs hu
          rw [Bool.and_eq_true, decide_eq_true_eq] at h
          obtain ⟨xs, m, _, _, hl, hlen, hf⟩ := DataW.trod_struct hu hx
          have := ih.2 (.prod a b) 0 fs.toList h.1 cs (by rw [hl, h.2, Nat.zero_add]) fun f hfm => by
            obtain ⟨j, hj, rfl⟩ := List.getElem_of_mem hfm
            have h1 : fs[j]? = some fs.toList[j] := by rw [← Array.getElem?_toList]; exact List.getElem?_eq_getElem hj
            have h2 := hf j fs.toList[j] h1
            have h3 : j < xs.length := by rw [hlen]; exact hj
            rw [List.getElem?_eq_getElem h3] at h2
            exact ⟨_, _, h2⟩
          rw [List.drop_zero] at this
          exact this.mono (Nat.le_succ n)
        · cases h
      | rose t e => simp [tyIs] at h
      | arr m t => simp [tyIs] at h
    · have one : ∀ f, fs = [f] → Reads1 w (n + 1) t (cs.drop off) := by
        rintro f rfl
        cases n with
        | zero => cases t <;> simp [tyFs, tyIs] at h
        | succ n =>
        have h' : (decide (f.offset = off) && decide (P.cellsOf f.type = sz t) && tyIs P (n + 1) t f.type) = true := by
          cases t <;> simpa only [tyFs] using h
        simp only [Bool.and_eq_true, decide_eq_true_eq] at h'
        obtain ⟨⟨h1, h2⟩, h3⟩ := h'
        obtain ⟨fuel, x, hx⟩ := hf f (by simp)
        rw [h1, h2, List.take_of_length_le (by rw [List.length_drop]; omega)] at hx
        exact (ih.1 t _ h3 _ _ _ hx).mono (Nat.le_succ _)
      cases fs with
      | nil => cases t <;> simp [tyFs] at h
      | cons f r =>
        cases r with
        | nil => exact one f rfl
        | cons g r =>
          cases t with
          | prod a b =>
            simp only [tyFs, Bool.and_eq_true, decide_eq_true_eq] at h
            obtain ⟨⟨⟨h1, h2⟩, h3⟩, h4⟩ := h
            have hl' : cs.length = off + (sz a + sz b) := hl
            obtain ⟨fuel, x, hx⟩ := hf f (by simp)
            rw [h1, h2] at hx
            obtain ⟨xa, ra, wa⟩ := ih.1 a _ h3 _ _ _ hx
            obtain ⟨xb, rb, wb⟩ := ih.2 b (off + sz a) (g :: r) h4 cs (by omega) fun f' hf' => hf f' (by simp [hf'])
            refine ⟨(xa, xb), ⟨_, _, ?_, ra, rb⟩, wa, wb⟩
            rw [← List.drop_drop]
            exact (List.take_append_drop _ _).symm
          | _ => simp [tyFs] at h

/-- A call's world: nothing of its own yet. -/
def env0 (W : World) : Env := { w0 := W, O0 := fun _ => False, G := fun k => k < W.heap.size, get := fun _ => none, θ := fun _ => ⟨.tuple #[], []⟩, U := fun _ => False, w := W }

theorem env0_owned {W : World} {k : Nat} : ¬ (env0 W).owned k := by
  rintro ⟨id, o, h, _⟩
  cases h

theorem env0_ok {W : World} {k : Nat} (h : k < W.heap.size) : (env0 W).ok false k := ⟨.inl ⟨rfl, h⟩, env0_owned⟩

theorem env0_mr (W : World) : MR (env0 W) where
  ext := ⟨rfl, rfl, rfl, Nat.le_refl _, fun _ _ _ => rfl⟩
  gsep := fun k h => ⟨fun h => h, h⟩
  osep := fun k h => h.elim
  used := fun id o h => by cases h
  own := fun id o k h => by cases h
  disj := fun id id' o o' k h => by cases h
  objs := fun id o h => by cases h

theorem reads_T {n : Nat} {t : Ty} {cs : List Value} (h : Reads1 w n t cs) : ∃ x : El t, T (env0 w) false t x cs ∧ WfE t x := by
  obtain ⟨x, h1, h2⟩ := h
  exact ⟨x, ⟨n, TRep.move (Nat.le_refl _) (fun k hk _ => ⟨rfl, env0_ok hk⟩) n t x cs h1⟩, h2⟩

/-- An argument, opened. -/
theorem open_arg {n : Nat} {t : Ty} {T : TypeId} (ht : tyIs P n t T = true) {r : Reach} {b0 : Nat} {v : Value} {d : DataW H} {ps : List MemPlace} (hv : Value.okWide P w r b0 T v) (h : DataW.Trod enc' P w 0 sp held T v d ps) :
    ∃ x : El t, VRep (env0 w) (fun _ => undef) (ofCells t (enc false t x)) v ∧ WfE t x ∧ ∀ p ∈ ps, p.block < w.heap.size := by
  obtain ⟨fuel, hf⟩ := h
  obtain ⟨x, hT, hw⟩ := reads_T ((reads_ok n).1 t T ht fuel _ _ hf)
  have e : v = vIs t v.cells.toList := by
    cases n with
    | zero => simp [tyIs] at ht
    | succ n =>
      cases t with
      | int k =>
        simp only [tyIs] at ht
        split at ht
        · rename_i k' hu
          obtain ⟨z, rfl⟩ := okWide_int hu hv
          rfl
        · cases ht
      | bool =>
        simp only [tyIs] at ht
        split at ht
        · rename_i hu
          obtain ⟨z, rfl⟩ := okWide_bool hu hv
          rfl
        · cases ht
      | str =>
        simp only [tyIs] at ht
        split at ht
        · rename_i hu
          obtain ⟨z, rfl⟩ := okWide_string hu hv
          rfl
        · cases ht
      | slice e t =>
        simp only [tyIs] at ht
        split at ht
        · rename_i hu
          obtain ⟨a, l, c, rfl⟩ := okWide_slice hu hv
          rfl
        · cases ht
      | prod a b =>
        simp only [tyIs] at ht
        split at ht
        · rename_i fs hu
          obtain ⟨z, rfl, _⟩ := okWide_struct hu hv
          rfl
        · cases ht
      | rose t e => simp [tyIs] at ht
      | arr m t => simp [tyIs] at ht
  refine ⟨x, ?_, hw, fun p hp => DataW.trod_lt fuel _ _ _ hf p hp⟩
  have := ofCells_ok (tm := fun _ => undef) hT
  rw [← e] at this
  exact this

/-- A statement's call: it returns true, and nothing below has turned. -/
theorem row_run {f : FuncId} {pre : Tpl} (hpre : pre.objs = []) {fr : Bool} {x : pre.T} (h : SemFn P f pre [(.ret, { n := 1, slots := [(0, .hole fr .bool)], objs := [] })] x ((true, ()), ()))
    {vs : List Value} (hlen : vs.length = pre.n) (hval : ∀ s v, vs[s]? = some v → VRep (env0 w) (fun _ => undef) ((pre.inst x).tmps.getD s .dead) v) :
    Calls P f vs.toArray w fun e w' => e = .returned (.bool true) ∧ Below w.heap.size w w' := by
  have hg : ∀ id, (pre.inst x).get id = none := by
    intro id
    obtain ⟨n, slots, objs⟩ := pre
    subst hpre
    rfl
  have hP : Pre (env0 w) pre x vs := by
    refine ⟨env0_mr w, rfl, fun k => ⟨fun h => h.elim, fun h => (env0_owned h).elim⟩, fun id => (hg id).symm, fun id => ⟨fun h => h.elim, fun h => ?_⟩, hlen, hval⟩
    rw [hpre] at h
    exact absurd h (by simp)
  refine Calls.mono (h.2 (env0 w) vs hP) fun e w' he => ?_
  obtain ⟨v, E', rfl, rfl, hp⟩ := he
  refine ⟨?_, ?_⟩
  · have hv : CRep E' (.v (.bool true)) v := hp.val
    cases hv
    rfl
  · have hx := hp.mr.ext
    have h1 : E'.w0 = w := hp.same.w0
    have h2 : E'.O0 = fun _ => False := hp.same.O0
    rw [h1, h2] at hx
    exact ⟨hx.os, hx.tape, hx.output, hx.size, fun k hk => hx.block k hk (fun h => h)⟩

end
end Go.Proofs.YtjmnjimlkljhjaaV

/- Apart as one function; it ends; whichever is the first. -/
set_option linter.unusedVariables false
set_option maxRecDepth 100000
namespace Go.Proofs.YtjmnjimlkljhjaaV
open Go Go.Proofs
attribute [local irreducible] cs nx

theorem nodup_len {α : Type} [DecidableEq α] : ∀ (l U : List α), l.Nodup → (∀ x ∈ l, x ∈ U) → l.length ≤ U.length := by
  intro l
  induction l with
  | nil => intro U _ _; exact Nat.zero_le _
  | cons x l ih =>
    intro U hn hs
    rw [List.nodup_cons] at hn
    have hx : x ∈ U := hs x (by simp)
    have := ih (U.erase x) hn.2 fun y hy => (List.mem_erase_of_ne (fun (e : y = x) => hn.1 (by rw [← e]; exact hy))).2 (hs y (by simp [hy]))
    rw [List.length_erase_of_mem hx] at this
    have hp : 0 < U.length := List.length_pos_of_mem hx
    simp only [List.length_cons]
    omega

/-- Pairs met once each, out of U. -/
def Met (U : List Pr) (acc : List Q1) : Prop := (acc.map (·.1)).Nodup ∧ ∀ q ∈ acc, q.1 ∈ U

theorem ex1_met {U : List Pr} {δ : Pr → Int → Pr} (hδ : ∀ p c, p ∈ U → δ p c ∈ U) {p : Pr} (hp : p ∈ U) (t : List Int) : ∀ (l : List Int) (acc : List Q1), Met U acc → Met U (l.foldl (ex1 δ p t) acc) := by
  intro l
  induction l with
  | nil => intro acc h; exact h
  | cons c l ih =>
    intro acc h
    refine ih _ ?_
    unfold ex1
    split
    · exact h
    · rename_i hn
      refine ⟨?_, fun q hq => ?_⟩
      · rw [List.map_append, List.nodup_append]
        refine ⟨h.1, by simp, fun a ha b hb e => ?_⟩
        rw [List.map_cons, List.map_nil, List.mem_singleton] at hb
        subst hb
        obtain ⟨q, hq, rfl⟩ := List.mem_map.1 ha
        exact hn (List.any_eq_true.2 ⟨q, hq, by rw [e]; simp⟩)
      · rcases List.mem_append.1 hq with h1 | h1
        · exact h.2 q h1
        · rw [List.mem_singleton.1 h1]; exact hδ p c hp

theorem bfs_ends {U : List Pr} {δ : Pr → Int → Pr} (tell : Pr → Bool) (hδ : ∀ p c, p ∈ U → δ p c ∈ U) : ∀ (f k : Nat) (acc : List Q1), U.length < k + f → k ≤ acc.length → Met U acc → ∃ r, bfs δ tell f k acc = some r := by
  intro f
  induction f with
  | zero =>
    intro k acc h hk hm
    have := nodup_len (acc.map (·.1)) U hm.1 fun x hx => by
      obtain ⟨q, hq, rfl⟩ := List.mem_map.1 hx
      exact hm.2 q hq
    rw [List.length_map] at this
    omega
  | succ f ih =>
    intro k acc h hk hm
    simp only [bfs]
    cases hq : acc[k]? with
    | none => exact ⟨_, rfl⟩
    | some q =>
      obtain ⟨hlt, hqe⟩ := List.getElem?_eq_some_iff.1 hq
      show ∃ r, (if tell q.1 = true then some (some q.2) else bfs δ tell f (k + 1) (exAll δ q.1 q.2 acc)) = some r
      by_cases ht : tell q.1 = true
      · exact ⟨_, by rw [if_pos ht]⟩
      · rw [if_neg ht]
        have hl := (fold_len δ q.1 q.2 cs acc).2
        refine ih (k + 1) _ (by omega) (by unfold exAll; omega) ?_
        exact ex1_met hδ (hm.2 q (by rw [← hqe]; exact List.getElem_mem _)) q.2 cs acc hm

/-- The states, and none. -/
def box (n : Nat) : List Int := (List.range (n + 1)).map fun (i : Nat) => (i : Int) - 1
def boxes (n m : Nat) : List Pr := (box n).flatMap fun a => (box m).map fun b => (a, b)

theorem box_len (n : Nat) : (box n).length = n + 1 := by simp [box]
theorem boxes_len (n m : Nat) : (boxes n m).length = (n + 1) * (m + 1) := by
  unfold boxes
  rw [List.length_flatMap]
  have : (fun a => ((box m).map fun b => (a, b)).length) = fun (_ : Int) => m + 1 := by
    funext a; rw [List.length_map, box_len]
  rw [this]
  have h2 : ∀ l : List Int, (l.map fun _ => m + 1).sum = l.length * (m + 1) := by
    intro l
    induction l with
    | nil => simp
    | cons x l ih => rw [List.map_cons, List.sum_cons, ih, List.length_cons, Nat.add_mul, Nat.one_mul, Nat.add_comm]
  rw [h2, box_len]

theorem mem_box {n : Nat} {s : Int} : s ∈ box n ↔ -1 ≤ s ∧ s < (n : Int) := by
  unfold box
  rw [List.mem_map]
  constructor
  · rintro ⟨i, hi, rfl⟩
    rw [List.mem_range] at hi
    omega
  · rintro ⟨h1, h2⟩
    exact ⟨(s + 1).toNat, by rw [List.mem_range]; omega, by omega⟩

theorem mem_boxes {n m : Nat} {p : Pr} : p ∈ boxes n m ↔ p.1 ∈ box n ∧ p.2 ∈ box m := by
  obtain ⟨a, b⟩ := p
  unfold boxes
  rw [List.mem_flatMap]
  constructor
  · rintro ⟨x, hx, h⟩
    obtain ⟨y, hy, e⟩ := List.mem_map.1 h
    cases e
    exact ⟨hx, hy⟩
  · rintro ⟨h1, h2⟩
    exact ⟨a, h1, List.mem_map.2 ⟨b, h2, rfl⟩⟩

theorem nxL_ge (c : Int) {n : Int} : ∀ {l : List Move} {e t : Int}, okL n e t l = true → -1 ≤ nxL c l := by
  intro l
  induction l with
  | nil => intro e t _; simp only [nxL]; omega
  | cons m l ih =>
    intro e t h
    have hm := okL_lo h m (by simp)
    simp only [okL, Bool.and_eq_true] at h
    simp only [nxL]
    split
    · omega
    · exact ih h.2

section
attribute [local semireducible] nx
theorem nx_ge {ms : List (List Move)} (ho : ∀ l ∈ ms, okL (ms.length : Int) (-1) (-1) l = true) (s c : Int) : -1 ≤ nx ms s c := by
  unfold nx
  split
  · omega
  · rename_i h
    have hlt : s.toNat < ms.length := by omega
    rw [List.getD_eq_getElem?_getD, List.getElem?_eq_getElem hlt]
    exact nxL_ge c (ho _ (List.getElem_mem hlt))
end

/-- What is asked of an automaton that may be. -/
structure Okd (d : Dfa) : Prop where
  pos : 0 < d.1.length
  two : d.1.length ≤ 2000
  len : d.2.length = d.1.length
  acc : ∀ a ∈ d.2, -1 ≤ a
  mv : ∀ l ∈ d.1, okL (d.1.length : Int) (-1) (-1) l = true

theorem okA_okd {d : Dfa} (h : okA d = true) : Okd d := by
  simp only [okA, Bool.and_eq_true, decide_eq_true_eq, List.all_eq_true] at h
  obtain ⟨⟨⟨⟨h1, h2⟩, h3⟩, h4⟩, h5⟩ := h
  exact ⟨h1, h2, h3, h4, h5⟩

theorem few_le {d : Dfa} (h : fewF d = true) : d.1.length ≤ 12 ∧ d.2.length ≤ 20 ∧ ∀ l ∈ d.1, l.length ≤ 60 := by
  simp only [fewF, Bool.and_eq_true, decide_eq_true_eq, List.all_eq_true] at h
  exact ⟨h.1.1, h.1.2, h.2⟩

theorem few_big {d : Dfa} (h : fewF d = true) : ∀ l ∈ d.1, l.length ≤ 1000000 := fun l hl => by have := (few_le h).2.2 l hl; omega

/-- Small enough to be played. -/
structure Sm (d : Dfa) : Prop where
  le : d.1.length ≤ 12
  big : ∀ l ∈ d.1, l.length ≤ 1000000
theorem few_sm {d : Dfa} (h : fewF d = true) : Sm d := ⟨(few_le h).1, few_big h⟩

def start1 : List Q1 := [((0, 0), [])]

def apO (d b : Dfa) : Option (List Int) := (bfs (δR d.1 b.1) (tellR d.2 b.2) 200 0 start1).getD none

theorem ap_ends {d b : Dfa} (o1 : Okd d) (o2 : Okd b) (f1 : Sm d) (f2 : Sm b) : bfs (δR d.1 b.1) (tellR d.2 b.2) 200 0 start1 = some (apO d b) := by
  obtain ⟨r, hr⟩ := bfs_ends (U := boxes d.1.length b.1.length) (δ := δR d.1 b.1) (tellR d.2 b.2)
    (fun p c hp => by
      rw [mem_boxes, mem_box, mem_box]
      exact ⟨⟨nx_ge o1.mv _ _, nx_lt o1.pos o1.mv _ _⟩, nx_ge o2.mv _ _, nx_lt o2.pos o2.mv _ _⟩) 200 0 start1
    (by
      rw [boxes_len]
      have h1 := f1.le
      have h2 := f2.le
      have : (d.1.length + 1) * (b.1.length + 1) ≤ 13 * 13 := Nat.mul_le_mul (by omega) (by omega)
      omega) (Nat.zero_le _)
    ⟨by simp [start1], fun q hq => by
      rw [start1, List.mem_singleton] at hq
      subst hq
      rw [mem_boxes, mem_box, mem_box]
      have := o1.pos
      have := o2.pos
      exact ⟨⟨by simp, by simp; omega⟩, by simp, by simp; omega⟩⟩
  rw [apO, hr]
  rfl

def apF (d b : Dfa) : ByteArray × Bool × Int := if okA d = true ∧ okA b = true then (match apO d b with | none => (⟨#[]⟩, false, 0) | some t => (ofBytes t, true, 0)) else (⟨#[]⟩, false, 30)

def TyD (d : Dfa) : Prop := (∀ l ∈ d.1, ∀ m ∈ l, TyM m) ∧ ∀ a ∈ d.2, -9223372036854775808 ≤ a ∧ a ≤ 9223372036854775807

theorem startWays : Ways start1 [(-1, 0)] (putKV (eqEl (Ty.prod tI tI)) (0, 0) true []) := by
  refine ⟨rfl, ⟨rfl, rfl⟩, fun j h0 hj => ?_, fun n => ?_⟩
  · simp [start1] at hj; omega
  · rw [lkp_put]
    simp only [start1, List.any_cons, List.any_nil, Bool.or_false, decide_eq_true_eq, lkp]
    by_cases h : n = (0, 0)
    · subst h; simp
    · rw [if_neg h, if_neg (fun e => h e.symm)]

theorem s2100 (m1 : List (List Move)) (a1 : List Int) (m2 : List (List Move)) (a2 : List Int) (f1 : Sm (m1, a1)) (f2 : Sm (m2, a2)) (t1 : TyD (m1, a1)) (t2 : TyD (m2, a2)) :
    S 2100 (((m1, a1), (m2, a2), ()), ()) (((apF (m1, a1) (m2, a2)).1, (apF (m1, a1) (m2, a2)).2.1, (apF (m1, a1) (m2, a2)).2.2, ()), ()) := by
  have g1 : m1.length ≤ 12 := f1.le
  have g2 : m2.length ≤ 12 := f2.le
  refine r2100 _ _ _ _ ?_
  simp only [t21, wp_act]
  refine ⟨_, s2600 m1 a1 (by omega) f1.big t1.1, ?_⟩
  simp only [wp_ite]
  by_cases h1 : okA (m1, a1) = true
  · rw [if_pos h1]
    have e1 : ((0 : Int) != 0) = false := rfl
    simp only [e1, Bool.false_eq_true, if_false, wp_act]
    refine ⟨_, s2600 m2 a2 (by omega) f2.big t2.1, ?_⟩
    simp only [wp_ite]
    by_cases h2 : okA (m2, a2) = true
    · rw [if_pos h2]
      simp only [e1, Bool.false_eq_true, if_false, wp_act]
      have o1 := okA_okd h1
      have o2 := okA_okd h2
      have hb := s2101 m1 a1 m2 a2 f1.big f2.big o1.mv o2.mv o1.pos o2.pos o1.len o2.len 200 0 start1 [(-1, 0)] (putKV (eqEl (Ty.prod tI tI)) (0, 0) true []) _ (ap_ends o1 o2 f1 f2) (by omega) (by simp [start1]) (fun q hq => by
        rw [start1, List.mem_singleton] at hq; subst hq; simp) (fun q hq => by
        rw [start1, List.mem_singleton] at hq; subst hq
        have := o1.pos; have := o2.pos; simp at *; omega) startWays
      refine ⟨_, hb, ?_⟩
      have e : apF (m1, a1) (m2, a2) = (match apO (m1, a1) (m2, a2) with | none => (⟨#[]⟩, false, 0) | some t => (ofBytes t, true, 0)) := by unfold apF; rw [if_pos ⟨h1, h2⟩]
      rw [e]
      cases apO (m1, a1) (m2, a2) <;> rfl
    · rw [if_neg h2]
      have e : apF (m1, a1) (m2, a2) = (⟨#[]⟩, false, 30) := by unfold apF; rw [if_neg (fun h => h2 h.2)]
      rw [e]
      have e3 : ((30 : Int) != 0) = true := rfl
      simp only [e3, if_true]
      rfl
  · rw [if_neg h1]
    have e : apF (m1, a1) (m2, a2) = (⟨#[]⟩, false, 30) := by unfold apF; rw [if_neg (fun h => h1 h.1)]
    rw [e]
    have e3 : ((30 : Int) != 0) = true := rfl
    simp only [e3, if_true]
    rfl

theorem s2200 (m1 : List (List Move)) (a1 : List Int) (m2 : List (List Move)) (a2 : List Int) (f1 : Sm (m1, a1)) (f2 : Sm (m2, a2)) (t1 : TyD (m1, a1)) (t2 : TyD (m2, a2)) :
    S 2200 (((m1, a1), (m2, a2), ()), ()) (((apF (m1, a1) (m2, a2)).1, (apF (m1, a1) (m2, a2)).2.1, (apF (m1, a1) (m2, a2)).2.2, ()), ()) := by
  have g1 : m1.length ≤ 12 := f1.le
  have g2 : m2.length ≤ 12 := f2.le
  refine r2200 _ _ _ _ ?_
  simp only [t22, wp_act]
  refine ⟨_, s1200 m1 a1 (by omega) f1.big t1.1, ?_⟩
  simp only [wp_ite]
  by_cases h1 : okA (m1, a1) = true
  · rw [if_pos h1]
    have e1 : ((0 : Int) != 0) = false := rfl
    simp only [e1, Bool.false_eq_true, if_false, wp_act]
    refine ⟨_, s1200 m2 a2 (by omega) f2.big t2.1, ?_⟩
    simp only [wp_ite]
    by_cases h2 : okA (m2, a2) = true
    · rw [if_pos h2]
      simp only [e1, Bool.false_eq_true, if_false, wp_act]
      have o1 := okA_okd h1
      have o2 := okA_okd h2
      have hb := s2201 m1 a1 m2 a2 f1.big f2.big 200 0 start1 _ (ap_ends o1 o2 f1 f2) (by omega) (by simp [start1]) (fun q hq => by
        rw [start1, List.mem_singleton] at hq; subst hq; simp)
      refine ⟨_, hb, ?_⟩
      have e : apF (m1, a1) (m2, a2) = (match apO (m1, a1) (m2, a2) with | none => (⟨#[]⟩, false, 0) | some t => (ofBytes t, true, 0)) := by unfold apF; rw [if_pos ⟨h1, h2⟩]
      rw [e]
      cases apO (m1, a1) (m2, a2) <;> rfl
    · rw [if_neg h2]
      have e : apF (m1, a1) (m2, a2) = (⟨#[]⟩, false, 30) := by unfold apF; rw [if_neg (fun h => h2 h.2)]
      rw [e]
      have e3 : ((30 : Int) != 0) = true := rfl
      simp only [e3, if_true]
      rfl
  · rw [if_neg h1]
    have e : apF (m1, a1) (m2, a2) = (⟨#[]⟩, false, 30) := by unfold apF; rw [if_neg (fun h => h1 h.1)]
    rw [e]
    have e3 : ((30 : Int) != 0) = true := rfl
    simp only [e3, if_true]
    rfl

/-! ### turned; with itself -/
def turnQ (q : Q1) : Q1 := ((q.1.2, q.1.1), q.2)

theorem ex1_turn {δ δ' : Pr → Int → Pr} (h : ∀ a b c, δ' (b, a) c = ((δ (a, b) c).2, (δ (a, b) c).1)) (p : Pr) (t : List Int) : ∀ (l : List Int) (acc : List Q1), l.foldl (ex1 δ' (p.2, p.1) t) (acc.map turnQ) = (l.foldl (ex1 δ p t) acc).map turnQ := by
  intro l
  induction l with
  | nil => intro acc; rfl
  | cons c l ih =>
    intro acc
    rw [List.foldl_cons, List.foldl_cons, ← ih]
    congr 1
    unfold ex1
    have e : δ' (p.2, p.1) c = ((δ p c).2, (δ p c).1) := h p.1 p.2 c
    have ea : (acc.map turnQ).any (fun q => decide (q.1 = δ' (p.2, p.1) c)) = acc.any (fun q => decide (q.1 = δ p c)) := by
      rw [List.any_map, e]
      congr 1
      funext q
      obtain ⟨⟨a, b⟩, t⟩ := q
      generalize δ p c = r
      obtain ⟨r1, r2⟩ := r
      show decide ((b, a) = (r2, r1)) = decide ((a, b) = (r1, r2))
      rw [decide_eq_decide, Prod.mk.injEq, Prod.mk.injEq]
      exact And.comm
    rw [ea, e]
    split
    · rfl
    · rw [List.map_append]; rfl

theorem bfs_turn {δ δ' : Pr → Int → Pr} {tell tell' : Pr → Bool} (h : ∀ a b c, δ' (b, a) c = ((δ (a, b) c).2, (δ (a, b) c).1)) (ht : ∀ a b, tell' (b, a) = tell (a, b)) : ∀ (f k : Nat) (acc : List Q1), bfs δ' tell' f k (acc.map turnQ) = bfs δ tell f k acc := by
  intro f
  induction f with
  | zero => intro k acc; rfl
  | succ f ih =>
    intro k acc
    simp only [bfs, List.getElem?_map]
    cases hq : acc[k]? with
    | none => rfl
    | some q =>
      show (if tell' (q.1.2, q.1.1) = true then some (some q.2) else bfs δ' tell' f (k + 1) (exAll δ' (q.1.2, q.1.1) q.2 (acc.map turnQ))) = (if tell q.1 = true then some (some q.2) else bfs δ tell f (k + 1) (exAll δ q.1 q.2 acc))
      rw [show tell' (q.1.2, q.1.1) = tell q.1 from ht q.1.1 q.1.2]
      unfold exAll
      rw [ex1_turn h, ih]

theorem apO_turn (d b : Dfa) : apO b d = apO d b := by
  unfold apO
  have := bfs_turn (δ := δR d.1 b.1) (δ' := δR b.1 d.1) (tell := tellR d.2 b.2) (tell' := tellR b.2 d.2) (fun a b c => rfl) (fun x y => by
    show (toldF b.2 y != toldF d.2 x) = (toldF d.2 x != toldF b.2 y)
    rw [Bool.eq_iff_iff]; simp only [bne_iff_ne]; exact ne_comm) 200 0 start1
  rw [← this]
  rfl

theorem apF_turn (d b : Dfa) : apF b d = apF d b := by
  unfold apF
  rw [apO_turn]
  by_cases h : okA d = true ∧ okA b = true
  · rw [if_pos h, if_pos ⟨h.2, h.1⟩]
  · rw [if_neg h, if_neg (fun h2 => h ⟨h2.2, h2.1⟩)]

theorem ex1_diag {δ : Pr → Int → Pr} {I : Pr → Prop} (hδ : ∀ p c, c ∈ cs → I p → I (δ p c)) {p : Pr} (hp : I p) (t : List Int) : ∀ (l : List Int) (acc : List Q1), (∀ c ∈ l, c ∈ cs) → (∀ q ∈ acc, I q.1) → ∀ q ∈ l.foldl (ex1 δ p t) acc, I q.1 := by
  intro l
  induction l with
  | nil => intro acc _ h; exact h
  | cons c l ih =>
    intro acc hl h
    refine ih _ (fun x hx => hl x (by simp [hx])) fun q hq => ?_
    unfold ex1 at hq
    split at hq
    · exact h q hq
    · rcases List.mem_append.1 hq with h1 | h1
      · exact h q h1
      · rw [List.mem_singleton.1 h1]; exact hδ p c (hl c (by simp)) hp

theorem bfs_none {δ : Pr → Int → Pr} {tell : Pr → Bool} {I : Pr → Prop} (hδ : ∀ p c, c ∈ cs → I p → I (δ p c)) (ht : ∀ p, I p → tell p = false) : ∀ (f k : Nat) (acc : List Q1) (r : Option (List Int)), (∀ q ∈ acc, I q.1) → bfs δ tell f k acc = some r → r = none := by
  intro f
  induction f with
  | zero => intro k acc r _ h; cases h
  | succ f ih =>
    intro k acc r hI h
    simp only [bfs] at h
    cases hq : acc[k]? with
    | none => rw [hq] at h; cases h; rfl
    | some q =>
      rw [hq] at h
      have hm : q ∈ acc := List.mem_of_getElem? hq
      have h : (if tell q.1 = true then some (some q.2) else bfs δ tell f (k + 1) (exAll δ q.1 q.2 acc)) = some r := h
      rw [ht q.1 (hI q hm), if_neg (by simp)] at h
      exact ih _ _ _ (ex1_diag hδ (hI q hm) q.2 cs acc (fun _ h => h) hI) h

theorem apO_self {d : Dfa} : apO d d = none := by
  unfold apO
  cases hb : bfs (δR d.1 d.1) (tellR d.2 d.2) 200 0 start1 with
  | none => rfl
  | some r =>
    refine bfs_none (I := fun p => p.1 = p.2) (fun p c _ hp => ?_) (fun p hp => ?_) 200 0 start1 r (fun q hq => ?_) hb
    · show nx d.1 p.1 c = nx d.1 p.2 c
      rw [show p.1 = p.2 from hp]
    · show (toldF d.2 p.1 != toldF d.2 p.2) = false
      rw [show p.1 = p.2 from hp]; simp
    · rw [start1, List.mem_singleton] at hq; subst hq; rfl

theorem strEq_self (s : ByteArray) : strEq s s = true := by unfold strEq; simp

/-! ### the statements -/
theorem s500 (m1 : List (List Move)) (a1 : List Int) (m2 : List (List Move)) (a2 : List Int) (t1 : TyD (m1, a1)) (t2 : TyD (m2, a2)) : S 500 (((m1, a1), (m2, a2), ()), ()) ((true, ()), ()) := by
  refine r500 _ _ _ _ ?_
  simp only [t5, wp_act]
  refine ⟨_, s1000, _, s1100 m1 a1, ?_⟩
  cases f1 : fewF (m1, a1) with
  | false => rfl
  | true =>
    simp only [wp_ite, Bool.not_true, Bool.false_eq_true, if_false, wp_act]
    refine ⟨_, s1100 m2 a2, ?_⟩
    cases f2 : fewF (m2, a2) with
    | false => rfl
    | true =>
      simp only [wp_ite, Bool.not_true, Bool.false_eq_true, if_false, wp_act]
      refine ⟨_, s2100 m1 a1 m2 a2 (few_sm f1) (few_sm f2) t1 t2, _, s2200 m1 a1 m2 a2 (few_sm f1) (few_sm f2) t1 t2, ?_⟩
      simp only [wp_ret, strEq_self, beq_self_eq_true, Bool.and_self]

theorem s900 (m1 : List (List Move)) (a1 : List Int) (m2 : List (List Move)) (a2 : List Int) (t1 : TyD (m1, a1)) (t2 : TyD (m2, a2)) : S 900 (((m1, a1), (m2, a2), ()), ()) ((true, ()), ()) := by
  refine r900 _ _ _ _ ?_
  simp only [t9, wp_act]
  refine ⟨_, s1000, _, s1100 m1 a1, ?_⟩
  cases f1 : fewF (m1, a1) with
  | false => rfl
  | true =>
    simp only [wp_ite, Bool.not_true, Bool.false_eq_true, if_false, wp_act]
    refine ⟨_, s1100 m2 a2, ?_⟩
    cases f2 : fewF (m2, a2) with
    | false => rfl
    | true =>
      simp only [wp_ite, Bool.not_true, Bool.false_eq_true, if_false, wp_act]
      refine ⟨_, s2100 m1 a1 m2 a2 (few_sm f1) (few_sm f2) t1 t2, _, s2100 m2 a2 m1 a1 (few_sm f2) (few_sm f1) t2 t1, _, s2100 m1 a1 m1 a1 (few_sm f1) (few_sm f1) t1 t1, ?_⟩
      rw [apF_turn (m1, a1) (m2, a2)]
      have hs : (apF (m1, a1) (m1, a1)).2.1 = false := by
        unfold apF
        rw [apO_self]
        split <;> rfl
      have hg : ((apF (m1, a1) (m1, a1)).2.2 == 0 || (apF (m1, a1) (m2, a2)).2.2 != 0) = true := by
        unfold apF
        rw [apO_self]
        by_cases h : okA (m1, a1) = true
        · rw [if_pos ⟨h, h⟩]; rfl
        · rw [if_neg (fun h2 => h h2.1), if_neg (fun h2 => h h2.1)]; rfl
      simp only [wp_ite, wp_ret, strEq_self, beq_self_eq_true, Bool.and_self, hs, Bool.not_false, if_true, hg]

end Go.Proofs.YtjmnjimlkljhjaaV

/- What states come to: what is dead; what is alike. -/
set_option linter.unusedVariables false
set_option maxRecDepth 100000
namespace Go.Proofs.YtjmnjimlkljhjaaV
open Go Go.Proofs

def Byte (c : Int) : Prop := 0 ≤ c ∧ c ≤ 255
def Word (w : List Int) : Prop := ∀ c ∈ w, Byte c

theorem mem_cs {c : Int} : c ∈ cs ↔ Byte c := by
  unfold cs Byte
  rw [List.mem_map]
  constructor
  · rintro ⟨i, hi, rfl⟩
    rw [List.mem_range] at hi
    omega
  · rintro ⟨h1, h2⟩
    exact ⟨c.toNat, by rw [List.mem_range]; omega, by omega⟩

attribute [local irreducible] cs nx

def runS (d : Dfa) (s : Int) (w : List Int) : Int := w.foldl (nx d.1) s
def outS (d : Dfa) (s : Int) (w : List Int) : Int := toldF d.2 (runS d s w)
def SemEq (d : Dfa) (s : Int) (b : Dfa) (t : Int) : Prop := ∀ w, Word w → outS d s w = outS b t w
def DeadS (d : Dfa) (s : Int) : Prop := ∀ w, Word w → outS d s w = -1

section
attribute [local semireducible] nx
theorem nx_neg (ms : List (List Move)) {s : Int} (h : s < 0) (c : Int) : nx ms s c = -1 := by unfold nx; rw [if_pos (.inl h)]
theorem nx_at {ms : List (List Move)} {s : Nat} (h : s < ms.length) (c : Int) : nx ms (s : Int) c = nxL c ms[s] := by
  unfold nx
  rw [if_neg (by omega), getD_at h]
end

theorem runS_neg (d : Dfa) : ∀ (w : List Int), runS d (-1) w = -1 := by
  intro w
  induction w with
  | nil => rfl
  | cons c w ih => show runS d (nx d.1 (-1) c) w = -1; rw [nx_neg _ (by omega)]; exact ih

theorem outS_neg (d : Dfa) (w : List Int) : outS d (-1) w = -1 := by
  unfold outS
  rw [runS_neg]
  unfold toldF
  rw [if_pos (.inl (by omega))]

theorem outS_cons (d : Dfa) (s c : Int) (w : List Int) : outS d s (c :: w) = outS d (nx d.1 s c) w := rfl
theorem outS_nil (d : Dfa) (s : Int) : outS d s [] = toldF d.2 s := rfl

theorem Word.nil : Word [] := fun c h => by cases h
theorem Word.cons {c : Int} {w : List Int} (h : Byte c) (hw : Word w) : Word (c :: w) := fun x hx => by
  rcases List.mem_cons.1 hx with rfl | hx
  · exact h
  · exact hw x hx
theorem Word.head {c : Int} {w : List Int} (h : Word (c :: w)) : Byte c := h c (by simp)
theorem Word.tail {c : Int} {w : List Int} (h : Word (c :: w)) : Word w := fun x hx => h x (by simp [hx])

theorem dead_neg (d : Dfa) : DeadS d (-1) := fun w _ => outS_neg d w
theorem dead_iff {d : Dfa} {s : Int} : DeadS d s ↔ SemEq d s d (-1) := by
  constructor
  · intro h w hw; rw [h w hw, outS_neg]
  · intro h w hw; rw [h w hw, outS_neg]

theorem SemEq.refl (d : Dfa) (s : Int) : SemEq d s d s := fun _ _ => rfl
theorem SemEq.symm {d b : Dfa} {s t : Int} (h : SemEq d s b t) : SemEq b t d s := fun w hw => (h w hw).symm
theorem SemEq.trans {a b c : Dfa} {s t u : Int} (h : SemEq a s b t) (k : SemEq b t c u) : SemEq a s c u := fun w hw => (h w hw).trans (k w hw)
theorem SemEq.step {d b : Dfa} {s t : Int} (h : SemEq d s b t) {c : Int} (hc : Byte c) : SemEq d (nx d.1 s c) b (nx b.1 t c) := fun w hw => h (c :: w) (Word.cons hc hw)
theorem SemEq.dead {d b : Dfa} {s t : Int} (h : SemEq d s b t) : DeadS d s ↔ DeadS b t :=
  ⟨fun k w hw => (h w hw).symm.trans (k w hw), fun k w hw => (h w hw).trans (k w hw)⟩
theorem dead_semEq {d b : Dfa} {s t : Int} (h : DeadS d s) (k : DeadS b t) : SemEq d s b t := fun w hw => (h w hw).trans (k w hw).symm
theorem DeadS.step {d : Dfa} {s c : Int} (h : DeadS d s) (hc : Byte c) : DeadS d (nx d.1 s c) := fun w hw => h (c :: w) (Word.cons hc hw)

/-! ### moves -/
theorem nxL_mem {n : Int} {c : Int} : ∀ {l : List Move} {e t : Int}, okL n e t l = true → ∀ m ∈ l, m.1 ≤ c → c ≤ m.2.1 → nxL c l = m.2.2 := by
  intro l
  induction l with
  | nil => intro e t _ m hm; cases hm
  | cons x l ih =>
    intro e t h m hm h1 h2
    have hx := okL_lo h x (by simp)
    have h' := h
    simp only [okL, Bool.and_eq_true] at h'
    rcases List.mem_cons.1 hm with rfl | hm
    · simp only [nxL]
      rw [if_pos ⟨h1, h2⟩]
    · have := okL_lo h'.2 m hm
      simp only [nxL]
      rw [if_neg (by omega)]
      exact ih h'.2 m hm h1 h2

theorem nxL_some {c : Int} : ∀ {l : List Move}, nxL c l = -1 ∨ ∃ m ∈ l, m.1 ≤ c ∧ c ≤ m.2.1 ∧ nxL c l = m.2.2 := by
  intro l
  induction l with
  | nil => exact .inl rfl
  | cons x l ih =>
    simp only [nxL]
    by_cases h : c ≥ x.1 ∧ c ≤ x.2.1
    · rw [if_pos h]
      exact .inr ⟨x, by simp, h.1, h.2, rfl⟩
    · rw [if_neg h]
      rcases ih with h1 | ⟨m, hm, h1⟩
      · exact .inl h1
      · exact .inr ⟨m, by simp [hm], h1⟩

theorem toldF_at {ac : List Int} {s : Nat} (h : s < ac.length) : toldF ac (s : Int) = ac[s] := by
  unfold toldF
  rw [if_neg (by omega), getD_at h]

theorem getSet {α : Type} (l : List α) (i j : Nat) (v d : α) : (l.set i v).getD j d = if i = j ∧ i < l.length then v else l.getD j d := by
  simp only [List.getD_eq_getElem?_getD, List.getElem?_set]
  by_cases h : i = j
  · subst h
    by_cases h2 : i < l.length
    · simp [h2]
    · simp [h2]
  · simp [h]

section
open Classical
noncomputable def deadF (d : Dfa) : List Bool := (List.range d.1.length).map fun (s : Nat) => decide (DeadS d (s : Int))

theorem deadF_len (d : Dfa) : (deadF d).length = d.1.length := by simp [deadF]
theorem deadF_at (d : Dfa) {s : Nat} (h : s < d.1.length) : (deadF d).getD s false = decide (DeadS d (s : Int)) := by
  simp [deadF, List.getD_eq_getElem?_getD, h]

/-- Marks that are sound, with what accepts unmarked, and closed. -/
theorem dead_closed {d : Dfa} (o : Okd d) {l : List Bool} (hl : l.length = d.1.length) (hs : ∀ s, s < d.1.length → l.getD s false = false → ¬ DeadS d (s : Int))
    (ha : ∀ s, s < d.1.length → 0 ≤ d.2.getD s 0 → l.getD s false = false)
    (hc : ∀ s (h : s < d.1.length), ∀ m ∈ d.1[s], l.getD m.2.2.toNat false = false → l.getD s false = false) : l = deadF d := by
  have key : ∀ (w : List Int), Word w → ∀ s, s < d.1.length → l.getD s false = true → outS d (s : Int) w = -1 := by
    intro w
    induction w with
    | nil =>
      intro _ s h ht
      have hlt : s < d.2.length := by rw [o.len]; exact h
      rw [outS_nil, toldF_at hlt]
      have h1 := o.acc _ (List.getElem_mem hlt)
      rcases Int.lt_or_le d.2[s] 0 with h2 | h2
      · omega
      · have := ha s h (by simp [List.getD_eq_getElem?_getD, hlt]; exact h2)
        rw [this] at ht; cases ht
    | cons c w ih =>
      intro hw s h ht
      rw [outS_cons, nx_at h]
      rcases nxL_some (c := c) (l := d.1[s]) with h1 | ⟨m, hm, h1, h2, h3⟩
      · rw [h1, outS_neg]
      · rw [h3]
        have hb := okL_lo (o.mv _ (List.getElem_mem h)) m hm
        have e : m.2.2 = ((m.2.2.toNat : Nat) : Int) := by omega
        have hn : m.2.2.toNat < d.1.length := by omega
        rw [e]
        refine ih hw.tail _ hn ?_
        cases h4 : l.getD m.2.2.toNat false with
        | true => rfl
        | false => rw [hc s h m hm h4] at ht; cases ht
  apply List.ext_getElem?
  intro s
  by_cases h : s < d.1.length
  · have h1 : s < l.length := by omega
    have h2 : s < (deadF d).length := by rw [deadF_len]; exact h
    have e1 : l.getD s false = l[s] := by simp [List.getD_eq_getElem?_getD, h1]
    have e2 : (deadF d).getD s false = (deadF d)[s] := by simp [List.getD_eq_getElem?_getD, h2]
    rw [List.getElem?_eq_getElem h1, List.getElem?_eq_getElem h2, ← e1, ← e2, deadF_at d h]
    congr 1
    cases hb : l.getD s false with
    | false => exact (decide_eq_false (hs s h hb)).symm
    | true => exact (decide_eq_true (fun w hw => key w hw s h hb)).symm
  · rw [List.getElem?_eq_none (by omega), List.getElem?_eq_none (by rw [deadF_len]; omega)]
end

theorem live_move {d : Dfa} (o : Okd d) {s : Nat} (h : s < d.1.length) {m : Move} (hm : m ∈ d.1[s]) (hty : TyM m) (hl : ¬ DeadS d m.2.2) : ¬ DeadS d (s : Int) := by
  intro hd
  apply hl
  have hb := okL_lo (o.mv _ (List.getElem_mem h)) m hm
  have := hd.step (c := m.1) ⟨hty.1, hty.2.1⟩
  rw [nx_at h, nxL_mem (o.mv _ (List.getElem_mem h)) m hm (Int.le_refl _) hb.2.1] at this
  exact this

theorem live_acc {d : Dfa} (o : Okd d) {s : Nat} (h : s < d.1.length) (ha : 0 ≤ d.2.getD s 0) : ¬ DeadS d (s : Int) := by
  intro hd
  have hlt : s < d.2.length := by rw [o.len]; exact h
  have := hd [] Word.nil
  rw [outS_nil, toldF_at hlt] at this
  simp [List.getD_eq_getElem?_getD, hlt] at ha
  omega

end Go.Proofs.YtjmnjimlkljhjaaV

/- Which states are dead: the two ways come to one. -/
set_option linter.unusedVariables false
set_option maxRecDepth 100000
namespace Go.Proofs.YtjmnjimlkljhjaaV
open Go Go.Proofs
attribute [local irreducible] cs nx

theorem okL_len {n : Int} : ∀ {l : List Move} {e t : Int}, okL n e t l = true → (∀ m ∈ l, TyM m) → e ≤ 255 → (l.length : Int) ≤ 255 - e := by
  intro l
  induction l with
  | nil => intro e t _ _ h; simp; omega
  | cons m l ih =>
    intro e t h hty _
    have hm := okL_lo h m (by simp)
    have ht := hty m (by simp)
    simp only [okL, Bool.and_eq_true] at h
    have := ih h.2 (fun x hx => hty x (by simp [hx])) ht.2.2.2.1
    simp only [List.length_cons]
    omega

theorem Okd.mvlen {d : Dfa} (o : Okd d) (ty : TyD d) : ∀ l ∈ d.1, l.length ≤ 256 := fun l hl => by
  have := okL_len (o.mv l hl) (ty.1 l hl) (by omega)
  omega

/-! ### the program's -/
def pushB (s : Int) (l : List Move) (b : List (List Int)) : List (List Int) := l.foldl (fun b m => b.set m.2.2.toNat (b.getD m.2.2.toNat [] ++ [s])) b

theorem pushB_len (s : Int) : ∀ (l : List Move) (b : List (List Int)), (pushB s l b).length = b.length := by
  intro l
  induction l with
  | nil => intro b; rfl
  | cons m l ih => intro b; show (pushB s l _).length = _; rw [ih, List.length_set]

theorem pushB_row (s : Int) : ∀ (l : List Move) (b : List (List Int)) (K : Nat), (∀ j, (b.getD j []).length ≤ K) → ∀ j, ((pushB s l b).getD j []).length ≤ K + l.length := by
  intro l
  induction l with
  | nil => intro b K h j; exact h j
  | cons m l ih =>
    intro b K h j
    have := ih (b.set m.2.2.toNat (b.getD m.2.2.toNat [] ++ [s])) (K + 1) (fun j => by
      rw [getSet]
      split
      · rw [List.length_append, List.length_singleton]; have := h m.2.2.toNat; omega
      · have := h j; omega) j
    show ((pushB s l _).getD j []).length ≤ _
    simp only [List.length_cons]
    omega

theorem pushB_mem (s : Int) : ∀ (l : List Move) (b : List (List Int)), (∀ m ∈ l, m.2.2.toNat < b.length) → ∀ j t, t ∈ (pushB s l b).getD j [] ↔ t ∈ b.getD j [] ∨ (t = s ∧ ∃ m ∈ l, m.2.2.toNat = j) := by
  intro l
  induction l with
  | nil => intro b _ j t; simp [pushB]
  | cons m l ih =>
    intro b hb j t
    show t ∈ (pushB s l _).getD j [] ↔ _
    rw [ih _ (fun x hx => by rw [List.length_set]; exact hb x (by simp [hx])), getSet]
    have hm := hb m (by simp)
    simp only [List.mem_cons, exists_eq_or_imp]
    by_cases e : m.2.2.toNat = j
    · subst e
      rw [if_pos ⟨rfl, hm⟩, List.mem_append, List.mem_singleton]
      constructor
      · rintro ((h | h) | h)
        · exact .inl h
        · exact .inr ⟨h, .inl rfl⟩
        · exact .inr ⟨h.1, .inr h.2⟩
      · rintro (h | ⟨h, _ | h2⟩)
        · exact .inl (.inl h)
        · exact .inl (.inr h)
        · exact .inr ⟨h, h2⟩
    · rw [if_neg (fun h => e h.1)]
      constructor
      · rintro (h | h)
        · exact .inl h
        · exact .inr ⟨h.1, .inr h.2⟩
      · rintro (h | ⟨h, h1 | h2⟩)
        · exact .inl h
        · exact absurd h1 e
        · exact .inr ⟨h, h2⟩

theorem getN {α : Type} {l : List α} {i : Nat} (h : i < l.length) (d : α) : l.getD i d = l[i] := by
  simp [List.getD_eq_getElem?_getD, h]

section
variable (ms : List (List Move)) (ac : List Int)

theorem s1302 (n' s s' : Int) (l : List Move) (dead : List Bool) (todo : List Int) (hl : l.length ≤ 1000000) : ∀ k i (b : List (List Int)) (K : Nat), i + k = l.length → (∀ m ∈ l, 0 ≤ m.2.2 ∧ m.2.2 < (b.length : Int)) → (∀ j, (b.getD j []).length ≤ K) → K + k ≤ 1000000 →
    S 1302 ((s, ms, n', s', l, (l.length : Int), (i : Int), ()), (ms, ac, ()), b, dead, todo, ()) ((ms, n', s', ()), (ms, ac, ()), pushB s (l.drop i) b, dead, todo, ()) := by
  intro k
  induction k with
  | zero =>
    intro i b K hi _ _ _
    refine r1302 _ _ _ _ _ _ _ _ _ _ _ _ ?_
    have h1 : ¬ (i : Int) < (l.length : Int) := by omega
    rw [List.drop_eq_nil_of_le (show l.length ≤ i by omega)]
    simp only [l13_1, wp_ite, h1, decide_false, Bool.false_eq_true, if_false, wp_ret]
    rfl
  | succ k ih =>
    intro i b K hi hb hr hK
    refine r1302 _ _ _ _ _ _ _ _ _ _ _ _ ?_
    have hlt : i < l.length := by omega
    have h1 : (i : Int) < (l.length : Int) := by omega
    have h0 : (0 : Int) ≤ (i : Int) := by omega
    have hm := hb _ (List.getElem_mem hlt)
    have h2 : l[i].2.2 ≥ 0 := hm.1
    have h2' : 0 ≤ l[i].2.2 := hm.1
    have h3 : l[i].2.2 < (b.length : Int) := hm.2
    have hrow := hr l[i].2.2.toNat
    have h4 : ((b.getD l[i].2.2.toNat []).length + [s].length) * 8 ≤ 140737488355328 := by rw [List.length_singleton]; omega
    rw [drop_at hlt]
    simp only [l13_1, wp_ite, wp_chk, wp_ret, getD_at hlt, wsucc hlt hl, h1, h0, h2, h3, h4, decide_true, if_true, true_and, Bool.and_self, beq_self_eq_true]
    exact ih (i + 1) _ (K + 1) (by omega) (fun m hm => by rw [List.length_set]; exact hb m hm) (fun j => by
      rw [getSet]
      split
      · rw [List.length_append, List.length_singleton]; omega
      · have := hr j; omega) (by omega)

/-- What there is when the first i states have been looked at. -/
structure Ph1 (i : Nat) (b : List (List Int)) (dead : List Bool) (todo : List Int) : Prop where
  lb : b.length = ms.length
  ld : dead.length = ms.length
  dd : ∀ j, j < i → dead.getD j false = decide (ac.getD j 0 < 0)
  td : ∀ t ∈ todo, ∃ j : Nat, t = (j : Int) ∧ j < i ∧ dead.getD j false = false
  dt : ∀ j, j < i → dead.getD j false = false → (j : Int) ∈ todo
  bk : ∀ j t, t ∈ b.getD j [] ↔ ∃ s : Nat, t = (s : Int) ∧ s < i ∧ ∃ m ∈ ms.getD s [], m.2.2.toNat = j
  rw : ∀ j, (b.getD j []).length ≤ 256 * i
  tl : todo.length ≤ i

theorem Ph1.next {i : Nat} {b : List (List Int)} {dead : List Bool} {todo : List Int} (h : Ph1 ms ac i b dead todo) (hi : i < ms.length) (hmv : ∀ m ∈ ms[i], 0 ≤ m.2.2 ∧ m.2.2 < (ms.length : Int)) (hml : ms[i].length ≤ 256) :
    (ac.getD i 0 ≥ 0 → Ph1 ms ac (i + 1) (pushB (i : Int) ms[i] b) ((dead.set i true).set i false) (todo ++ [(i : Int)])) ∧
    (ac.getD i 0 < 0 → Ph1 ms ac (i + 1) (pushB (i : Int) ms[i] b) (dead.set i true) todo) := by
  have hd : i < dead.length := by rw [h.ld]; exact hi
  have hb : ∀ m ∈ ms[i], m.2.2.toNat < b.length := fun m hm => by have := hmv m hm; rw [h.lb]; omega
  have hg : ms.getD i [] = ms[i] := by simp [List.getD_eq_getElem?_getD, hi]
  have bk : ∀ j t, t ∈ (pushB (i : Int) ms[i] b).getD j [] ↔ ∃ s : Nat, t = (s : Int) ∧ s < i + 1 ∧ ∃ m ∈ ms.getD s [], m.2.2.toNat = j := by
    intro j t
    rw [pushB_mem _ _ _ hb, h.bk]
    constructor
    · rintro (⟨s, h1, h2, h3⟩ | ⟨h1, h2⟩)
      · exact ⟨s, h1, by omega, h3⟩
      · exact ⟨i, h1, by omega, by rw [hg]; exact h2⟩
    · rintro ⟨s, h1, h2, h3⟩
      rcases Nat.lt_or_ge s i with h4 | h4
      · exact .inl ⟨s, h1, h4, h3⟩
      · have : s = i := by omega
        subst this
        rw [hg] at h3
        exact .inr ⟨h1, h3⟩
  have rw' : ∀ j, ((pushB (i : Int) ms[i] b).getD j []).length ≤ 256 * (i + 1) := fun j => by
    have := pushB_row (i : Int) ms[i] b (256 * i) h.rw j
    omega
  constructor
  · intro ha
    have g : ∀ j, ((dead.set i true).set i false).getD j false = if i = j then false else dead.getD j false := by
      intro j
      rw [getSet, getSet]
      by_cases e : i = j
      · rw [if_pos ⟨e, by rw [List.length_set]; exact hd⟩, if_pos e]
      · rw [if_neg (fun h => e h.1), if_neg (fun h => e h.1), if_neg e]
    refine ⟨by rw [pushB_len, h.lb], by simp [h.ld], fun j hj => ?_, fun t ht => ?_, fun j hj hf => ?_, bk, rw', by simp; have := h.tl; omega⟩
    · rw [g]
      by_cases e : i = j
      · subst e
        rw [if_pos rfl]; exact (decide_eq_false (by omega)).symm
      · rw [if_neg e]; exact h.dd j (by omega)
    · rcases List.mem_append.1 ht with h1 | h1
      · obtain ⟨j, h2, h3, h4⟩ := h.td t h1
        exact ⟨j, h2, by omega, by rw [g, if_neg (by omega)]; exact h4⟩
      · rw [List.mem_singleton] at h1
        exact ⟨i, h1, by omega, by rw [g, if_pos rfl]⟩
    · rw [List.mem_append, List.mem_singleton]
      by_cases e : i = j
      · right; rw [e]
      · left
        rw [g, if_neg e] at hf
        exact h.dt j (by omega) hf
  · intro ha
    have g : ∀ j, (dead.set i true).getD j false = if i = j then true else dead.getD j false := by
      intro j
      rw [getSet]
      by_cases e : i = j
      · rw [if_pos ⟨e, hd⟩, if_pos e]
      · rw [if_neg (fun h => e h.1), if_neg e]
    refine ⟨by rw [pushB_len, h.lb], by simp [h.ld], fun j hj => ?_, fun t ht => ?_, fun j hj hf => ?_, bk, rw', by have := h.tl; omega⟩
    · rw [g]
      by_cases e : i = j
      · subst e
        rw [if_pos rfl]; exact (decide_eq_true (by omega)).symm
      · rw [if_neg e]; exact h.dd j (by omega)
    · obtain ⟨j, h2, h3, h4⟩ := h.td t ht
      exact ⟨j, h2, by omega, by rw [g, if_neg (by omega)]; exact h4⟩
    · by_cases e : i = j
      · subst e
        rw [g, if_pos rfl] at hf; cases hf
      · rw [g, if_neg e] at hf
        exact h.dt j (by omega) hf

theorem s1301 (o : Okd (ms, ac)) (ty : TyD (ms, ac)) : ∀ k i (b : List (List Int)) (dead : List Bool) (todo : List Int), i + k = ms.length → Ph1 ms ac i b dead todo →
    ∃ b' dead' todo', Ph1 ms ac ms.length b' dead' todo' ∧ S 1301 ((ms, (ms.length : Int), (i : Int), ()), (ms, ac, ()), b, dead, todo, ()) ((), b', dead', todo', ()) := by
  intro k
  induction k with
  | zero =>
    intro i b dead todo hi h
    have e : i = ms.length := by omega
    refine ⟨b, dead, todo, by rw [← e]; exact h, r1301 _ _ _ _ _ _ _ _ ?_⟩
    have h1 : ¬ (i : Int) < (ms.length : Int) := by omega
    simp only [l13_0, wp_ite, h1, decide_false, Bool.false_eq_true, if_false, wp_ret]
    rfl
  | succ k ih =>
    intro i b dead todo hi h
    have hlt : i < ms.length := by omega
    have two : ms.length ≤ 2000 := o.two
    have ol : ac.length = ms.length := o.len
    have h1 : (i : Int) < (ms.length : Int) := by omega
    have h0 : (0 : Int) ≤ (i : Int) := by omega
    have h2 : (i : Int) < (ac.length : Int) := by omega
    have h3 : (i : Int) < (dead.length : Int) := by rw [h.ld]; omega
    have h4 : (i : Int) < ((dead.set i true).length : Int) := by rw [List.length_set]; exact h3
    have ha : i < ac.length := by omega
    have ea : ac.getD i 0 = ac[i] := by simp [List.getD_eq_getElem?_getD, ha]
    have hmv : ∀ m ∈ ms[i], 0 ≤ m.2.2 ∧ m.2.2 < (ms.length : Int) := fun m hm => by
      have := okL_lo (o.mv _ (List.getElem_mem hlt)) m hm
      exact ⟨this.2.2.1, this.2.2.2⟩
    have hml : ms[i].length ≤ 256 := o.mvlen ty _ (List.getElem_mem hlt)
    obtain ⟨n1, n2⟩ := h.next ms ac hlt hmv hml
    have tl := h.tl
    have hl8 : (todo.length + [(i : Int)].length) * 8 ≤ 140737488355328 := by simp; omega
    have hw := wsucc hlt (show ms.length ≤ 1000000 by omega)
    rw [ea] at n1 n2
    by_cases hc : ac[i] ≥ 0
    · obtain ⟨b', d', t', hp, hS⟩ := ih (i + 1) _ _ _ (by omega) (n1 hc)
      refine ⟨b', d', t', hp, r1301 _ _ _ _ _ _ _ _ ?_⟩
      simp only [l13_0, wp_ite, wp_chk, Int.toNat_natCast, getN hlt, getN ha, h1, h0, h2, h3, h4, decide_true, if_true, true_and, Bool.not_true, Bool.false_or, Bool.true_and, hc, hl8, wp_act]
      refine ⟨_, s1302 ms ac (ms.length : Int) (i : Int) (i : Int) ms[i] _ _ (by omega) ms[i].length 0 b (256 * i) (by omega) (fun m hm => by rw [h.lb]; exact hmv m hm) h.rw (by omega), ?_⟩
      rw [List.drop_zero]
      show S 1301 ((ms, (ms.length : Int), IntKind.wrap IntKind.i64 ((i : Int) + 1), ()), (ms, ac, ()), _, _, _, ()) _
      rw [hw]
      exact hS
    · obtain ⟨b', d', t', hp, hS⟩ := ih (i + 1) _ _ _ (by omega) (n2 (by omega))
      refine ⟨b', d', t', hp, r1301 _ _ _ _ _ _ _ _ ?_⟩
      simp only [l13_0, wp_ite, wp_chk, Int.toNat_natCast, getN hlt, getN ha, h1, h0, h2, h3, h4, decide_true, decide_false, Bool.false_eq_true, if_false, if_true, true_and, Bool.not_true, Bool.false_or, Bool.true_and, hc, wp_act]
      refine ⟨_, s1302 ms ac (ms.length : Int) (i : Int) (i : Int) ms[i] _ _ (by omega) ms[i].length 0 b (256 * i) (by omega) (fun m hm => by rw [h.lb]; exact hmv m hm) h.rw (by omega), ?_⟩
      rw [List.drop_zero]
      show S 1301 ((ms, (ms.length : Int), IntKind.wrap IntKind.i64 ((i : Int) + 1), ()), (ms, ac, ()), _, _, _, ()) _
      rw [hw]
      exact hS
end

/-! ### the states that lead there -/
def markF : List Int → List Bool × List Int → List Bool × List Int
  | [], x => x
  | t :: r, x => markF r (if x.1.getD t.toNat false = true then (x.1.set t.toNat false, x.2 ++ [t]) else x)

theorem count_set : ∀ (l : List Bool) (j : Nat), l.getD j false = true → (l.set j false).count true + 1 = l.count true := by
  intro l
  induction l with
  | nil => intro j h; simp at h
  | cons b l ih =>
    intro j h
    cases j with
    | zero =>
      have hb : b = true := by simpa using h
      subst hb
      simp
    | succ j =>
      have := ih j (by simpa using h)
      simp only [List.set_cons_succ, List.count_cons]
      omega

theorem markF_ok : ∀ (row : List Int) (x : List Bool × List Int), (∀ t ∈ row, 0 ≤ t ∧ t < (x.1.length : Int)) →
    (markF row x).1.length = x.1.length ∧ (∀ j, (markF row x).1.getD j false = false ↔ x.1.getD j false = false ∨ (j : Int) ∈ row) ∧
    (∀ t, t ∈ (markF row x).2 ↔ t ∈ x.2 ∨ (t ∈ row ∧ x.1.getD t.toNat false = true)) ∧ (markF row x).2.length + (markF row x).1.count true = x.2.length + x.1.count true := by
  intro row
  induction row with
  | nil => intro x _; simp [markF]
  | cons t r ih =>
    intro x hr
    have ht := hr t (by simp)
    by_cases h : x.1.getD t.toNat false = true
    · have e : markF (t :: r) x = markF r (x.1.set t.toNat false, x.2 ++ [t]) := by simp only [markF]; rw [if_pos h]
      rw [e]
      obtain ⟨h1, h2, h3, h4⟩ := ih (x.1.set t.toNat false, x.2 ++ [t]) (fun u hu => by
        show 0 ≤ u ∧ u < ((x.1.set t.toNat false).length : Int)
        rw [List.length_set]; exact hr u (by simp [hu]))
      have hlt : t.toNat < x.1.length := by omega
      refine ⟨by rw [h1, List.length_set], fun j => ?_, fun u => ?_, ?_⟩
      · rw [h2 j]
        show (x.1.set t.toNat false).getD j false = false ∨ _ ↔ _
        rw [getSet]
        by_cases ej : t.toNat = j
        · have : (j : Int) = t := by omega
          rw [if_pos ⟨ej, hlt⟩]
          simp only [this, true_or, List.mem_cons, or_true]
        · have : ¬ (j : Int) = t := by omega
          rw [if_neg (fun h => ej h.1)]
          simp only [this, List.mem_cons, false_or]
      · rw [h3 u]
        show u ∈ x.2 ++ [t] ∨ (u ∈ r ∧ (x.1.set t.toNat false).getD u.toNat false = true) ↔ _
        rw [List.mem_append, List.mem_singleton, getSet]
        by_cases eu : u = t
        · subst eu
          exact ⟨fun _ => .inr ⟨List.mem_cons_self, h⟩, fun _ => .inl (.inr rfl)⟩
        · by_cases hur : u ∈ r
          · have hu := hr u (by simp [hur])
            rw [if_neg (fun h => eu (by have := h.1; omega))]
            simp only [eu, hur, or_false, true_and, List.mem_cons, or_true]
          · simp only [eu, hur, or_false, false_and, List.mem_cons]
      · rw [h4]
        have := count_set x.1 t.toNat h
        show (x.2 ++ [t]).length + (x.1.set t.toNat false).count true = _
        rw [List.length_append, List.length_singleton]
        omega
    · have e : markF (t :: r) x = markF r x := by simp only [markF]; rw [if_neg h]
      have hf : x.1.getD t.toNat false = false := by simpa using h
      rw [e]
      obtain ⟨h1, h2, h3, h4⟩ := ih x (fun u hu => hr u (by simp [hu]))
      refine ⟨h1, fun j => ?_, fun u => ?_, h4⟩
      · rw [h2 j]
        by_cases ej : (j : Int) = t
        · have : x.1.getD j false = false := by rw [show j = t.toNat by omega]; exact hf
          simp only [this, true_or]
        · simp only [ej, List.mem_cons, false_or]
      · rw [h3 u]
        by_cases eu : u = t
        · subst eu
          simp only [hf, Bool.false_eq_true, and_false]
        · simp only [eu, List.mem_cons, false_or]

theorem s1304 (b : List (List Int)) (row : List Int) (hn : row.length ≤ 1000000) : ∀ k i (dead : List Bool) (todo : List Int), i + k = row.length → (∀ t ∈ row, 0 ≤ t ∧ t < (dead.length : Int)) → todo.length + k ≤ 2000000 →
    S 1304 ((row, (row.length : Int), (i : Int), ()), b, dead, todo, ()) ((), b, (markF (row.drop i) (dead, todo)).1, (markF (row.drop i) (dead, todo)).2, ()) := by
  intro k
  induction k with
  | zero =>
    intro i dead todo hi _ _
    refine r1304 _ _ _ _ _ _ ?_
    have h1 : ¬ (i : Int) < (row.length : Int) := by omega
    rw [List.drop_eq_nil_of_le (show row.length ≤ i by omega)]
    simp only [l13_3, wp_ite, h1, decide_false, Bool.false_eq_true, if_false, wp_ret]
    rfl
  | succ k ih =>
    intro i dead todo hi hr htl
    refine r1304 _ _ _ _ _ _ ?_
    have hlt : i < row.length := by omega
    have h1 : (i : Int) < (row.length : Int) := by omega
    have h0 : (0 : Int) ≤ (i : Int) := by omega
    have ht := hr _ (List.getElem_mem hlt)
    rw [drop_at hlt]
    have hl8 : (todo.length + [row[i]].length) * 8 ≤ 140737488355328 := by simp; omega
    simp only [l13_3, wp_ite, wp_chk, wp_ret, getD_at hlt, wsucc hlt hn, h1, h0, ht.1, ht.2, hl8, decide_true, if_true, true_and]
    by_cases hc : dead.getD row[i].toNat false = true
    · have e : markF (row[i] :: row.drop (i + 1)) (dead, todo) = markF (row.drop (i + 1)) (dead.set row[i].toNat false, todo ++ [row[i]]) := by simp only [markF]; rw [if_pos hc]
      rw [e, if_pos hc]
      exact ih (i + 1) _ _ (by omega) (fun t ht => by rw [List.length_set]; exact hr t ht) (by simp; omega)
    · have e : markF (row[i] :: row.drop (i + 1)) (dead, todo) = markF (row.drop (i + 1)) (dead, todo) := by simp only [markF]; rw [if_neg hc]
      rw [e, if_neg hc]
      exact ih (i + 1) _ _ (by omega) hr (by omega)

section
variable (ms : List (List Move)) (ac : List Int)

/-- Who leads where. -/
structure BackOk (b : List (List Int)) : Prop where
  lb : b.length = ms.length
  bk : ∀ j t, t ∈ b.getD j [] ↔ ∃ s : Nat, t = (s : Int) ∧ s < ms.length ∧ ∃ m ∈ ms.getD s [], m.2.2.toNat = j
  rw : ∀ j, (b.getD j []).length ≤ 256 * ms.length

structure Work (b : List (List Int)) (dead : List Bool) (todo : List Int) : Prop where
  ld : dead.length = ms.length
  sound : ∀ s, s < ms.length → dead.getD s false = false → ¬ DeadS (ms, ac) (s : Int)
  acc : ∀ s, s < ms.length → 0 ≤ ac.getD s 0 → dead.getD s false = false
  td : ∀ t ∈ todo, ∃ j : Nat, t = (j : Int) ∧ j < ms.length ∧ dead.getD j false = false
  closed : ∀ j, j < ms.length → dead.getD j false = false → (j : Int) ∉ todo → ∀ s ∈ b.getD j [], dead.getD s.toNat false = false

theorem s1303 (o : Okd (ms, ac)) (ty : TyD (ms, ac)) (b : List (List Int)) (B : BackOk ms b) : ∀ (f : Nat) (dead : List Bool) (todo : List Int), todo.length + 2 * dead.count true ≤ f → todo.length + dead.count true ≤ 10000 → Work ms ac b dead todo →
    S 1303 ((), b, dead, todo, ()) ((), deadF (ms, ac), ()) := by
  intro f
  induction f with
  | zero =>
    intro dead todo hf hc W
    have e : todo = [] := List.eq_nil_of_length_eq_zero (by omega)
    subst e
    refine r1303 _ _ _ ?_
    have h1 : ¬ (((([] : List Int).length : Nat) : Int) > 0) := by simp
    simp only [l13_2, wp_ite, h1, decide_false, Bool.false_eq_true, if_false, wp_ret]
    show (((), dead, ()) : PUnit × List Bool × PUnit) = ((), deadF (ms, ac), ())
    rw [dead_closed o W.ld W.sound W.acc fun s h m hm h2 => ?_]
    have hb := okL_lo (o.mv _ (List.getElem_mem h)) m hm
    have hl : m.2.2 < (ms.length : Int) := hb.2.2.2
    have := W.closed m.2.2.toNat (by omega) h2 (by simp) (s : Int) ((B.bk _ _).2 ⟨s, rfl, h, m, by simpa [List.getD_eq_getElem?_getD, h] using hm, rfl⟩)
    exact this
  | succ f ih =>
    intro dead todo hf hc W
    have two : ms.length ≤ 2000 := o.two
    by_cases hz : todo = []
    · subst hz
      refine r1303 _ _ _ ?_
      have h1 : ¬ (((([] : List Int).length : Nat) : Int) > 0) := by simp
      simp only [l13_2, wp_ite, h1, decide_false, Bool.false_eq_true, if_false, wp_ret]
      show (((), dead, ()) : PUnit × List Bool × PUnit) = ((), deadF (ms, ac), ())
      rw [dead_closed o W.ld W.sound W.acc fun s h m hm h2 => ?_]
      have hb := okL_lo (o.mv _ (List.getElem_mem h)) m hm
      have hl : m.2.2 < (ms.length : Int) := hb.2.2.2
      have := W.closed m.2.2.toNat (by omega) h2 (by simp) (s : Int) ((B.bk _ _).2 ⟨s, rfl, h, m, by simpa [List.getD_eq_getElem?_getD, h] using hm, rfl⟩)
      exact this
    · have hpos : 0 < todo.length := List.length_pos_iff.2 hz
      have hlt : todo.length - 1 < todo.length := by omega
      have hw : IntKind.wrap IntKind.i64 ((todo.length : Int) - 1) = ((todo.length - 1 : Nat) : Int) := by rw [w64 (by omega)]; omega
      obtain ⟨j, hj, hjl, hjd⟩ := W.td _ (List.getElem_mem hlt)
      refine r1303 _ _ _ ?_
      have h1 : (todo.length : Int) > 0 := by omega
      have h2 : (0 : Int) ≤ ((todo.length - 1 : Nat) : Int) := by omega
      have h3 : ((todo.length - 1 : Nat) : Int) < (todo.length : Int) := by omega
      have h4 : ((todo.length - 1 : Nat) : Int) ≤ (todo.length : Int) := by omega
      have h5 : (0 : Int) ≤ (j : Int) := by omega
      have h6 : (j : Int) < (b.length : Int) := by rw [B.lb]; omega
      have h6' : j < b.length := by rw [B.lb]; omega
      simp only [l13_2, wp_ite, wp_chk, hw, Int.toNat_natCast, getN hlt, hj, h1, h2, h3, h4, h5, h6, decide_true, if_true, true_and, wp_act]
      have hrow : ∀ t ∈ b.getD j [], 0 ≤ t ∧ t < (dead.length : Int) := fun t ht => by
        obtain ⟨s, h7, h8, _⟩ := (B.bk j t).1 ht
        rw [W.ld]; omega
      have hrl := B.rw j
      have hb := s1304 b (b.getD j []) (by omega) (b.getD j []).length 0 dead (todo.take (todo.length - 1)) (by omega) hrow (by rw [List.length_take]; omega)
      rw [List.drop_zero] at hb
      refine ⟨_, hb, ?_⟩
      obtain ⟨g1, g2, g3, g4⟩ := markF_ok (b.getD j []) (dead, todo.take (todo.length - 1)) hrow
      have htk : (todo.take (todo.length - 1)).length = todo.length - 1 := by rw [List.length_take]; omega
      have g4' : (markF (b.getD j []) (dead, todo.take (todo.length - 1))).2.length + (markF (b.getD j []) (dead, todo.take (todo.length - 1))).1.count true = todo.length - 1 + dead.count true := by rw [g4, htk]
      have hle : (markF (b.getD j []) (dead, todo.take (todo.length - 1))).1.count true ≤ dead.count true := by
        have h9 : (todo.take (todo.length - 1)).length ≤ (markF (b.getD j []) (dead, todo.take (todo.length - 1))).2.length := by
          have : ∀ (row : List Int) (x : List Bool × List Int), x.2.length ≤ (markF row x).2.length := by
            intro row
            induction row with
            | nil => intro x; exact Nat.le_refl _
            | cons t r ih =>
              intro x
              simp only [markF]
              refine Nat.le_trans ?_ (ih _)
              split
              · simp
              · exact Nat.le_refl _
          exact this (b.getD j []) (dead, todo.take (todo.length - 1))
        omega
      refine ih _ _ (by omega) (by omega) ?_
      have split : ∀ t, t ∈ todo → t = (j : Int) ∨ t ∈ todo.take (todo.length - 1) := fun t ht => by
        have e : todo = todo.take (todo.length - 1) ++ [todo[todo.length - 1]] := by
          have := List.take_append_drop (todo.length - 1) todo
          rw [List.drop_eq_getElem_cons hlt, List.drop_eq_nil_of_le (by omega)] at this
          exact this.symm
        rw [e, List.mem_append, List.mem_singleton] at ht
        rcases ht with h | h
        · exact .inr h
        · exact .inl (h.trans hj)
      refine ⟨by rw [g1]; exact W.ld, fun s hs hf => ?_, fun s hs ha => (g2 s).2 (.inl (W.acc s hs ha)), fun t ht => ?_, fun i hi hf hn s hs => ?_⟩
      · rcases (g2 s).1 hf with h | h
        · exact W.sound s hs h
        · obtain ⟨s', e, hs', m, hm, hmj⟩ := (B.bk j (s : Int)).1 h
          have : s' = s := by omega
          subst this
          have hm' : m ∈ ms[s'] := by simpa [List.getD_eq_getElem?_getD, hs] using hm
          have hb := okL_lo (o.mv _ (List.getElem_mem hs)) m hm'
          refine live_move o hs hm' (ty.1 _ (List.getElem_mem hs) m hm') ?_
          rw [show m.2.2 = (j : Int) by omega]
          exact W.sound j hjl hjd
      · rcases (g3 t).1 ht with h | ⟨h, _⟩
        · obtain ⟨i, h7, h8, h9⟩ := W.td t (List.mem_of_mem_take h)
          exact ⟨i, h7, h8, (g2 i).2 (.inl h9)⟩
        · obtain ⟨s', e, hs', _⟩ := (B.bk j t).1 h
          exact ⟨s', e, hs', (g2 s').2 (.inr (by rw [← e]; exact h))⟩
      · have hn' : (i : Int) ∉ todo.take (todo.length - 1) := fun h => hn ((g3 _).2 (.inl h))
        obtain ⟨s', e, hs', _⟩ := (B.bk i s).1 hs
        have es : ((s.toNat : Nat) : Int) = s := by omega
        by_cases hij : i = j
        · subst hij
          exact (g2 _).2 (.inr (by rw [es]; exact hs))
        · have hdi : dead.getD i false = false := by
            rcases (g2 i).1 hf with h | h
            · exact h
            · cases hd : dead.getD i false with
              | false => rfl
              | true => exact absurd ((g3 _).2 (.inr ⟨h, by simpa using hd⟩)) hn
          refine (g2 _).2 (.inl (W.closed i hi hdi (fun ht => ?_) s hs))
          rcases split _ ht with h | h
          · exact hij (by omega)
          · exact hn' h

theorem s1300 (o : Okd (ms, ac)) (ty : TyD (ms, ac)) : S 1300 (((ms, ac), ()), ()) ((deadF (ms, ac), ()), ()) := by
  have two : ms.length ≤ 2000 := o.two
  have ol : ac.length = ms.length := o.len
  refine r1300 _ _ ?_
  have h1 : (0 : Int) ≤ (ms.length : Int) := by omega
  have h2 : ms.length * 1 ≤ 16777216 := by omega
  have h3 : 24 * ms.length ≤ 281474976710656 := by omega
  have h4 : 1 * ms.length ≤ 281474976710656 := by omega
  have hp : Ph1 ms ac 0 (List.replicate ms.length []) (List.replicate ms.length false) [] := by
    refine ⟨by simp, by simp, fun j hj => by omega, fun t ht => (by cases ht), fun j hj => by omega, fun j t => ?_, fun j => ?_, Nat.le_refl _⟩
    · constructor
      · intro h
        have : (List.replicate ms.length ([] : List Int)).getD j [] = [] := by
          simp only [List.getD_eq_getElem?_getD, List.getElem?_replicate]
          split <;> rfl
        rw [this] at h; cases h
      · rintro ⟨s, _, h, _⟩; omega
    · have : (List.replicate ms.length ([] : List Int)).getD j [] = [] := by
        simp only [List.getD_eq_getElem?_getD, List.getElem?_replicate]
        split <;> rfl
      rw [this]; simp
  obtain ⟨b, dead, todo, hq, hS⟩ := s1301 ms ac o ty ms.length 0 _ _ _ (by omega) hp
  simp only [t13, wp_chk, Int.toNat_natCast, h1, h2, h3, h4, decide_true, true_and, beq_self_eq_true, wp_act]
  refine ⟨_, hS, ?_⟩
  have hcl : dead.count true ≤ dead.length := List.count_le_length
  have tl := hq.tl
  have ld := hq.ld
  have W : Work ms ac b dead todo := by
    refine ⟨hq.ld, fun s hs hf => ?_, fun s hs ha => ?_, fun t ht => hq.td t ht, fun j hj hf hn => absurd (hq.dt j hj hf) hn⟩
    · rw [hq.dd s hs] at hf
      have := of_decide_eq_false hf
      exact live_acc o hs (by show 0 ≤ ac.getD s 0; omega)
    · rw [hq.dd s hs]; exact decide_eq_false (by omega)
  refine ⟨_, s1303 ms ac o ty b ⟨hq.lb, hq.bk, hq.rw⟩ _ dead todo (Nat.le_refl _) (by omega) W, ?_⟩
  rfl

end

end Go.Proofs.YtjmnjimlkljhjaaV

/- Which states are dead: the document's way. -/
set_option linter.unusedVariables false
set_option maxRecDepth 100000
namespace Go.Proofs.YtjmnjimlkljhjaaV
open Go Go.Proofs
attribute [local irreducible] cs nx

def rowF (s : Nat) (l : List Move) (o : List Bool) : List Bool := l.foldl (fun o m => if o.getD m.2.2.toNat false = false then o.set s false else o) o
def roundF (ms : List (List Move)) (l : List Nat) (o : List Bool) : List Bool := l.foldl (fun o s => rowF s (ms.getD s []) o) o

theorem count_set_le : ∀ (l : List Bool) (j : Nat), (l.set j false).count true ≤ l.count true ∧ ((l.set j false).count true = l.count true → l.set j false = l ∧ (j < l.length → l.getD j false = false)) := by
  intro l
  induction l with
  | nil => intro j; simp
  | cons b l ih =>
    intro j
    cases j with
    | zero => cases b <;> simp
    | succ j =>
      obtain ⟨h1, h2⟩ := ih j
      simp only [List.set_cons_succ, List.count_cons]
      refine ⟨by omega, fun h => ?_⟩
      obtain ⟨h3, h4⟩ := h2 (by omega)
      exact ⟨by rw [h3], fun h => h4 (by simpa using h)⟩

theorem rowF_ok (s : Nat) : ∀ (l : List Move) (o : List Bool), s < o.length →
    (rowF s l o).length = o.length ∧ (∀ j, o.getD j false = false → (rowF s l o).getD j false = false) ∧ (∀ j, j ≠ s → (rowF s l o).getD j false = o.getD j false) ∧
    (rowF s l o).count true ≤ o.count true ∧ ((rowF s l o).count true = o.count true → rowF s l o = o ∧ ∀ m ∈ l, o.getD m.2.2.toNat false = false → o.getD s false = false) ∧
    ((rowF s l o).getD s false = false → o.getD s false = false ∨ ∃ m ∈ l, o.getD m.2.2.toNat false = false) := by
  intro l
  induction l with
  | nil => intro o hs; exact ⟨rfl, fun _ h => h, fun _ _ => rfl, Nat.le_refl _, fun _ => ⟨rfl, fun m hm => by cases hm⟩, fun h => .inl h⟩
  | cons m l ih =>
    intro o hs
    by_cases h : o.getD m.2.2.toNat false = false
    · have e : rowF s (m :: l) o = rowF s l (o.set s false) := by
        show rowF s l (if o.getD m.2.2.toNat false = false then o.set s false else o) = _
        rw [if_pos h]
      rw [e]
      obtain ⟨h1, h2, h3, h4, h5, h6⟩ := ih (o.set s false) (by rw [List.length_set]; exact hs)
      obtain ⟨c1, c2⟩ := count_set_le o s
      refine ⟨by rw [h1, List.length_set], fun j hj => h2 j (by rw [getSet]; split; rfl; exact hj), fun j hj => by rw [h3 j hj, getSet, if_neg (fun h => hj h.1.symm)], by omega, fun hc => ?_, fun _ => .inr ⟨m, by simp, h⟩⟩
      obtain ⟨e1, e2⟩ := c2 (by omega)
      have hsf := e2 hs
      rw [e1] at h5 h4 ⊢
      rw [e1] at hc
      obtain ⟨e3, e4⟩ := h5 hc
      exact ⟨e3, fun m' _ _ => hsf⟩
    · have e : rowF s (m :: l) o = rowF s l o := by
        show rowF s l (if o.getD m.2.2.toNat false = false then o.set s false else o) = _
        rw [if_neg h]
      rw [e]
      obtain ⟨h1, h2, h3, h4, h5, h6⟩ := ih o hs
      refine ⟨h1, h2, h3, h4, fun hc => ?_, fun hf => ?_⟩
      · obtain ⟨e3, e4⟩ := h5 hc
        refine ⟨e3, fun m' hm' hf => ?_⟩
        rcases List.mem_cons.1 hm' with rfl | hm'
        · exact absurd hf h
        · exact e4 m' hm' hf
      · rcases h6 hf with h7 | ⟨m', hm', h7⟩
        · exact .inl h7
        · exact .inr ⟨m', by simp [hm'], h7⟩

section
variable (ms : List (List Move)) (ac : List Int)

def Sound (o : List Bool) : Prop := ∀ s, s < ms.length → o.getD s false = false → ¬ DeadS (ms, ac) (s : Int)

theorem rowF_sound (ok : Okd (ms, ac)) (ty : TyD (ms, ac)) {s : Nat} (hs : s < ms.length) {o : List Bool} (hl : o.length = ms.length) (h : Sound ms ac o) : Sound ms ac (rowF s ms[s] o) := by
  intro j hj hf
  obtain ⟨h1, h2, h3, h4, h5, h6⟩ := rowF_ok s ms[s] o (by omega)
  by_cases e : j = s
  · subst e
    rcases h6 hf with h7 | ⟨m, hm, h7⟩
    · exact h j hj h7
    · have hb := okL_lo (ok.mv _ (List.getElem_mem hs)) m hm
      refine live_move ok hs hm (ty.1 _ (List.getElem_mem hs) m hm) ?_
      have hn : m.2.2 < (ms.length : Int) := hb.2.2.2
      have := h m.2.2.toNat (by omega) h7
      rw [show ((m.2.2.toNat : Nat) : Int) = m.2.2 by omega] at this
      exact this
  · rw [h3 j e] at hf
    exact h j hj hf

def ClosedAt (o : List Bool) (s : Nat) : Prop := ∀ m ∈ ms.getD s [], o.getD m.2.2.toNat false = false → o.getD s false = false

theorem roundF_ok (ok : Okd (ms, ac)) (ty : TyD (ms, ac)) : ∀ (l : List Nat) (o : List Bool), (∀ s ∈ l, s < ms.length) → o.length = ms.length → Sound ms ac o →
    (roundF ms l o).length = ms.length ∧ (∀ j, o.getD j false = false → (roundF ms l o).getD j false = false) ∧ Sound ms ac (roundF ms l o) ∧
    (roundF ms l o).count true ≤ o.count true ∧ ((roundF ms l o).count true = o.count true → roundF ms l o = o ∧ ∀ s ∈ l, ClosedAt ms o s) := by
  intro l
  induction l with
  | nil => intro o _ hl hs; exact ⟨hl, fun _ h => h, hs, Nat.le_refl _, fun _ => ⟨rfl, fun s hs => by cases hs⟩⟩
  | cons s l ih =>
    intro o hl ho hs
    have hlt := hl s (by simp)
    have hg : ms.getD s [] = ms[s] := getN hlt _
    have e : roundF ms (s :: l) o = roundF ms l (rowF s ms[s] o) := by show roundF ms l (rowF s (ms.getD s []) o) = _; rw [hg]
    rw [e]
    obtain ⟨g1, g2, g3, g4, g5, g6⟩ := rowF_ok s ms[s] o (by omega)
    obtain ⟨h1, h2, h3, h4, h5⟩ := ih (rowF s ms[s] o) (fun x hx => hl x (by simp [hx])) (by rw [g1, ho]) (rowF_sound ms ac ok ty hlt ho hs)
    refine ⟨h1, fun j hj => h2 j (g2 j hj), h3, by omega, fun hc => ?_⟩
    obtain ⟨e1, e2⟩ := g5 (by omega)
    rw [e1] at h5 hc ⊢
    obtain ⟨e3, e4⟩ := h5 hc
    refine ⟨e3, fun x hx => ?_⟩
    rcases List.mem_cons.1 hx with rfl | hx
    · intro m hm
      rw [hg] at hm
      exact e2 m hm
    · exact e4 x hx

theorem rowF_closed {o : List Bool} {s : Nat} (hs : s < o.length) : ∀ (l : List Move), (∀ m ∈ l, o.getD m.2.2.toNat false = false → o.getD s false = false) → rowF s l o = o := by
  intro l
  induction l with
  | nil => intro _; rfl
  | cons m l ih =>
    intro h
    show rowF s l (if o.getD m.2.2.toNat false = false then o.set s false else o) = o
    by_cases hc : o.getD m.2.2.toNat false = false
    · rw [if_pos hc]
      have hf := h m (by simp) hc
      have : o.set s false = o := by
        apply List.ext_getElem?
        intro j
        rw [List.getElem?_set]
        by_cases e : s = j
        · subst e
          rw [getN hs] at hf
          simp [hs, hf]
        · simp [e]
      rw [this]
      exact ih fun m hm => h m (by simp [hm])
    · rw [if_neg hc]
      exact ih fun m hm => h m (by simp [hm])

theorem roundF_closed {o : List Bool} (hl : o.length = ms.length) : ∀ (l : List Nat), (∀ s ∈ l, s < ms.length ∧ ClosedAt ms o s) → roundF ms l o = o := by
  intro l
  induction l with
  | nil => intro _; rfl
  | cons s l ih =>
    intro h
    obtain ⟨h1, h2⟩ := h s (by simp)
    show roundF ms l (rowF s (ms.getD s []) o) = o
    rw [rowF_closed (by omega) _ h2]
    exact ih fun x hx => h x (by simp [hx])

theorem s1404 (x1 x2 x3 : Int) (s : Nat) (l : List Move) (hl : l.length ≤ 1000000) : ∀ k i (o : List Bool), i + k = l.length → s < o.length → (∀ m ∈ l, 0 ≤ m.2.2 ∧ m.2.2 < (o.length : Int)) →
    S 1404 (((s : Int), x1, x2, x3, (s : Int), l, (l.length : Int), (i : Int), ()), (ms, ac, ()), o, ()) ((x1, x2, x3, (s : Int), ()), (ms, ac, ()), rowF s (l.drop i) o, ()) := by
  intro k
  induction k with
  | zero =>
    intro i o hi _ _
    refine r1404 _ _ _ _ _ _ _ _ _ _ _ ?_
    have h1 : ¬ (i : Int) < (l.length : Int) := by omega
    rw [List.drop_eq_nil_of_le (show l.length ≤ i by omega)]
    simp only [l14_3, wp_ite, h1, decide_false, Bool.false_eq_true, if_false, wp_ret]
    rfl
  | succ k ih =>
    intro i o hi hs hm
    refine r1404 _ _ _ _ _ _ _ _ _ _ _ ?_
    have hlt : i < l.length := by omega
    have h1 : (i : Int) < (l.length : Int) := by omega
    have h0 : (0 : Int) ≤ (i : Int) := by omega
    have h2 : (0 : Int) ≤ (s : Int) := by omega
    have h3 : (s : Int) < (o.length : Int) := by omega
    have hmi := hm _ (List.getElem_mem hlt)
    have h4 : l[i].2.2 ≥ 0 := hmi.1
    rw [drop_at hlt]
    simp only [l14_3, wp_ite, wp_chk, wp_ret, Int.toNat_natCast, getN hlt, wsucc hlt hl, h1, h0, h2, h3, hmi.1, hmi.2, decide_true, Bool.and_self, Bool.not_true, Bool.or_true, if_true, true_and, Bool.true_and]
    by_cases hc : o.getD l[i].2.2.toNat false = false
    · have e : rowF s (l[i] :: l.drop (i + 1)) o = rowF s (l.drop (i + 1)) (o.set s false) := by
        show rowF s (l.drop (i + 1)) (if o.getD l[i].2.2.toNat false = false then o.set s false else o) = _
        rw [if_pos hc]
      rw [e, hc]
      simp only [Bool.not_false, if_true]
      exact ih (i + 1) _ (by omega) (by rw [List.length_set]; exact hs) (fun m hm' => by rw [List.length_set]; exact hm m hm')
    · have e : rowF s (l[i] :: l.drop (i + 1)) o = rowF s (l.drop (i + 1)) o := by
        show rowF s (l.drop (i + 1)) (if o.getD l[i].2.2.toNat false = false then o.set s false else o) = _
        rw [if_neg hc]
      have ht : o.getD l[i].2.2.toNat false = true := by simpa using hc
      rw [e, ht]
      simp only [Bool.not_true, Bool.false_eq_true, if_false]
      exact ih (i + 1) _ (by omega) hs hm

theorem s1403 (ok : Okd (ms, ac)) (ty : TyD (ms, ac)) (x0 x1 : Int) : ∀ k i (o : List Bool), i + k = ms.length → o.length = ms.length →
    S 1403 ((x0, x1, (ms.length : Int), (i : Int), ()), (ms, ac, ()), o, ()) ((x0, x1, ()), (ms, ac, ()), roundF ms (List.range' i k) o, ()) := by
  intro k
  induction k with
  | zero =>
    intro i o hi _
    refine r1403 _ _ _ _ _ _ _ ?_
    have h1 : ¬ (i : Int) < (ms.length : Int) := by omega
    simp only [l14_2, wp_ite, h1, decide_false, Bool.false_eq_true, if_false, wp_ret]
    rfl
  | succ k ih =>
    intro i o hi hl
    refine r1403 _ _ _ _ _ _ _ ?_
    have two : ms.length ≤ 2000 := ok.two
    have hlt : i < ms.length := by omega
    have h1 : (i : Int) < (ms.length : Int) := by omega
    have h0 : (0 : Int) ≤ (i : Int) := by omega
    have hml : ms[i].length ≤ 256 := ok.mvlen ty _ (List.getElem_mem hlt)
    have hw := wsucc hlt (show ms.length ≤ 1000000 by omega)
    simp only [l14_2, wp_ite, wp_chk, Int.toNat_natCast, getN hlt, h1, h0, decide_true, if_true, true_and, wp_act]
    have hb := s1404 ms ac x0 x1 (ms.length : Int) i ms[i] (by omega) ms[i].length 0 o (by omega) (by omega) (fun m hm => by
      have := okL_lo (ok.mv _ (List.getElem_mem hlt)) m hm
      rw [hl]; exact ⟨this.2.2.1, this.2.2.2⟩)
    rw [List.drop_zero] at hb
    refine ⟨_, hb, ?_⟩
    have e : roundF ms (List.range' i (k + 1)) o = roundF ms (List.range' (i + 1) k) (rowF i ms[i] o) := by
      rw [List.range'_succ]
      show roundF ms (List.range' (i + 1) k) (rowF i (ms.getD i []) o) = _
      rw [getN hlt]
    rw [e]
    show S 1403 ((x0, x1, (ms.length : Int), IntKind.wrap IntKind.i64 ((i : Int) + 1), ()), (ms, ac, ()), rowF i ms[i] o, ()) _
    rw [hw]
    exact ih (i + 1) _ (by omega) (by rw [(rowF_ok i ms[i] o (by omega)).1, hl])

theorem s1402 (ok : Okd (ms, ac)) (ty : TyD (ms, ac)) : ∀ k i (o : List Bool), i + k = ms.length → o.length = ms.length → Sound ms ac o → (∀ s, s < ms.length → 0 ≤ ac.getD s 0 → o.getD s false = false) →
    ((∀ s, s < ms.length → ClosedAt ms o s) ∨ o.count true ≤ k) →
    S 1402 (((ms.length : Int), (i : Int), ()), (ms, ac, ()), o, ()) ((), deadF (ms, ac), ()) := by
  intro k
  induction k with
  | zero =>
    intro i o hi hl hs ha hc
    have e : o = deadF (ms, ac) := by
      refine dead_closed ok hl hs ha fun s h m hm hf => ?_
      rcases hc with h1 | h1
      · exact h1 s h m (by rw [getN h]; exact hm) hf
      · have hz : o.count true = 0 := by omega
        rw [List.count_eq_zero] at hz
        have hso : s < o.length := by rw [hl]; exact h
        rw [getN hso]
        cases hb : o[s] with
        | false => rfl
        | true => exact absurd (hb ▸ List.getElem_mem hso) hz
    refine r1402 _ _ _ _ _ ?_
    have h1 : ¬ (i : Int) < (ms.length : Int) := by omega
    simp only [l14_1, wp_ite, h1, decide_false, Bool.false_eq_true, if_false, wp_ret]
    rw [e]
    rfl
  | succ k ih =>
    intro i o hi hl hs ha hc
    refine r1402 _ _ _ _ _ ?_
    have two : ms.length ≤ 2000 := ok.two
    have hlt : i < ms.length := by omega
    have h1 : (i : Int) < (ms.length : Int) := by omega
    have hw := wsucc hlt (show ms.length ≤ 1000000 by omega)
    simp only [l14_1, wp_ite, h1, decide_true, if_true, wp_act]
    have hb := s1403 ms ac ok ty (ms.length : Int) (i : Int) ms.length 0 o (by omega) hl
    rw [hl]
    refine ⟨_, hb, ?_⟩
    obtain ⟨g1, g2, g3, g4, g5⟩ := roundF_ok ms ac ok ty (List.range' 0 ms.length) o (fun s hs => by rw [List.mem_range'_1] at hs; omega) hl hs
    show S 1402 (((ms.length : Int), IntKind.wrap IntKind.i64 ((i : Int) + 1), ()), (ms, ac, ()), roundF ms (List.range' 0 ms.length) o, ()) _
    rw [hw]
    refine ih (i + 1) _ (by omega) g1 g3 (fun s hs' ha' => g2 s (ha s hs' ha')) ?_
    rcases hc with h2 | h2
    · left
      rw [roundF_closed ms hl _ fun s hs => ⟨by rw [List.mem_range'_1] at hs; omega, h2 s (by rw [List.mem_range'_1] at hs; omega)⟩]
      exact h2
    · by_cases he : (roundF ms (List.range' 0 ms.length) o).count true = o.count true
      · obtain ⟨e1, e2⟩ := g5 he
        left
        rw [e1]
        exact fun s hs => e2 s (by rw [List.mem_range'_1]; omega)
      · right; omega

theorem s1401 (ok : Okd (ms, ac)) : ∀ k i (o : List Bool), i + k = ms.length → o.length = ms.length → (∀ j, j < i → o.getD j false = decide (ac.getD j 0 < 0)) →
    ∃ o', o'.length = ms.length ∧ (∀ j, j < ms.length → o'.getD j false = decide (ac.getD j 0 < 0)) ∧ S 1401 (((ms.length : Int), (i : Int), ()), (ms, ac, ()), o, ()) ((), (ms, ac, ()), o', ()) := by
  intro k
  induction k with
  | zero =>
    intro i o hi hl h
    refine ⟨o, hl, fun j hj => h j (by omega), r1401 _ _ _ _ _ ?_⟩
    have h1 : ¬ (i : Int) < (ms.length : Int) := by omega
    simp only [l14_0, wp_ite, h1, decide_false, Bool.false_eq_true, if_false, wp_ret]
    rfl
  | succ k ih =>
    intro i o hi hl h
    have two : ms.length ≤ 2000 := ok.two
    have ol : ac.length = ms.length := ok.len
    have hlt : i < ms.length := by omega
    obtain ⟨o', g1, g2, g3⟩ := ih (i + 1) (o.set i (decide (ac.getD i 0 < 0))) (by omega) (by rw [List.length_set]; exact hl) (fun j hj => by
      rw [getSet]
      by_cases e : i = j
      · subst e; rw [if_pos ⟨rfl, by omega⟩]
      · rw [if_neg (fun h => e h.1)]; exact h j (by omega))
    refine ⟨o', g1, g2, r1401 _ _ _ _ _ ?_⟩
    have h1 : (i : Int) < (ms.length : Int) := by omega
    have h0 : (0 : Int) ≤ (i : Int) := by omega
    have h2 : (i : Int) < (ac.length : Int) := by omega
    have h3 : (i : Int) < (o.length : Int) := by omega
    have h4 : ¬ (i : Int) ≥ (ac.length : Int) := by omega
    have hw := wsucc hlt (show ms.length ≤ 1000000 by omega)
    simp only [l14_0, wp_ite, wp_chk, wp_ret, Int.toNat_natCast, h1, h0, h2, h3, h4, decide_true, decide_false, if_true, true_and, Bool.false_or, hw]
    exact g3

theorem s1400 (ok : Okd (ms, ac)) (ty : TyD (ms, ac)) : S 1400 (((ms, ac), ()), ()) ((deadF (ms, ac), ()), ()) := by
  have two : ms.length ≤ 2000 := ok.two
  refine r1400 _ _ ?_
  have h1 : (0 : Int) ≤ (ms.length : Int) := by omega
  have h2 : ms.length * 1 ≤ 16777216 := by omega
  have h4 : 1 * ms.length ≤ 281474976710656 := by omega
  obtain ⟨o, g1, g2, g3⟩ := s1401 ms ac ok ms.length 0 (List.replicate ms.length false) (by omega) (by simp) (fun j hj => by omega)
  simp only [t14, wp_chk, Int.toNat_natCast, h1, h2, h4, decide_true, true_and, beq_self_eq_true, wp_act, List.length_replicate]
  refine ⟨_, g3, ?_⟩
  have hcl : o.count true ≤ o.length := List.count_le_length
  have hb := s1402 ms ac ok ty ms.length 0 o (by omega) g1 (fun s hs hf => by
    rw [g2 s hs] at hf
    have := of_decide_eq_false hf
    exact live_acc ok hs (by show 0 ≤ ac.getD s 0; omega)) (fun s hs ha => by rw [g2 s hs]; exact decide_eq_false (by omega)) (.inr (by omega))
  rw [← g1] at hb
  rw [g1] at hb
  refine ⟨_, by rw [g1]; exact hb, ?_⟩
  rfl

end
end Go.Proofs.YtjmnjimlkljhjaaV

/- Classes, numbered by their first members; parted until they are what the states come to. -/
set_option linter.unusedVariables false
set_option maxRecDepth 100000
namespace Go.Proofs.YtjmnjimlkljhjaaV
open Go Go.Proofs
attribute [local irreducible] cs nx

section
open Classical

structure Eqv (R : Nat → Nat → Prop) (n : Nat) : Prop where
  refl : ∀ s, s < n → R s s
  symm : ∀ s t, s < n → t < n → R s t → R t s
  trans : ∀ s t u, s < n → t < n → u < n → R s t → R t u → R s u

def first (R : Nat → Nat → Prop) (s : Nat) : Prop := ∀ t, t < s → ¬ R t s
noncomputable def cnt (R : Nat → Nat → Prop) (s : Nat) : Nat := ((List.range s).filter fun t => decide (first R t)).length

theorem cnt_succ (R : Nat → Nat → Prop) (s : Nat) : cnt R (s + 1) = cnt R s + if first R s then 1 else 0 := by
  unfold cnt
  rw [List.range_succ, List.filter_append, List.length_append]
  congr 1
  by_cases h : first R s <;> simp [h]

theorem cnt_mono (R : Nat → Nat → Prop) {s t : Nat} (h : s ≤ t) : cnt R s ≤ cnt R t := by
  induction h with
  | refl => exact Nat.le_refl _
  | step _ ih => rw [cnt_succ]; omega

theorem cnt_le (R : Nat → Nat → Prop) (s : Nat) : cnt R s ≤ s := by
  induction s with
  | zero => exact Nat.le_refl _
  | succ s ih => rw [cnt_succ]; split <;> omega

theorem cnt_lt {R : Nat → Nat → Prop} {s t : Nat} (hf : first R s) (h : s < t) : cnt R s < cnt R t := by
  have h1 := cnt_succ R s
  rw [if_pos hf] at h1
  have h2 := cnt_mono R (show s + 1 ≤ t from h)
  omega

/-- A first member of its class. -/
theorem has_first {R : Nat → Nat → Prop} {n : Nat} (E : Eqv R n) : ∀ s, s < n → ∃ r, r ≤ s ∧ first R r ∧ R r s := by
  intro s
  induction s using Nat.strongRecOn with
  | _ s ih =>
    intro hs
    by_cases h : first R s
    · exact ⟨s, Nat.le_refl _, h, E.refl s hs⟩
    · have : ∃ t, t < s ∧ R t s := by
        apply Classical.byContradiction
        intro hn
        exact h fun t ht hr => hn ⟨t, ht, hr⟩
      obtain ⟨t, ht, hr⟩ := this
      obtain ⟨r, h1, h2, h3⟩ := ih t ht (by omega)
      exact ⟨r, by omega, h2, E.trans r t s (by omega) (by omega) hs h3 hr⟩

structure Numbered (R : Nat → Nat → Prop) (n : Nat) (l : List Int) : Prop where
  len : l.length = n
  fst : ∀ s, s < n → first R s → l.getD s 0 = (cnt R s : Int)
  oth : ∀ s t, s < n → t < s → R t s → l.getD s 0 = l.getD t 0

theorem Numbered.congr {R R' : Nat → Nat → Prop} {n : Nat} (h : ∀ s t, s < n → t < n → (R s t ↔ R' s t)) {l : List Int} (N : Numbered R n l) : Numbered R' n l := by
  have hf : ∀ s, s < n → (first R s ↔ first R' s) := fun s hs => by
    constructor
    · intro k t ht hr; exact k t ht ((h t s (by omega) hs).2 hr)
    · intro k t ht hr; exact k t ht ((h t s (by omega) hs).1 hr)
  have hc : ∀ s, s ≤ n → cnt R s = cnt R' s := by
    intro s
    induction s with
    | zero => intro _; rfl
    | succ s ih =>
      intro hs
      rw [cnt_succ, cnt_succ, ih (by omega)]
      by_cases k : first R s
      · rw [if_pos k, if_pos ((hf s (by omega)).1 k)]
      · rw [if_neg k, if_neg (fun h => k ((hf s (by omega)).2 h))]
  refine ⟨N.len, fun s hs hk => ?_, fun s t hs ht hr => N.oth s t hs ht ((h t s (by omega) hs).2 hr)⟩
  rw [N.fst s hs ((hf s hs).2 hk), hc s (by omega)]

theorem Numbered.uniq {R : Nat → Nat → Prop} {n : Nat} {l l' : List Int} (N : Numbered R n l) (N' : Numbered R n l') : l = l' := by
  have key : ∀ s, s < n → l.getD s 0 = l'.getD s 0 := by
    intro s
    induction s using Nat.strongRecOn with
    | _ s ih =>
      intro hs
      by_cases h : first R s
      · rw [N.fst s hs h, N'.fst s hs h]
      · have : ∃ t, t < s ∧ R t s := by
          apply Classical.byContradiction
          intro hn
          exact h fun t ht hr => hn ⟨t, ht, hr⟩
        obtain ⟨t, ht, hr⟩ := this
        rw [N.oth s t hs ht hr, N'.oth s t hs ht hr, ih t ht (by omega)]
  apply List.ext_getElem?
  intro s
  by_cases h : s < n
  · have h1 : s < l.length := by rw [N.len]; exact h
    have h2 : s < l'.length := by rw [N'.len]; exact h
    have := key s h
    rw [getN h1, getN h2] at this
    rw [List.getElem?_eq_getElem h1, List.getElem?_eq_getElem h2, this]
  · rw [List.getElem?_eq_none (by rw [N.len]; omega), List.getElem?_eq_none (by rw [N'.len]; omega)]

theorem Numbered.iff {R : Nat → Nat → Prop} {n : Nat} (E : Eqv R n) {l : List Int} (N : Numbered R n l) {s t : Nat} (hs : s < n) (ht : t < n) : l.getD s 0 = l.getD t 0 ↔ R s t := by
  have val : ∀ s, s < n → ∃ r, r ≤ s ∧ first R r ∧ R r s ∧ l.getD s 0 = (cnt R r : Int) := by
    intro s hs
    obtain ⟨r, h1, h2, h3⟩ := has_first E s hs
    refine ⟨r, h1, h2, h3, ?_⟩
    rw [← N.fst r (by omega) h2]
    rcases Nat.eq_or_lt_of_le h1 with e | e
    · rw [e]
    · exact N.oth s r hs e h3
  obtain ⟨r, h1, h2, h3, h4⟩ := val s hs
  obtain ⟨q, g1, g2, g3, g4⟩ := val t ht
  constructor
  · intro h
    rw [h4, g4] at h
    have e : r = q := by
      rcases Nat.lt_trichotomy r q with k | k | k
      · have := cnt_lt h2 k; omega
      · exact k
      · have := cnt_lt g2 k; omega
    subst e
    exact E.trans s r t hs (by omega) ht (E.symm r s (by omega) hs h3) g3
  · intro h
    have hq : R r t := E.trans r s t (by omega) hs ht h3 h
    have e : r = q := by
      have hrq : R r q := E.trans r t q (by omega) ht (by omega) hq (E.symm q t (by omega) ht g3)
      rcases Nat.lt_trichotomy r q with k | k | k
      · exact absurd hrq (g2 r k)
      · exact k
      · exact absurd (E.symm r q (by omega) (by omega) hrq) (h2 q k)
    rw [h4, g4, e]

/-- Finer relations have more classes; as many: they are the same. -/
theorem cnt_fine {A B : Nat → Nat → Prop} {n : Nat} (h : ∀ s t, s < n → t < n → B s t → A s t) : ∀ k, k ≤ n → cnt A k ≤ cnt B k ∧ (cnt A k = cnt B k → ∀ s, s < k → (first A s ↔ first B s)) := by
  have hf : ∀ s, s < n → first A s → first B s := fun s hs k t ht hr => k t ht (h t s (by omega) hs hr)
  intro k
  induction k with
  | zero => intro _; exact ⟨Nat.le_refl _, fun _ s hs => by omega⟩
  | succ k ih =>
    intro hk
    obtain ⟨h1, h2⟩ := ih (by omega)
    rw [cnt_succ, cnt_succ]
    by_cases ha : first A k
    · rw [if_pos ha, if_pos (hf k (by omega) ha)]
      refine ⟨by omega, fun e s hs => ?_⟩
      rcases Nat.lt_or_ge s k with h3 | h3
      · exact h2 (by omega) s h3
      · rw [show s = k by omega]
        exact ⟨fun _ => hf k (by omega) ha, fun _ => ha⟩
    · rw [if_neg ha]
      by_cases hb : first B k
      · rw [if_pos hb]
        exact ⟨by omega, fun e => by omega⟩
      · rw [if_neg hb]
        refine ⟨by omega, fun e s hs => ?_⟩
        rcases Nat.lt_or_ge s k with h3 | h3
        · exact h2 (by omega) s h3
        · rw [show s = k by omega]
          exact ⟨fun h => absurd h ha, fun h => absurd h hb⟩

theorem same_of_cnt {A B : Nat → Nat → Prop} {n : Nat} (EA : Eqv A n) (EB : Eqv B n) (h : ∀ s t, s < n → t < n → B s t → A s t) (hc : cnt A n = cnt B n) : ∀ s t, s < n → t < n → A s t → B s t := by
  intro s t hs ht ha
  have hf := (cnt_fine h n (Nat.le_refl n)).2 hc
  obtain ⟨r, h1, h2, h3⟩ := has_first EB s hs
  obtain ⟨q, g1, g2, g3⟩ := has_first EB t ht
  have hr : r < n := by omega
  have hq : q < n := by omega
  have f1 := (hf r hr).2 h2
  have f2 := (hf q hq).2 g2
  have hrq : A r q := EA.trans r s q hr hs hq (h r s hr hs h3) (EA.trans s t q hs ht hq ha (EA.symm q t hq ht (h q t hq ht g3)))
  have e : r = q := by
    rcases Nat.lt_trichotomy r q with k | k | k
    · exact absurd hrq (f2 r k)
    · exact k
    · exact absurd (EA.symm r q hr hq hrq) (f1 q k)
  subst e
  exact EB.trans s r t hs hr ht (EB.symm r s hr hs h3) g3

theorem all_first {A : Nat → Nat → Prop} {n : Nat} (h : n ≤ cnt A n) : ∀ s, s < n → first A s := by
  have key : ∀ k, k ≤ cnt A k → ∀ s, s < k → first A s := by
    intro k
    induction k with
    | zero => intro _ s hs; omega
    | succ k ih =>
      intro hk s hs
      rw [cnt_succ] at hk
      have hle := cnt_le A k
      by_cases hf : first A k
      · rw [if_pos hf] at hk
        rcases Nat.lt_or_ge s k with h3 | h3
        · exact ih (by omega) s h3
        · rw [show s = k by omega]; exact hf
      · rw [if_neg hf] at hk; omega
  exact key n h

end

/-! ### of an automaton's states -/
section
open Classical
variable (d : Dfa)

def semN (s t : Nat) : Prop := SemEq d (s : Int) d (t : Int)
theorem semN_eqv (n : Nat) : Eqv (semN d) n := ⟨fun s _ => SemEq.refl d _, fun s t _ _ h => SemEq.symm h, fun s t u _ _ _ h k => SemEq.trans h k⟩

noncomputable def clF (l : List Int) (x : Int) : Int := if x < 0 ∨ x ≥ (d.1.length : Int) ∨ DeadS d x then -1 else l.getD x.toNat 0

def alikeR (l : List Int) (s t : Nat) : Prop :=
  (DeadS d (s : Int) ∧ DeadS d (t : Int)) ∨ (¬ DeadS d (s : Int) ∧ ¬ DeadS d (t : Int) ∧ l.getD s 0 = l.getD t 0 ∧ ∀ c, Byte c → clF d l (nx d.1 (s : Int) c) = clF d l (nx d.1 (t : Int) c))

def KL (l : List Int) (s t : Nat) : Prop := (DeadS d (s : Int) ∧ DeadS d (t : Int)) ∨ (¬ DeadS d (s : Int) ∧ ¬ DeadS d (t : Int) ∧ l.getD s 0 = l.getD t 0)

theorem alikeR_eqv (l : List Int) (n : Nat) : Eqv (alikeR d l) n := by
  refine ⟨fun s _ => ?_, fun s t _ _ h => ?_, fun s t u _ _ _ h k => ?_⟩
  · by_cases h : DeadS d (s : Int)
    · exact .inl ⟨h, h⟩
    · exact .inr ⟨h, h, rfl, fun _ _ => rfl⟩
  · rcases h with h | ⟨h1, h2, h3, h4⟩
    · exact .inl ⟨h.2, h.1⟩
    · exact .inr ⟨h2, h1, h3.symm, fun c hc => (h4 c hc).symm⟩
  · rcases h with h | ⟨h1, h2, h3, h4⟩
    · rcases k with k | ⟨k1, _⟩
      · exact .inl ⟨h.1, k.2⟩
      · exact absurd h.2 k1
    · rcases k with k | ⟨k1, k2, k3, k4⟩
      · exact absurd k.1 h2
      · exact .inr ⟨h1, k2, h3.trans k3, fun c hc => (h4 c hc).trans (k4 c hc)⟩

theorem KL_eqv (l : List Int) (n : Nat) : Eqv (KL d l) n := by
  refine ⟨fun s _ => ?_, fun s t _ _ h => ?_, fun s t u _ _ _ h k => ?_⟩
  · by_cases h : DeadS d (s : Int)
    · exact .inl ⟨h, h⟩
    · exact .inr ⟨h, h, rfl⟩
  · rcases h with h | ⟨h1, h2, h3⟩
    · exact .inl ⟨h.2, h.1⟩
    · exact .inr ⟨h2, h1, h3.symm⟩
  · rcases h with h | ⟨h1, h2, h3⟩
    · rcases k with k | ⟨k1, _⟩
      · exact .inl ⟨h.1, k.2⟩
      · exact absurd h.2 k1
    · rcases k with k | ⟨k1, k2, k3⟩
      · exact absurd k.1 h2
      · exact .inr ⟨h1, k2, h3.trans k3⟩

theorem alike_KL {l : List Int} {s t : Nat} (h : alikeR d l s t) : KL d l s t := by
  rcases h with h | ⟨h1, h2, h3, _⟩
  · exact .inl h
  · exact .inr ⟨h1, h2, h3⟩

/-- What the classes so far are held to. -/
structure Coarse (l : List Int) : Prop where
  sem : ∀ s t, s < d.1.length → t < d.1.length → semN d s t → KL d l s t
  acc : ∀ s t, s < d.1.length → t < d.1.length → ¬ DeadS d (s : Int) → ¬ DeadS d (t : Int) → l.getD s 0 = l.getD t 0 → d.2.getD s 0 = d.2.getD t 0

theorem nx_cases {d : Dfa} (o : Okd d) (s c : Int) : nx d.1 s c = -1 ∨ ∃ t : Nat, nx d.1 s c = (t : Int) ∧ t < d.1.length := by
  have h1 := nx_ge o.mv s c
  have h2 := nx_lt o.pos o.mv s c
  rcases Int.lt_or_le (nx d.1 s c) 0 with h | h
  · exact .inl (by omega)
  · exact .inr ⟨(nx d.1 s c).toNat, by omega, by omega⟩

theorem clF_eq (o : Okd d) {l : List Int} (C : Coarse d l) {s t : Nat} (h : semN d s t) {c : Int} (hc : Byte c) : clF d l (nx d.1 (s : Int) c) = clF d l (nx d.1 (t : Int) c) := by
  have hs : SemEq d (nx d.1 (s : Int) c) d (nx d.1 (t : Int) c) := SemEq.step h hc
  have hneg : clF d l (-1) = -1 := by unfold clF; rw [if_pos (.inl (by omega))]
  have hdead : ∀ x, DeadS d x → clF d l x = -1 := fun x hx => by unfold clF; rw [if_pos (.inr (.inr hx))]
  rcases nx_cases o (s : Int) c with h1 | ⟨u, h1, hu⟩
  · rw [h1] at hs ⊢
    rw [hneg, hdead _ (hs.dead.1 (dead_neg d))]
  · rcases nx_cases o (t : Int) c with h2 | ⟨v, h2, hv⟩
    · rw [h2] at hs ⊢
      rw [hneg, hdead _ (hs.dead.2 (dead_neg d))]
    · rw [h1, h2] at hs ⊢
      rcases C.sem u v hu hv hs with k | ⟨k1, k2, k3⟩
      · rw [hdead _ k.1, hdead _ k.2]
      · unfold clF
        rw [if_neg (by rintro (h | h | h); omega; omega; exact k1 h), if_neg (by rintro (h | h | h); omega; omega; exact k2 h)]
        exact k3

theorem sem_alike (o : Okd d) {l : List Int} (C : Coarse d l) {s t : Nat} (hs : s < d.1.length) (ht : t < d.1.length) (h : semN d s t) : alikeR d l s t := by
  rcases C.sem s t hs ht h with k | ⟨k1, k2, k3⟩
  · exact .inl k
  · exact .inr ⟨k1, k2, k3, fun c hc => clF_eq d o C h hc⟩

def NN (l : List Int) : Prop := ∀ s, s < d.1.length → ¬ DeadS d (s : Int) → l.getD s 0 ≠ -1

theorem clF_neg (l : List Int) : clF d l (-1) = -1 := by unfold clF; rw [if_pos (.inl (by omega))]
theorem clF_dead (l : List Int) {x : Int} (h : DeadS d x) : clF d l x = -1 := by unfold clF; rw [if_pos (.inr (.inr h))]
theorem clF_live (l : List Int) {s : Nat} (hs : s < d.1.length) (h : ¬ DeadS d (s : Int)) : clF d l (s : Int) = l.getD s 0 := by
  unfold clF
  rw [if_neg (by rintro (k | k | k); omega; omega; exact h k)]
  rfl

theorem clF_same (o : Okd d) {l : List Int} (P : NN d l) {s t c : Int} (h : clF d l (nx d.1 s c) = clF d l (nx d.1 t c)) :
    (DeadS d (nx d.1 s c) ∧ DeadS d (nx d.1 t c)) ∨ ∃ u v : Nat, u < d.1.length ∧ v < d.1.length ∧ nx d.1 s c = (u : Int) ∧ nx d.1 t c = (v : Int) ∧ KL d l u v := by
  have one : ∀ x c, clF d l (nx d.1 x c) = -1 ∧ DeadS d (nx d.1 x c) ∨ ∃ u : Nat, u < d.1.length ∧ nx d.1 x c = (u : Int) ∧ ¬ DeadS d (u : Int) ∧ clF d l (nx d.1 x c) = l.getD u 0 := by
    intro x c
    rcases nx_cases o x c with h1 | ⟨u, h1, hu⟩
    · rw [h1]; exact .inl ⟨clF_neg d l, dead_neg d⟩
    · rw [h1]
      by_cases hd : DeadS d (u : Int)
      · exact .inl ⟨clF_dead d l hd, hd⟩
      · exact .inr ⟨u, hu, rfl, hd, clF_live d l hu hd⟩
  rcases one s c with ⟨h1, h2⟩ | ⟨u, hu, h1, h2, h3⟩
  · rcases one t c with ⟨g1, g2⟩ | ⟨v, hv, g1, g2, g3⟩
    · exact .inl ⟨h2, g2⟩
    · have := P v hv g2; rw [h1, g3] at h; exact absurd h.symm this
  · rcases one t c with ⟨g1, g2⟩ | ⟨v, hv, g1, g2, g3⟩
    · have := P u hu h2; rw [g1, h3] at h; exact absurd h this
    · exact .inr ⟨u, v, hu, hv, h1, g1, .inr ⟨h2, g2, by rw [← h3, ← g3, h]⟩⟩

/-- Where they part no more, alike is what comes to the same. -/
theorem fix_sem (o : Okd d) {l : List Int} (C : Coarse d l) (P : NN d l) (hfix : ∀ s t, s < d.1.length → t < d.1.length → KL d l s t → alikeR d l s t) : ∀ s t, s < d.1.length → t < d.1.length → KL d l s t → semN d s t := by
  have key : ∀ (w : List Int), Word w → ∀ s t, s < d.1.length → t < d.1.length → KL d l s t → outS d (s : Int) w = outS d (t : Int) w := by
    intro w
    induction w with
    | nil =>
      intro hw s t hs ht h
      rcases h with k | ⟨k1, k2, k3⟩
      · rw [k.1 [] hw, k.2 [] hw]
      · have h1 : s < d.2.length := by rw [o.len]; exact hs
        have h2 : t < d.2.length := by rw [o.len]; exact ht
        have := C.acc s t hs ht k1 k2 k3
        rw [getN h1, getN h2] at this
        rw [outS_nil, outS_nil, toldF_at h1, toldF_at h2, this]
    | cons c w ih =>
      intro hw s t hs ht h
      rw [outS_cons, outS_cons]
      rcases hfix s t hs ht h with k | ⟨k1, k2, k3, k4⟩
      · rw [k.1.step hw.head w hw.tail, k.2.step hw.head w hw.tail]
      · rcases clF_same d o P (k4 c hw.head) with ⟨h1, h2⟩ | ⟨u, v, hu, hv, h1, h2, h3⟩
        · rw [h1 w hw.tail, h2 w hw.tail]
        · rw [h1, h2]
          exact ih hw.tail u v hu hv h3
  exact fun s t hs ht h w hw => key w hw s t hs ht h

/-- One parting. -/
theorem part_step (o : Okd d) {l l' : List Int} (C : Coarse d l) (N : Numbered (alikeR d l) d.1.length l') : Coarse d l' ∧ NN d l' ∧ ∀ s t, s < d.1.length → t < d.1.length → (KL d l' s t ↔ alikeR d l s t) := by
  have E := alikeR_eqv d l d.1.length
  have hK : ∀ s t, s < d.1.length → t < d.1.length → (KL d l' s t ↔ alikeR d l s t) := by
    intro s t hs ht
    constructor
    · rintro (h | ⟨h1, h2, h3⟩)
      · exact .inl h
      · exact (N.iff E hs ht).1 h3
    · intro h
      have h3 := (N.iff E hs ht).2 h
      rcases h with h | ⟨h1, h2, _⟩
      · exact .inl h
      · exact .inr ⟨h1, h2, h3⟩
  refine ⟨⟨fun s t hs ht h => (hK s t hs ht).2 (sem_alike d o C hs ht h), fun s t hs ht h1 h2 h3 => ?_⟩, fun s hs _ => ?_, hK⟩
  · rcases (hK s t hs ht).1 (.inr ⟨h1, h2, h3⟩) with k | ⟨_, _, k, _⟩
    · exact absurd k.1 h1
    · exact C.acc s t hs ht h1 h2 k
  · obtain ⟨r, h1, h2, h3⟩ := has_first E s hs
    have e : l'.getD s 0 = l'.getD r 0 := (N.iff E hs (by omega)).2 (E.symm r s (by omega) hs h3)
    rw [e, N.fst r (by omega) h2]
    omega

/-- As many classes as before: it is done. -/
theorem part_done (o : Okd d) {l l' : List Int} (C : Coarse d l) (P : NN d l) (N : Numbered (alikeR d l) d.1.length l') (hc : cnt (KL d l) d.1.length = cnt (alikeR d l) d.1.length) : Numbered (semN d) d.1.length l' := by
  have hfix := same_of_cnt (KL_eqv d l _) (alikeR_eqv d l _) (fun s t _ _ h => alike_KL d h) hc
  have hs := fix_sem d o C P hfix
  exact N.congr fun s t h1 h2 => ⟨fun h => hs s t h1 h2 (alike_KL d h), fun h => sem_alike d o C h1 h2 h⟩

theorem cnt_congr {R R' : Nat → Nat → Prop} {n : Nat} (h : ∀ s t, s < n → t < n → (R s t ↔ R' s t)) : cnt R n = cnt R' n := by
  have h1 := (cnt_fine (A := R) (B := R') (n := n) (fun s t hs ht k => (h s t hs ht).2 k) n (Nat.le_refl n)).1
  have h2 := (cnt_fine (A := R') (B := R) (n := n) (fun s t hs ht k => (h s t hs ht).1 k) n (Nat.le_refl n)).1
  omega

/-- The classes. -/
noncomputable def classF : List Int := if h : ∃ l, Numbered (semN d) d.1.length l then h.choose else []

theorem classF_eq {l : List Int} (N : Numbered (semN d) d.1.length l) : classF d = l := by
  have h : ∃ l, Numbered (semN d) d.1.length l := ⟨l, N⟩
  unfold classF
  rw [dif_pos h]
  exact h.choose_spec.uniq N

end
end Go.Proofs.YtjmnjimlkljhjaaV

/- Classes: the document's way. -/
set_option linter.unusedVariables false
set_option maxRecDepth 100000
namespace Go.Proofs.YtjmnjimlkljhjaaV
open Go Go.Proofs
attribute [local irreducible] cs nx

structure PartN (R : Nat → Nat → Prop) (i : Nat) (l : List Int) : Prop where
  fst : ∀ s, s < i → first R s → l.getD s 0 = (cnt R s : Int)
  oth : ∀ s t, s < i → t < s → R t s → l.getD s 0 = l.getD t 0

theorem PartN.nn {R : Nat → Nat → Prop} {n i : Nat} (E : Eqv R n) (hi : i ≤ n) {l : List Int} (P : PartN R i l) : ∀ s, s < i → 0 ≤ l.getD s 0 := by
  intro s hs
  obtain ⟨r, h1, h2, h3⟩ := has_first E s (by omega)
  have e : l.getD s 0 = l.getD r 0 := by
    rcases Nat.eq_or_lt_of_le h1 with e | e
    · rw [e]
    · exact P.oth s r hs e h3
  rw [e, P.fst r (by omega) h2]
  omega

theorem PartN.same {R : Nat → Nat → Prop} {n i : Nat} (E : Eqv R n) (hi : i ≤ n) {l : List Int} (P : PartN R i l) {s t : Nat} (hs : s < i) (ht : t < i) (h : R s t) : l.getD s 0 = l.getD t 0 := by
  rcases Nat.lt_trichotomy s t with k | k | k
  · exact (P.oth t s ht k h).symm
  · rw [k]
  · exact P.oth s t hs k (E.symm s t (by omega) (by omega) h)

/-- One more. -/
theorem PartN.add {R : Nat → Nat → Prop} {i : Nat} {l l' : List Int} (P : PartN R i l) (hl : ∀ j, j < i → l'.getD j 0 = l.getD j 0) (h1 : first R i → l'.getD i 0 = (cnt R i : Int)) (h2 : ∀ t, t < i → R t i → l'.getD i 0 = l.getD t 0) : PartN R (i + 1) l' := by
  refine ⟨fun s hs hf => ?_, fun s t hs ht hr => ?_⟩
  · rcases Nat.lt_or_ge s i with h | h
    · rw [hl s h, P.fst s h hf]
    · have : s = i := by omega
      subst this
      exact h1 hf
  · rcases Nat.lt_or_ge s i with h | h
    · rw [hl s h, hl t (by omega), P.oth s t h ht hr]
    · have : s = i := by omega
      subst this
      rw [h2 t ht hr, hl t ht]

section
open Classical
variable (ms : List (List Move)) (ac : List Int)

theorem deadF_get {d : Dfa} {s : Nat} (h : s < d.1.length) : (deadF d).getD s false = decide (DeadS d (s : Int)) := deadF_at d h

theorem s3600 (ok : Okd (ms, ac)) (l : List Int) (hl : l.length = ms.length) (x : Int) (hx : x = -1 ∨ ∃ u : Nat, x = (u : Int) ∧ u < ms.length) : S 3600 ((l, deadF (ms, ac), x, ()), ()) ((clF (ms, ac) l x, ()), ()) := by
  refine r3600 _ _ _ ?_
  have dl : (deadF (ms, ac)).length = ms.length := deadF_len (ms, ac)
  rcases hx with rfl | ⟨u, rfl, hu⟩
  · have h1 : ((-1 : Int) < 0) := by omega
    simp only [t36, wp_ite, wp_chk, wp_ret, h1, decide_true, Bool.true_or, if_true, true_and]
    rw [clF_neg]
  · have h1 : ¬ ((u : Int) < 0) := by omega
    have h2 : ¬ ((u : Int) ≥ (l.length : Int)) := by omega
    have h3 : (0 : Int) ≤ (u : Int) := by omega
    have h4 : (u : Int) < ((deadF (ms, ac)).length : Int) := by omega
    have h5 : (u : Int) < (l.length : Int) := by omega
    simp only [t36, wp_ite, wp_chk, wp_ret, Int.toNat_natCast, h1, h2, h3, h4, h5, decide_true, decide_false, Bool.false_or, Bool.or_true, true_and]
    have hg : (deadF (ms, ac)).getD u false = decide (DeadS (ms, ac) (u : Int)) := deadF_at (ms, ac) hu
    rw [hg]
    by_cases hd : DeadS (ms, ac) (u : Int)
    · simp only [hd, decide_true, if_true]
      rw [clF_dead _ _ hd]
    · simp only [hd, decide_false, Bool.false_eq_true, if_false]
      rw [clF_live (ms, ac) l hu hd]

theorem s3201 (ok : Okd (ms, ac)) (ty : TyD (ms, ac)) (l : List Int) (hl : l.length = ms.length) (s t : Int) : ∀ k c : Nat, c + k = 256 →
    S 3201 ((l, deadF (ms, ac), s, t, (c : Int), ()), (ms, ac, ()), ()) (endB (decide (∀ c' : Int, (c : Int) ≤ c' → c' ≤ 255 → clF (ms, ac) l (nx ms s c') = clF (ms, ac) l (nx ms t c')))) := by
  have hml : ∀ l ∈ ms, l.length ≤ 1000000 := fun l hl => by have := ok.mvlen ty l hl; omega
  intro k
  induction k with
  | zero =>
    intro c hc
    refine r3201 _ _ _ _ _ _ _ ?_
    have h1 : ¬ ((c : Int) < 256) := by omega
    have e : (∀ c' : Int, (c : Int) ≤ c' → c' ≤ 255 → clF (ms, ac) l (nx ms s c') = clF (ms, ac) l (nx ms t c')) := fun c' h2 h3 => by omega
    rw [decide_eq_true e]
    simp only [l32_0, wp_ite, h1, decide_false, Bool.false_eq_true, if_false, wp_ret]
    rfl
  | succ k ih =>
    intro c hc
    refine r3201 _ _ _ _ _ _ _ ?_
    have h1 : (c : Int) < 256 := by omega
    have hu : IntKind.wrap IntKind.u8 (c : Int) = (c : Int) := IntWalk.u8_in _ (by omega)
    have hw : IntKind.wrap IntKind.i64 ((c : Int) + 1) = ((c + 1 : Nat) : Int) := by rw [w64 (by omega)]; omega
    have hx : ∀ s, nx ms s (c : Int) = -1 ∨ ∃ u : Nat, nx ms s (c : Int) = (u : Int) ∧ u < ms.length := fun s => nx_cases ok s (c : Int)
    simp only [l32_0, wp_ite, h1, decide_true, if_true, wp_act, hu, hw]
    refine ⟨_, s2700 ms ac s (c : Int) hml, _, s3600 ms ac ok l hl _ (hx s), _, s2700 ms ac t (c : Int) hml, _, s3600 ms ac ok l hl _ (hx t), ?_⟩
    simp only [wp_ite, wp_ret]
    by_cases he : clF (ms, ac) l (nx ms s (c : Int)) = clF (ms, ac) l (nx ms t (c : Int))
    · have hb : (clF (ms, ac) l (nx ms s (c : Int)) != clF (ms, ac) l (nx ms t (c : Int))) = false := by simp [he]
      rw [hb]
      simp only [Bool.false_eq_true, if_false]
      have e : decide (∀ c' : Int, (c : Int) ≤ c' → c' ≤ 255 → clF (ms, ac) l (nx ms s c') = clF (ms, ac) l (nx ms t c')) = decide (∀ c' : Int, ((c + 1 : Nat) : Int) ≤ c' → c' ≤ 255 → clF (ms, ac) l (nx ms s c') = clF (ms, ac) l (nx ms t c')) := by
        rw [decide_eq_decide]
        constructor
        · intro h c' h2 h3; exact h c' (by omega) h3
        · intro h c' h2 h3
          by_cases hcc : c' = (c : Int)
          · rw [hcc]; exact he
          · exact h c' (by omega) h3
      rw [e]
      exact ih (c + 1) (by omega)
    · have hb : (clF (ms, ac) l (nx ms s (c : Int)) != clF (ms, ac) l (nx ms t (c : Int))) = true := by simpa using he
      rw [hb]
      simp only [if_true]
      have e : ¬ (∀ c' : Int, (c : Int) ≤ c' → c' ≤ 255 → clF (ms, ac) l (nx ms s c') = clF (ms, ac) l (nx ms t c')) := fun h => he (h (c : Int) (Int.le_refl _) (by omega))
      rw [decide_eq_false e]
      rfl

theorem s3200 (ok : Okd (ms, ac)) (ty : TyD (ms, ac)) (l : List Int) (hl : l.length = ms.length) (s t : Nat) (hs : s < ms.length) (ht : t < ms.length) :
    S 3200 (((ms, ac), l, deadF (ms, ac), (s : Int), (t : Int), ()), ()) ((decide (alikeR (ms, ac) l s t), ()), ()) := by
  refine r3200 _ _ _ _ _ _ ?_
  have dl : (deadF (ms, ac)).length = ms.length := deadF_len (ms, ac)
  have h1 : (0 : Int) ≤ (s : Int) := by omega
  have h2 : (0 : Int) ≤ (t : Int) := by omega
  have h3 : (s : Int) < ((deadF (ms, ac)).length : Int) := by omega
  have h4 : (t : Int) < ((deadF (ms, ac)).length : Int) := by omega
  have h5 : (s : Int) < (l.length : Int) := by omega
  have h6 : (t : Int) < (l.length : Int) := by omega
  have es : (deadF (ms, ac)).getD s false = decide (DeadS (ms, ac) (s : Int)) := deadF_at (ms, ac) hs
  have et : (deadF (ms, ac)).getD t false = decide (DeadS (ms, ac) (t : Int)) := deadF_at (ms, ac) ht
  simp only [t32, wp_ite, wp_chk, wp_ret, Int.toNat_natCast, h1, h2, h3, h4, h5, h6, decide_true, Bool.or_true, true_and, es, et]
  by_cases ds : DeadS (ms, ac) (s : Int)
  · simp only [ds, decide_true, Bool.true_or, if_true, Bool.true_and]
    have e : decide (alikeR (ms, ac) l s t) = decide (DeadS (ms, ac) (t : Int)) := by
      rw [decide_eq_decide]
      constructor
      · rintro (h | h)
        · exact h.2
        · exact absurd ds h.1
      · intro h; exact .inl ⟨ds, h⟩
    rw [e]
  · by_cases dt : DeadS (ms, ac) (t : Int)
    · simp only [ds, dt, decide_true, decide_false, Bool.false_or, if_true, Bool.false_and]
      have e : ¬ alikeR (ms, ac) l s t := by
        rintro (h | h)
        · exact ds h.1
        · exact h.2.1 dt
      rw [decide_eq_false e]
    · simp only [ds, dt, decide_false, Bool.or_false, Bool.false_eq_true, if_false]
      by_cases he : l.getD s 0 = l.getD t 0
      · have hb : (l.getD s 0 != l.getD t 0) = false := by rw [he]; simp
        simp only [hb, Bool.false_eq_true, if_false, wp_act]
        refine ⟨_, s3201 ms ac ok ty l hl (s : Int) (t : Int) 256 0 (by omega), ?_⟩
        have e : decide (alikeR (ms, ac) l s t) = decide (∀ c' : Int, ((0 : Nat) : Int) ≤ c' → c' ≤ 255 → clF (ms, ac) l (nx ms (s : Int) c') = clF (ms, ac) l (nx ms (t : Int) c')) := by
          rw [decide_eq_decide]
          constructor
          · rintro (h | ⟨_, _, _, h⟩)
            · exact absurd h.1 ds
            · exact fun c' h1 h2 => h c' ⟨h1, h2⟩
          · intro h; exact .inr ⟨ds, dt, he, fun c hc => h c hc.1 hc.2⟩
        rw [e]
        cases decide (∀ c' : Int, ((0 : Nat) : Int) ≤ c' → c' ≤ 255 → clF (ms, ac) l (nx ms (s : Int) c') = clF (ms, ac) l (nx ms (t : Int) c')) <;> rfl
      · have hb : (l.getD s 0 != l.getD t 0) = true := bne_iff_ne.2 he
        simp only [hb, if_true]
        have e : ¬ alikeR (ms, ac) l s t := by
          rintro (h | h)
          · exact ds h.1
          · exact he h.2.2.1
        rw [decide_eq_false e]

theorem s2502 (ok : Okd (ms, ac)) (ty : TyD (ms, ac)) (l : List Int) (hl : l.length = ms.length) (x2 x5 x6 : Int) (s : Nat) (hs : s < ms.length) : ∀ k t (o : List Int), t + k = s → o.length = ms.length → PartN (alikeR (ms, ac) l) s o →
    ((o.getD s 0 < 0 ∧ ∀ u, u < t → ¬ alikeR (ms, ac) l u s) ∨ (0 ≤ o.getD s 0 ∧ ∃ u, u < s ∧ alikeR (ms, ac) l u s ∧ o.getD s 0 = o.getD u 0)) →
    ∃ o', o'.length = ms.length ∧ (∀ j, j ≠ s → o'.getD j 0 = o.getD j 0) ∧ (first (alikeR (ms, ac) l) s → o'.getD s 0 < 0) ∧ (∀ u, u < s → alikeR (ms, ac) l u s → o'.getD s 0 = o.getD u 0) ∧
      S 2502 ((l, deadF (ms, ac), x2, (s : Int), (t : Int), x5, x6, ()), (ms, ac, ()), o, ()) ((l, deadF (ms, ac), x2, (s : Int), x5, x6, ()), (ms, ac, ()), o', ()) := by
  have E := alikeR_eqv (ms, ac) l ms.length
  have h3 : (0 : Int) ≤ (s : Int) := by omega
  have fin : ∀ (o : List Int), o.length = ms.length → PartN (alikeR (ms, ac) l) s o → 0 ≤ o.getD s 0 → (∃ u, u < s ∧ alikeR (ms, ac) l u s ∧ o.getD s 0 = o.getD u 0) → (first (alikeR (ms, ac) l) s → o.getD s 0 < 0) ∧ (∀ u, u < s → alikeR (ms, ac) l u s → o.getD s 0 = o.getD u 0) := by
    intro o ho P h0 ⟨u, hu, hr, he⟩
    refine ⟨fun hf => absurd hr (hf u hu), fun v hv hrv => ?_⟩
    rw [he]
    exact P.same E (by omega) hu hv (E.trans u s v (by omega) hs (by omega) hr (E.symm v s (by omega) hs hrv))
  intro k
  induction k with
  | zero =>
    intro t o ht ho P hc
    have h1 : ¬ ((t : Int) < (s : Int)) := by omega
    refine ⟨o, ho, fun _ _ => rfl, ?_, ?_, r2502 _ _ _ _ _ _ _ _ _ _ ?_⟩
    · intro hf
      rcases hc with h | h
      · exact h.1
      · exact (fin o ho P h.1 h.2).1 hf
    · intro u hu hr
      rcases hc with h | h
      · exact absurd hr (h.2 u (by omega))
      · exact (fin o ho P h.1 h.2).2 u hu hr
    · simp only [l25_1, wp_ite, wp_chk, h1, decide_false, Bool.not_false, Bool.true_or, Bool.false_and, Bool.false_eq_true, if_false, true_and, wp_ret]
      rfl
  | succ k ih =>
    intro t o ht ho P hc
    have h1 : (t : Int) < (s : Int) := by omega
    have h2 : (s : Int) < (o.length : Int) := by omega
    have h4 : (0 : Int) ≤ (t : Int) := by omega
    have h5 : (t : Int) < (o.length : Int) := by omega
    have two : ms.length ≤ 2000 := ok.two
    have hw : IntKind.wrap IntKind.i64 ((t : Int) + 1) = ((t + 1 : Nat) : Int) := by rw [w64 (by omega)]; omega
    rcases hc with ⟨hneg, hno⟩ | ⟨hpos, hu⟩
    · by_cases ha : alikeR (ms, ac) l s t
      · have ha' : alikeR (ms, ac) l t s := E.symm s t hs (by omega) ha
        have hso : s < o.length := by omega
        have g : ∀ j, (o.set s (o.getD t 0)).getD j 0 = if s = j then o.getD t 0 else o.getD j 0 := by
          intro j
          rw [getSet]
          by_cases e : s = j
          · rw [if_pos ⟨e, hso⟩, if_pos e]
          · rw [if_neg (fun h => e h.1), if_neg e]
        have P' : PartN (alikeR (ms, ac) l) s (o.set s (o.getD t 0)) := ⟨fun a ha hf => by rw [g, if_neg (by omega)]; exact P.fst a ha hf, fun a b ha hb hr => by rw [g, g, if_neg (by omega), if_neg (by omega)]; exact P.oth a b ha hb hr⟩
        obtain ⟨o', g1, g2, g3, g4, g5⟩ := ih (t + 1) (o.set s (o.getD t 0)) (by omega) (by rw [List.length_set]; exact ho) P' (.inr ⟨by
            rw [g, if_pos rfl]; exact P.nn E (by omega) t (by omega), t, by omega, ha', by rw [g, g, if_pos rfl, if_neg (by omega)]⟩)
        refine ⟨o', g1, fun j hj => by rw [g2 j hj, g, if_neg (by omega)], g3, fun u hu hr => by rw [g4 u hu hr, g, if_neg (by omega)], r2502 _ _ _ _ _ _ _ _ _ _ ?_⟩
        simp only [l25_1, wp_ite, wp_chk, Int.toNat_natCast, h1, h2, h3, hneg, decide_true, Bool.not_true, Bool.false_or, Bool.true_and, if_true, true_and, wp_act]
        refine ⟨_, s3200 ms ac ok ty l hl s t hs (by omega), ?_⟩
        simp only [decide_eq_true ha, wp_ite, wp_chk, wp_ret, if_true, h4, h5, decide_true, true_and, hw]
        exact g5
      · have ha' : ¬ alikeR (ms, ac) l t s := fun h => ha (E.symm t s (by omega) hs h)
        obtain ⟨o', g1, g2, g3, g4, g5⟩ := ih (t + 1) o (by omega) ho P (.inl ⟨hneg, fun u hu => by
          rcases Nat.lt_or_ge u t with h | h
          · exact hno u h
          · rw [show u = t by omega]; exact ha'⟩)
        refine ⟨o', g1, g2, g3, g4, r2502 _ _ _ _ _ _ _ _ _ _ ?_⟩
        simp only [l25_1, wp_ite, wp_chk, Int.toNat_natCast, h1, h2, h3, hneg, decide_true, Bool.not_true, Bool.false_or, Bool.true_and, if_true, true_and, wp_act]
        refine ⟨_, s3200 ms ac ok ty l hl s t hs (by omega), ?_⟩
        simp only [decide_eq_false ha, wp_ite, wp_ret, Bool.false_eq_true, if_false, hw]
        exact g5
    · obtain ⟨f1, f2⟩ := fin o ho P hpos hu
      refine ⟨o, ho, fun _ _ => rfl, f1, f2, r2502 _ _ _ _ _ _ _ _ _ _ ?_⟩
      have h6 : ¬ (o.getD s 0 < 0) := by omega
      simp only [l25_1, wp_ite, wp_chk, Int.toNat_natCast, h1, h2, h3, h6, decide_true, decide_false, Bool.not_true, Bool.false_or, Bool.and_false, Bool.false_eq_true, if_false, true_and, wp_ret]
      rfl

theorem s2501 (ok : Okd (ms, ac)) (ty : TyD (ms, ac)) (l : List Int) (hl : l.length = ms.length) : ∀ k i (o : List Int), i + k = ms.length → o.length = ms.length → PartN (alikeR (ms, ac) l) i o →
    ∃ o', Numbered (alikeR (ms, ac) l) ms.length o' ∧ S 2501 ((l, deadF (ms, ac), (cnt (alikeR (ms, ac) l) i : Int), (ms.length : Int), (i : Int), ()), (ms, ac, ()), o, ()) ((), o', ()) := by
  intro k
  induction k with
  | zero =>
    intro i o hi ho P
    have e : i = ms.length := by omega
    subst e
    refine ⟨o, ⟨ho, P.fst, P.oth⟩, r2501 _ _ _ _ _ _ _ _ ?_⟩
    have h1 : ¬ ((ms.length : Int) < (ms.length : Int)) := by omega
    simp only [l25_0, wp_ite, h1, decide_false, Bool.false_eq_true, if_false, wp_ret]
    rfl
  | succ k ih =>
    intro i o hi ho P
    have two : ms.length ≤ 2000 := ok.two
    have hlt : i < ms.length := by omega
    have hio : i < o.length := by omega
    have g : ∀ j, (o.set i (-1)).getD j 0 = if i = j then -1 else o.getD j 0 := by
      intro j
      rw [getSet]
      by_cases e : i = j
      · rw [if_pos ⟨e, hio⟩, if_pos e]
      · rw [if_neg (fun h => e h.1), if_neg e]
    have P1 : PartN (alikeR (ms, ac) l) i (o.set i (-1)) := ⟨fun a ha hf => by rw [g, if_neg (by omega)]; exact P.fst a ha hf, fun a b ha hb hr => by rw [g, g, if_neg (by omega), if_neg (by omega)]; exact P.oth a b ha hb hr⟩
    obtain ⟨o1, a1, a2, a3, a4, a5⟩ := s2502 ms ac ok ty l hl (cnt (alikeR (ms, ac) l) i : Int) (ms.length : Int) (i : Int) i hlt i 0 (o.set i (-1)) (by omega) (by rw [List.length_set]; exact ho) P1 (.inl ⟨by rw [g, if_pos rfl]; omega, fun u hu => by omega⟩)
    have h0 : (0 : Int) ≤ (i : Int) := by omega
    have h1 : (i : Int) < (ms.length : Int) := by omega
    have h2 : (i : Int) < (o.length : Int) := by omega
    have h3 : (i : Int) < (o1.length : Int) := by omega
    have hw : IntKind.wrap IntKind.i64 ((i : Int) + 1) = ((i + 1 : Nat) : Int) := by rw [w64 (by omega)]; omega
    have hcl := cnt_le (alikeR (ms, ac) l) i
    have hwc : IntKind.wrap IntKind.i64 ((cnt (alikeR (ms, ac) l) i : Int) + 1) = ((cnt (alikeR (ms, ac) l) i + 1 : Nat) : Int) := by rw [w64 (by omega)]; omega
    by_cases hf : first (alikeR (ms, ac) l) i
    · have hc : cnt (alikeR (ms, ac) l) (i + 1) = cnt (alikeR (ms, ac) l) i + 1 := by rw [cnt_succ, if_pos hf]
      have g2 : ∀ j, (o1.set i (cnt (alikeR (ms, ac) l) i : Int)).getD j 0 = if i = j then (cnt (alikeR (ms, ac) l) i : Int) else o1.getD j 0 := by
        intro j
        rw [getSet]
        by_cases e : i = j
        · rw [if_pos ⟨e, by omega⟩, if_pos e]
        · rw [if_neg (fun h => e h.1), if_neg e]
      obtain ⟨o', n1, n2⟩ := ih (i + 1) (o1.set i (cnt (alikeR (ms, ac) l) i : Int)) (by omega) (by rw [List.length_set]; exact a1) (P.add (fun j hj => by rw [g2, if_neg (by omega), a2 j (by omega), g, if_neg (by omega)]) (fun _ => by rw [g2, if_pos rfl]) (fun t ht hr => absurd hr (hf t ht)))
      refine ⟨o', n1, r2501 _ _ _ _ _ _ _ _ ?_⟩
      simp only [l25_0, wp_ite, wp_chk, Int.toNat_natCast, h0, h1, h2, decide_true, if_true, true_and, wp_act]
      refine ⟨_, a5, ?_⟩
      have h4 := a3 hf
      simp only [wp_ite, wp_chk, wp_ret, Int.toNat_natCast, h0, h3, h4, decide_true, if_true, true_and, hw, hwc]
      rw [hc] at n2
      exact n2
    · have hc : cnt (alikeR (ms, ac) l) (i + 1) = cnt (alikeR (ms, ac) l) i := by rw [cnt_succ, if_neg hf]; rfl
      have E := alikeR_eqv (ms, ac) l ms.length
      have : ∃ t, t < i ∧ alikeR (ms, ac) l t i := by
        apply Classical.byContradiction
        intro hn
        exact hf fun t ht hr => hn ⟨t, ht, hr⟩
      obtain ⟨t, ht, hr⟩ := this
      have hpos : 0 ≤ o1.getD i 0 := by
        rw [a4 t ht hr, g, if_neg (by omega)]
        exact P.nn E (by omega) t ht
      obtain ⟨o', n1, n2⟩ := ih (i + 1) o1 (by omega) a1 (P.add (fun j hj => by rw [a2 j (by omega), g, if_neg (by omega)]) (fun h => absurd h hf) (fun t ht hr => by rw [a4 t ht hr, g, if_neg (by omega)]))
      refine ⟨o', n1, r2501 _ _ _ _ _ _ _ _ ?_⟩
      simp only [l25_0, wp_ite, wp_chk, Int.toNat_natCast, h0, h1, h2, decide_true, if_true, true_and, wp_act]
      refine ⟨_, a5, ?_⟩
      have h4 : ¬ (o1.getD i 0 < 0) := Int.not_lt.2 hpos
      simp only [wp_ite, wp_chk, wp_ret, Int.toNat_natCast, h0, h3, h4, decide_true, decide_false, Bool.false_eq_true, if_false, true_and, hw]
      rw [hc] at n2
      exact n2

theorem s2500 (ok : Okd (ms, ac)) (ty : TyD (ms, ac)) (l : List Int) (hl : l.length = ms.length) : ∃ l', Numbered (alikeR (ms, ac) l) ms.length l' ∧ S 2500 (((ms, ac), l, deadF (ms, ac), ()), ()) ((l', ()), ()) := by
  have two : ms.length ≤ 2000 := ok.two
  obtain ⟨o', n1, n2⟩ := s2501 ms ac ok ty l hl ms.length 0 (List.replicate l.length (0 : Int)) (by omega) (by simp [hl]) ⟨fun s hs => by omega, fun s t hs => by omega⟩
  refine ⟨o', n1, r2500 _ _ _ _ ?_⟩
  have h1 : (0 : Int) ≤ (l.length : Int) := by omega
  have h2 : l.length * 1 ≤ 16777216 := by omega
  have h3 : 8 * l.length ≤ 281474976710656 := by omega
  simp only [t25, wp_chk, Int.toNat_natCast, h1, h2, h3, decide_true, true_and, beq_self_eq_true, wp_act]
  rw [← hl] at n2
  have hz : cnt (alikeR (ms, ac) l) 0 = 0 := rfl
  rw [hz] at n2
  exact ⟨_, n2, rfl⟩

theorem s1701 (ok : Okd (ms, ac)) (dead : List Bool) : ∀ k i (o : List Int), i + k = ms.length → o.length = ms.length → (∀ j, j < i → o.getD j 0 = ac.getD j 0) →
    ∃ o', o'.length = ms.length ∧ (∀ j, j < ms.length → o'.getD j 0 = ac.getD j 0) ∧ S 1701 ((dead, (ms.length : Int), (i : Int), ()), (ms, ac, ()), o, ()) ((dead, ()), (ms, ac, ()), o', ()) := by
  intro k
  induction k with
  | zero =>
    intro i o hi hl h
    refine ⟨o, hl, fun j hj => h j (by omega), r1701 _ _ _ _ _ _ ?_⟩
    have h1 : ¬ (i : Int) < (ms.length : Int) := by omega
    simp only [l17_0, wp_ite, h1, decide_false, Bool.false_eq_true, if_false, wp_ret]
    rfl
  | succ k ih =>
    intro i o hi hl h
    have two : ms.length ≤ 2000 := ok.two
    have ol : ac.length = ms.length := ok.len
    have hlt : i < ms.length := by omega
    obtain ⟨o', g1, g2, g3⟩ := ih (i + 1) (o.set i (ac.getD i 0)) (by omega) (by rw [List.length_set]; exact hl) (fun j hj => by
      rw [getSet]
      by_cases e : i = j
      · subst e; rw [if_pos ⟨rfl, by omega⟩]
      · rw [if_neg (fun h => e h.1)]; exact h j (by omega))
    refine ⟨o', g1, g2, r1701 _ _ _ _ _ _ ?_⟩
    have h1 : (i : Int) < (ms.length : Int) := by omega
    have h0 : (0 : Int) ≤ (i : Int) := by omega
    have h2 : (i : Int) < (ac.length : Int) := by omega
    have h3 : (i : Int) < (o.length : Int) := by omega
    have hw := wsucc hlt (show ms.length ≤ 1000000 by omega)
    simp only [l17_0, wp_ite, wp_chk, wp_ret, Int.toNat_natCast, h1, h0, h2, h3, decide_true, if_true, true_and, hw]
    exact g3

theorem coarse0 (ok : Okd (ms, ac)) {l : List Int} (h : ∀ j, j < ms.length → ∃ f : Int → Int, (∀ a b, f a = f b → a = b) ∧ l.getD j 0 = f (ac.getD j 0)) : True := trivial

theorem sem_acc (ok : Okd (ms, ac)) {s t : Nat} (hs : s < ms.length) (ht : t < ms.length) (h : semN (ms, ac) s t) : ac.getD s 0 = ac.getD t 0 := by
  have ol : ac.length = ms.length := ok.len
  have h1 : s < ac.length := by omega
  have h2 : t < ac.length := by omega
  have := h [] Word.nil
  rw [outS_nil, outS_nil] at this
  have e1 : toldF ac (s : Int) = ac[s] := toldF_at h1
  have e2 : toldF ac (t : Int) = ac[t] := toldF_at h2
  rw [getN h1, getN h2, ← e1, ← e2]
  exact this

theorem coarse_of (ok : Okd (ms, ac)) {l : List Int} (h : ∀ s t, s < ms.length → t < ms.length → ¬ DeadS (ms, ac) (s : Int) → ¬ DeadS (ms, ac) (t : Int) → (l.getD s 0 = l.getD t 0 ↔ ac.getD s 0 = ac.getD t 0)) : Coarse (ms, ac) l := by
  refine ⟨fun s t hs ht hr => ?_, fun s t hs ht h1 h2 h3 => (h s t hs ht h1 h2).1 h3⟩
  by_cases hd : DeadS (ms, ac) (s : Int)
  · exact .inl ⟨hd, hr.dead.1 hd⟩
  · have hd2 : ¬ DeadS (ms, ac) (t : Int) := fun k => hd (hr.dead.2 k)
    exact .inr ⟨hd, hd2, (h s t hs ht hd hd2).2 (sem_acc ms ac ok hs ht hr)⟩

/-- Between two partings. -/
def Between (i : Nat) (l : List Int) : Prop := i = 0 ∨ (NN (ms, ac) l ∧ Numbered (KL (ms, ac) l) ms.length l ∧ (Numbered (semN (ms, ac)) ms.length l ∨ i ≤ cnt (KL (ms, ac) l) ms.length))

theorem Between.next (ok : Okd (ms, ac)) {i : Nat} {l l' : List Int} (C : Coarse (ms, ac) l) (B : Between ms ac i l) (N : Numbered (alikeR (ms, ac) l) ms.length l') : Coarse (ms, ac) l' ∧ Between ms ac (i + 1) l' := by
  obtain ⟨C', P', hK⟩ := part_step (ms, ac) ok C N
  have N' : Numbered (KL (ms, ac) l') ms.length l' := N.congr fun s t hs ht => (hK s t hs ht).symm
  have pos : 0 < ms.length := ok.pos
  refine ⟨C', .inr ⟨P', N', ?_⟩⟩
  rcases B with rfl | ⟨P, NK, h | h⟩
  · right
    have : first (KL (ms, ac) l') 0 := fun t ht => by omega
    have := cnt_lt this pos
    omega
  · left
    refine N.congr fun s t hs ht => ⟨fun hr => ?_, fun hr => sem_alike (ms, ac) ok C hs ht hr⟩
    have h1 := alike_KL (ms, ac) hr
    have h2 := (NK.iff (KL_eqv _ _ _) hs ht).2 h1
    exact (h.iff (semN_eqv _ _) hs ht).1 h2
  · by_cases hc : cnt (KL (ms, ac) l) ms.length = cnt (alikeR (ms, ac) l) ms.length
    · exact .inl (part_done (ms, ac) ok C P N hc)
    · right
      have h1 := (cnt_fine (A := KL (ms, ac) l) (B := alikeR (ms, ac) l) (n := ms.length) (fun s t _ _ h => alike_KL (ms, ac) h) ms.length (Nat.le_refl _)).1
      have h2 : cnt (KL (ms, ac) l') ms.length = cnt (alikeR (ms, ac) l) ms.length := cnt_congr hK
      omega

theorem s1702 (ok : Okd (ms, ac)) (ty : TyD (ms, ac)) : ∀ k i (l : List Int), i + k = ms.length → l.length = ms.length → Coarse (ms, ac) l → Between ms ac i l →
    S 1702 ((deadF (ms, ac), l, (ms.length : Int), (i : Int), ()), (ms, ac, ()), ()) ((classF (ms, ac), ()), ()) := by
  intro k
  induction k with
  | zero =>
    intro i l hi hl C B
    have pos : 0 < ms.length := ok.pos
    have e : classF (ms, ac) = l := by
      apply classF_eq
      rcases B with h | ⟨P, NK, h | h⟩
      · omega
      · exact h
      · refine NK.congr fun s t hs ht => ⟨fun hr => ?_, fun hr => C.sem s t hs ht hr⟩
        have hf := all_first (A := KL (ms, ac) l) (n := ms.length) (by omega)
        have : s = t := by
          rcases Nat.lt_trichotomy s t with k | k | k
          · exact absurd hr (hf t ht s k)
          · exact k
          · exact absurd ((KL_eqv (ms, ac) l ms.length).symm s t hs ht hr) (hf s hs t k)
        rw [this]
        exact SemEq.refl _ _
    rw [e]
    refine r1702 _ _ _ _ _ _ ?_
    have h1 : ¬ (i : Int) < (ms.length : Int) := by omega
    simp only [l17_1, wp_ite, h1, decide_false, Bool.false_eq_true, if_false, wp_ret]
    rfl
  | succ k ih =>
    intro i l hi hl C B
    have two : ms.length ≤ 2000 := ok.two
    have hlt : i < ms.length := by omega
    obtain ⟨l', N, hS⟩ := s2500 ms ac ok ty l hl
    obtain ⟨C', B'⟩ := B.next ms ac ok C N
    refine r1702 _ _ _ _ _ _ ?_
    have h1 : (i : Int) < (ms.length : Int) := by omega
    have hw := wsucc hlt (show ms.length ≤ 1000000 by omega)
    simp only [l17_1, wp_ite, h1, decide_true, if_true, wp_act]
    refine ⟨_, hS, ?_⟩
    show S 1702 ((deadF (ms, ac), l', (ms.length : Int), IntKind.wrap IntKind.i64 ((i : Int) + 1), ()), (ms, ac, ()), ()) _
    rw [hw]
    exact ih (i + 1) l' (by omega) N.len C' B'

theorem s1700 (ok : Okd (ms, ac)) (ty : TyD (ms, ac)) : S 1700 (((ms, ac), ()), ()) ((classF (ms, ac), ()), ()) := by
  have two : ms.length ≤ 2000 := ok.two
  refine r1700 _ _ ?_
  simp only [t17, wp_act]
  refine ⟨_, s1400 ms ac ok ty, ?_⟩
  have h1 : (0 : Int) ≤ (ms.length : Int) := by omega
  have h2 : ms.length * 1 ≤ 16777216 := by omega
  have h3 : 8 * ms.length ≤ 281474976710656 := by omega
  obtain ⟨l, g1, g2, g3⟩ := s1701 ms ac ok (deadF (ms, ac)) ms.length 0 (List.replicate ms.length (0 : Int)) (by omega) (by simp) (fun j hj => by omega)
  simp only [wp_chk, Int.toNat_natCast, h1, h2, h3, decide_true, true_and, beq_self_eq_true, wp_act, List.length_replicate]
  refine ⟨_, g3, ?_⟩
  have hb := s1702 ms ac ok ty ms.length 0 l (by omega) g1 (coarse_of ms ac ok fun s t hs ht _ _ => by rw [g2 s hs, g2 t ht]) (.inl rfl)
  have e : (l.length : Int) = (ms.length : Int) := by rw [g1]
  simp only [e]
  exact ⟨_, hb, rfl⟩

end
end Go.Proofs.YtjmnjimlkljhjaaV

/- Classes: the program's way. -/
set_option linter.unusedVariables false
set_option maxRecDepth 100000
namespace Go.Proofs.YtjmnjimlkljhjaaV
open Go Go.Proofs
attribute [local irreducible] cs nx

/-! ### maps whose keys are told by an equivalence -/
section
variable {α β : Type} {eq : α → α → Bool}

theorem lkp_putG (rf : ∀ a, eq a a = true) (sy : ∀ a b, eq a b = true → eq b a = true) (tr : ∀ a b c, eq a b = true → eq b c = true → eq a c = true) (n m : α) (v : β) :
    ∀ l : List (α × β), lkp eq n (putKV eq m v l) = if eq n m = true then some v else lkp eq n l := by
  intro l
  induction l with
  | nil => rfl
  | cons p l ih =>
    obtain ⟨k, w⟩ := p
    simp only [putKV]
    by_cases h : eq m k = true
    · rw [if_pos h]
      simp only [lkp]
      by_cases h2 : eq n k = true
      · rw [if_pos h2, if_pos (tr n k m h2 (sy m k h))]
      · rw [if_neg h2, if_neg (fun h3 => h2 (tr n m k h3 h)), if_neg h2]
    · rw [if_neg h]
      simp only [lkp]
      by_cases h2 : eq n k = true
      · rw [if_pos h2, if_neg (fun h3 => h (tr m n k (sy n m h3) h2)), if_pos h2]
      · rw [if_neg h2, ih, if_neg h2]

theorem put_len {m : α} {v : β} : ∀ {l : List (α × β)}, lkp eq m l = none → (putKV eq m v l).length = l.length + 1 := by
  intro l
  induction l with
  | nil => intro _; rfl
  | cons p l ih =>
    obtain ⟨k, w⟩ := p
    intro h
    simp only [lkp] at h
    by_cases h2 : eq m k = true
    · rw [if_pos h2] at h; cases h
    · rw [if_neg h2] at h
      simp only [putKV]
      rw [if_neg h2, List.length_cons, List.length_cons, ih h]
end

abbrev Shape := Int × List Int
abbrev eqS : Shape → Shape → Bool := eqEl (Ty.prod tI (Ty.arr 256 tI))

theorem eqS_iff (a b : Shape) : eqS a b = true ↔ a.1 = b.1 ∧ ∀ c, c < 256 → a.2.getD c 0 = b.2.getD c 0 := by
  show (a.1 == b.1 && (List.range 256).all fun i => a.2.getD i 0 == b.2.getD i 0) = true ↔ _
  rw [Bool.and_eq_true, beq_iff_eq, List.all_eq_true]
  constructor
  · rintro ⟨h1, h2⟩
    exact ⟨h1, fun c hc => beq_iff_eq.1 (h2 c (List.mem_range.2 hc))⟩
  · rintro ⟨h1, h2⟩
    exact ⟨h1, fun c hc => beq_iff_eq.2 (h2 c (List.mem_range.1 hc))⟩

theorem eqS_refl (a : Shape) : eqS a a = true := (eqS_iff a a).2 ⟨rfl, fun _ _ => rfl⟩
theorem eqS_symm (a b : Shape) (h : eqS a b = true) : eqS b a = true := by
  obtain ⟨h1, h2⟩ := (eqS_iff a b).1 h
  exact (eqS_iff b a).2 ⟨h1.symm, fun c hc => (h2 c hc).symm⟩
theorem eqS_trans (a b c : Shape) (h : eqS a b = true) (k : eqS b c = true) : eqS a c = true := by
  obtain ⟨h1, h2⟩ := (eqS_iff a b).1 h
  obtain ⟨k1, k2⟩ := (eqS_iff b c).1 k
  exact (eqS_iff a c).2 ⟨h1.trans k1, fun i hi => (h2 i hi).trans (k2 i hi)⟩

def I64 (n : Int) : Prop := -9223372036854775808 ≤ n ∧ n ≤ 9223372036854775807

theorem wrap_i64 (n : Int) : I64 (IntKind.wrap IntKind.i64 n) := by
  simp only [IntKind.wrap, IntKind.signed, IntKind.bits, I64]
  have hp : (2 : Int) ^ 64 = 18446744073709551616 := rfl
  have hp2 : (2 : Int) ^ (64 - 1) = 9223372036854775808 := rfl
  simp only [hp, hp2]
  split <;> rename_i h <;> simp_all <;> omega

theorem wrap1_inj {a b : Int} (ha : I64 a) (hb : I64 b) (h : IntKind.wrap IntKind.i64 (1 + a) = IntKind.wrap IntKind.i64 (1 + b)) : a = b := by
  have one : ∀ x, I64 x → IntKind.wrap IntKind.i64 (1 + x) = if x = 9223372036854775807 then -9223372036854775808 else 1 + x := by
    intro x hx
    unfold I64 at hx
    split
    · rename_i h; subst h; rfl
    · exact w64 (by omega)
  rw [one a ha, one b hb] at h
  unfold I64 at ha hb
  split at h <;> split at h <;> omega

section
variable (ms : List (List Move)) (ac : List Int)

theorem nxL_take {n : Int} {c : Int} : ∀ {l : List Move} {e t : Int}, okL n e t l = true → ∀ i (hi : i < l.length), nxL c (l.take (i + 1)) = if l[i].1 ≤ c ∧ c ≤ l[i].2.1 then l[i].2.2 else nxL c (l.take i) := by
  intro l
  induction l with
  | nil => intro e t _ i hi; simp at hi
  | cons m l ih =>
    intro e t h i hi
    have h' := h
    simp only [okL, Bool.and_eq_true] at h'
    cases i with
    | zero =>
      simp only [Nat.zero_add, List.take_succ_cons, List.take_zero, List.getElem_cons_zero, nxL]
    | succ i =>
      have hi' : i < l.length := by simpa using hi
      have hlo := okL_lo h'.2 l[i] (List.getElem_mem hi')
      rw [List.take_succ_cons, List.take_succ_cons, List.getElem_cons_succ]
      simp only [nxL]
      by_cases hm : c ≥ m.1 ∧ c ≤ m.2.1
      · rw [if_pos hm, if_pos hm, if_neg (by omega)]
      · rw [if_neg hm, if_neg hm]
        exact ih h'.2 i hi'

/-- What the program holds of classes. -/
structure Cls (C : List Int) : Prop where
  len : C.length = ms.length
  dead : ∀ s, s < ms.length → DeadS (ms, ac) (s : Int) → C.getD s 0 = -1
  rng : ∀ s, s < ms.length → I64 (C.getD s 0)

theorem Cls.at {C : List Int} (K : Cls ms ac C) {s : Nat} (hs : s < ms.length) : C.getD s 0 = clF (ms, ac) C (s : Int) := by
  by_cases h : DeadS (ms, ac) (s : Int)
  · rw [K.dead s hs h, clF_dead _ _ h]
  · rw [clF_live (ms, ac) C hs h]

theorem Cls.clrng {C : List Int} (K : Cls ms ac C) {x : Int} (hx : x = -1 ∨ ∃ u : Nat, x = (u : Int) ∧ u < ms.length) : I64 (clF (ms, ac) C x) := by
  rcases hx with rfl | ⟨u, rfl, hu⟩
  · rw [clF_neg]; unfold I64; omega
  · rw [← K.at ms ac hu]; exact K.rng u hu

section
open Classical
/-- What a byte's cell holds. -/
noncomputable def tv (C : List Int) (s : Nat) (l : List Move) (c : Int) : Int := IntKind.wrap IntKind.i64 (1 + if DeadS (ms, ac) (s : Int) then -1 else clF (ms, ac) C (nxL c l))

def ToOk (C : List Int) (s : Nat) (l : List Move) (to : List Int) : Prop := to.length = 256 ∧ ∀ c, c < 256 → to.getD c 0 = tv ms ac C s l (c : Int)

def IsShape (C : List Int) (s : Nat) (x : Shape) : Prop := x.1 = C.getD s 0 ∧ ToOk ms ac C s (ms.getD s []) x.2

theorem shape_iff (ok : Okd (ms, ac)) {C : List Int} (K : Cls ms ac C) (P : NN (ms, ac) C) {s t : Nat} (hs : s < ms.length) (ht : t < ms.length) {x y : Shape} (hx : IsShape ms ac C s x) (hy : IsShape ms ac C t y) : eqS x y = true ↔ alikeR (ms, ac) C s t := by
  obtain ⟨x1, x2, x3⟩ := hx
  obtain ⟨y1, y2, y3⟩ := hy
  have es : ∀ c : Nat, nxL (c : Int) (ms.getD s []) = nx ms (s : Int) (c : Int) := fun c => by rw [nx_at hs, getN hs]
  have et : ∀ c : Nat, nxL (c : Int) (ms.getD t []) = nx ms (t : Int) (c : Int) := fun c => by rw [nx_at ht, getN ht]
  rw [eqS_iff, x1, y1]
  constructor
  · rintro ⟨h1, h2⟩
    by_cases ds : DeadS (ms, ac) (s : Int)
    · by_cases dt : DeadS (ms, ac) (t : Int)
      · exact .inl ⟨ds, dt⟩
      · rw [K.dead s hs ds] at h1
        exact absurd h1.symm (P t ht dt)
    · by_cases dt : DeadS (ms, ac) (t : Int)
      · rw [K.dead t ht dt] at h1
        exact absurd h1 (P s hs ds)
      · refine .inr ⟨ds, dt, h1, fun c hc => ?_⟩
        have hb := hc
        obtain ⟨c0, c1⟩ := hb
        obtain ⟨i, rfl⟩ : ∃ i : Nat, c = (i : Int) := ⟨c.toNat, by omega⟩
        have := h2 i (by omega)
        rw [x3 i (by omega), y3 i (by omega)] at this
        unfold tv at this
        rw [if_neg ds, if_neg dt, es, et] at this
        exact wrap1_inj (K.clrng ms ac (nx_cases ok _ _)) (K.clrng ms ac (nx_cases ok _ _)) this
  · rintro (⟨ds, dt⟩ | ⟨ds, dt, h1, h2⟩)
    · refine ⟨by rw [K.dead s hs ds, K.dead t ht dt], fun c hc => ?_⟩
      rw [x3 c hc, y3 c hc]
      unfold tv
      rw [if_pos ds, if_pos dt]
    · refine ⟨h1, fun c hc => ?_⟩
      rw [x3 c hc, y3 c hc]
      unfold tv
      rw [if_neg ds, if_neg dt, es, et]
      have := h2 (c : Int) ⟨by omega, by omega⟩
      rw [this]

/-! ### the walks -/
theorem s1605d (x1 x5 x6 x8 x9 : Int) (s : Nat) (hs : s < ms.length) (hd : DeadS (ms, ac) (s : Int)) (c : Int) (x4 : List (List Move)) (l : List Move) (C next : List Int) (at' : List (Shape × Int)) (cv : Int) (to : List Int) (lo hi to' : Int) :
    S 1605 ((deadF (ms, ac), x1, (s : Int), c, x4, x5, x6, l, x8, x9, ()), (ms, ac, ()), C, next, at', (cv, to, ()), (lo, hi, to', ()), ()) ((deadF (ms, ac), x1, (s : Int), x4, x5, x6, l, x8, x9, ()), (ms, ac, ()), C, next, at', (cv, to, ()), ()) := by
  refine r1605 _ _ _ _ _ _ _ _ _ _ _ _ _ _ _ _ _ _ _ _ ?_
  have dl : (deadF (ms, ac)).length = ms.length := deadF_len (ms, ac)
  have h1 : (0 : Int) ≤ (s : Int) := by omega
  have h2 : (s : Int) < ((deadF (ms, ac)).length : Int) := by omega
  have hg : (deadF (ms, ac)).getD s false = true := by rw [deadF_at (ms, ac) hs]; exact decide_eq_true hd
  simp only [l16_4, wp_ite, wp_chk, wp_ret, Int.toNat_natCast, h1, h2, hg, decide_true, Bool.or_true, Bool.not_true, Bool.and_false, Bool.false_eq_true, if_false, true_and]
  rfl

theorem s1605 (x1 x5 x6 x8 x9 : Int) (s : Nat) (hs : s < ms.length) (hd : ¬ DeadS (ms, ac) (s : Int)) (x4 : List (List Move)) (l : List Move) (C next : List Int) (hC : C.length = ms.length) (at' : List (Shape × Int)) (cv : Int) (lo hi : Nat) (hhi : hi ≤ 255) (u : Nat) (hu : u < ms.length) :
    ∀ (k c : Nat) (to : List Int), c + k = hi + 1 → to.length = 256 → ∃ to', to'.length = 256 ∧ (∀ j, j < 256 → to'.getD j 0 = if c ≤ j ∧ j ≤ hi then IntKind.wrap IntKind.i64 (1 + C.getD u 0) else to.getD j 0) ∧
    S 1605 ((deadF (ms, ac), x1, (s : Int), (c : Int), x4, x5, x6, l, x8, x9, ()), (ms, ac, ()), C, next, at', (cv, to, ()), ((lo : Int), (hi : Int), (u : Int), ()), ()) ((deadF (ms, ac), x1, (s : Int), x4, x5, x6, l, x8, x9, ()), (ms, ac, ()), C, next, at', (cv, to', ()), ()) := by
  have dl : (deadF (ms, ac)).length = ms.length := deadF_len (ms, ac)
  have h1 : (0 : Int) ≤ (s : Int) := by omega
  have h2 : (s : Int) < ((deadF (ms, ac)).length : Int) := by omega
  have hg : (deadF (ms, ac)).getD s false = false := by rw [deadF_at (ms, ac) hs]; exact decide_eq_false hd
  have hwh : IntKind.wrap IntKind.i64 (hi : Int) = (hi : Int) := w64 (by omega)
  have h3 : (u : Int) ≥ 0 := by omega
  have h3' : 0 ≤ (u : Int) := by omega
  have h4 : (u : Int) < (C.length : Int) := by omega
  intro k
  induction k with
  | zero =>
    intro c to hc ht
    refine ⟨to, ht, fun j hj => by rw [if_neg (by omega)], r1605 _ _ _ _ _ _ _ _ _ _ _ _ _ _ _ _ _ _ _ _ ?_⟩
    have h5 : ¬ ((c : Int) ≤ (hi : Int)) := by omega
    simp only [l16_4, wp_ite, wp_chk, wp_ret, Int.toNat_natCast, h1, h2, hwh, h5, decide_true, decide_false, Bool.false_and, Bool.not_false, Bool.true_or, Bool.false_eq_true, if_false, true_and]
    rfl
  | succ k ih =>
    intro c to hc ht
    have hct : c < to.length := by omega
    have g : ∀ j, (to.set c (IntKind.wrap IntKind.i64 (1 + C.getD u 0))).getD j 0 = if c = j then IntKind.wrap IntKind.i64 (1 + C.getD u 0) else to.getD j 0 := by
      intro j
      rw [getSet]
      by_cases e : c = j
      · rw [if_pos ⟨e, hct⟩, if_pos e]
      · rw [if_neg (fun h => e h.1), if_neg e]
    obtain ⟨to', g1, g2, g3⟩ := ih (c + 1) (to.set c (IntKind.wrap IntKind.i64 (1 + C.getD u 0))) (by omega) (by rw [List.length_set]; exact ht)
    refine ⟨to', g1, fun j hj => ?_, r1605 _ _ _ _ _ _ _ _ _ _ _ _ _ _ _ _ _ _ _ _ ?_⟩
    · rw [g2 j hj, g]
      by_cases e : c = j
      · subst e
        rw [if_neg (by omega), if_pos rfl, if_pos (by omega)]
      · by_cases e2 : c + 1 ≤ j ∧ j ≤ hi
        · rw [if_pos e2, if_pos (by omega)]
        · rw [if_neg e2, if_neg e, if_neg (by omega)]
    · have h5 : (c : Int) ≤ (hi : Int) := by omega
      have h6 : (0 : Int) ≤ (c : Int) := by omega
      have h7 : (c : Int) < 256 := by omega
      have hw : IntKind.wrap IntKind.i64 ((c : Int) + 1) = ((c + 1 : Nat) : Int) := by rw [w64 (by omega)]; omega
      simp only [l16_4, wp_ite, wp_chk, wp_ret, Int.toNat_natCast, h1, h2, h3, h4, h5, h6, h7, hwh, hg, hw, decide_true, Bool.and_self, Bool.not_false, Bool.not_true, Bool.false_or, if_true, true_and]
      exact g3

theorem s1604 (ok : Okd (ms, ac)) (ty : TyD (ms, ac)) (x1 x4 x5 : Int) (x3 : List (List Move)) (s : Nat) (hs : s < ms.length) (C next : List Int) (K : Cls ms ac C) (at' : List (Shape × Int)) (cv : Int) :
    ∀ k i (to : List Int), i + k = ms[s].length → ToOk ms ac C s (ms[s].take i) to → ∃ to', ToOk ms ac C s ms[s] to' ∧
    S 1604 ((deadF (ms, ac), x1, (s : Int), x3, x4, x5, ms[s], (ms[s].length : Int), (i : Int), ()), (ms, ac, ()), C, next, at', (cv, to, ()), ()) ((deadF (ms, ac), x1, (s : Int), x3, x4, x5, ()), (ms, ac, ()), C, next, at', (cv, to', ()), ()) := by
  have hml : ms[s].length ≤ 256 := ok.mvlen ty _ (List.getElem_mem hs)
  have hok := ok.mv _ (List.getElem_mem hs)
  intro k
  induction k with
  | zero =>
    intro i to hi h
    refine ⟨to, by rw [List.take_of_length_le (by omega)] at h; exact h, r1604 _ _ _ _ _ _ _ _ _ _ _ _ _ _ _ _ ?_⟩
    have h1 : ¬ (i : Int) < (ms[s].length : Int) := by omega
    simp only [l16_3, wp_ite, h1, decide_false, Bool.false_eq_true, if_false, wp_ret]
    rfl
  | succ k ih =>
    intro i to hi h
    have hlt : i < ms[s].length := by omega
    have h1 : (i : Int) < (ms[s].length : Int) := by omega
    have h0 : (0 : Int) ≤ (i : Int) := by omega
    have hty := ty.1 _ (List.getElem_mem hs) _ (List.getElem_mem hlt)
    obtain ⟨t1, t2, t3, t4, _, _⟩ := hty
    have hb := okL_lo hok _ (List.getElem_mem hlt)
    have hun : ms[s][i].2.2 < (ms.length : Int) := hb.2.2.2
    obtain ⟨lo, hlo⟩ : ∃ lo : Nat, ms[s][i].1 = (lo : Int) := ⟨ms[s][i].1.toNat, by omega⟩
    obtain ⟨hi', hhi⟩ : ∃ lo : Nat, ms[s][i].2.1 = (lo : Int) := ⟨ms[s][i].2.1.toNat, by omega⟩
    obtain ⟨u, hu⟩ : ∃ lo : Nat, ms[s][i].2.2 = (lo : Int) := ⟨ms[s][i].2.2.toNat, by omega⟩
    have hw := wsucc hlt (show ms[s].length ≤ 1000000 by omega)
    have hwl : IntKind.wrap IntKind.i64 (lo : Int) = (lo : Int) := w64 (by omega)
    by_cases hd : DeadS (ms, ac) (s : Int)
    · have hto : ToOk ms ac C s (ms[s].take (i + 1)) to := ⟨h.1, fun c hc => by rw [h.2 c hc]; unfold tv; rw [if_pos hd, if_pos hd]⟩
      obtain ⟨to', g1, g2⟩ := ih (i + 1) to (by omega) hto
      refine ⟨to', g1, r1604 _ _ _ _ _ _ _ _ _ _ _ _ _ _ _ _ ?_⟩
      simp only [l16_3, wp_ite, wp_chk, Int.toNat_natCast, getN hlt, h1, h0, decide_true, if_true, true_and, wp_act]
      refine ⟨_, s1605d ms ac x1 x4 x5 (ms[s].length : Int) (i : Int) s hs hd _ x3 ms[s] C next at' cv to _ _ _, ?_⟩
      show S 1604 ((deadF (ms, ac), x1, (s : Int), x3, x4, x5, ms[s], (ms[s].length : Int), IntKind.wrap IntKind.i64 ((i : Int) + 1), ()), (ms, ac, ()), C, next, at', (cv, to, ()), ()) _
      rw [hw]
      exact g2
    · obtain ⟨to1, f1, f2, f3⟩ := s1605 ms ac x1 x4 x5 (ms[s].length : Int) (i : Int) s hs hd x3 ms[s] C next K.len at' cv lo hi' (by omega) u (by omega) (hi' + 1 - lo) lo to (by omega) h.1
      have hto : ToOk ms ac C s (ms[s].take (i + 1)) to1 := ⟨f1, fun c hc => by
        rw [f2 c hc]
        unfold tv
        rw [if_neg hd, nxL_take hok i hlt]
        by_cases e : lo ≤ c ∧ c ≤ hi'
        · rw [if_pos e, if_pos (by omega), hu, K.at ms ac (by omega)]
        · rw [if_neg e, if_neg (by omega), h.2 c hc]
          unfold tv
          rw [if_neg hd]⟩
      obtain ⟨to', g1, g2⟩ := ih (i + 1) to1 (by omega) hto
      refine ⟨to', g1, r1604 _ _ _ _ _ _ _ _ _ _ _ _ _ _ _ _ ?_⟩
      simp only [l16_3, wp_ite, wp_chk, Int.toNat_natCast, getN hlt, h1, h0, decide_true, if_true, true_and, wp_act, hlo, hhi, hu, hwl]
      refine ⟨_, f3, ?_⟩
      show S 1604 ((deadF (ms, ac), x1, (s : Int), x3, x4, x5, ms[s], (ms[s].length : Int), IntKind.wrap IntKind.i64 ((i : Int) + 1), ()), (ms, ac, ()), C, next, at', (cv, to1, ()), ()) _
      rw [hw]
      exact g2

/-- What the map of shapes holds. -/
structure AtOk (C : List Int) (i : Nat) (at' : List (Shape × Int)) : Prop where
  len : at'.length = cnt (alikeR (ms, ac) C) i
  some' : ∀ s f x, s < ms.length → f < i → first (alikeR (ms, ac) C) f → alikeR (ms, ac) C f s → IsShape ms ac C s x → lkp eqS x at' = some (cnt (alikeR (ms, ac) C) f : Int)
  none' : ∀ s x, s < ms.length → (∀ f, f < i → first (alikeR (ms, ac) C) f → ¬ alikeR (ms, ac) C f s) → IsShape ms ac C s x → lkp eqS x at' = none

theorem s1603 (ok : Okd (ms, ac)) (ty : TyD (ms, ac)) (x1 : Int) (C : List Int) (K : Cls ms ac C) (P : NN (ms, ac) C) : ∀ k i (next : List Int) (at' : List (Shape × Int)), i + k = ms.length → next.length = ms.length → PartN (alikeR (ms, ac) C) i next → AtOk ms ac C i at' →
    ∃ next' at2, Numbered (alikeR (ms, ac) C) ms.length next' ∧ at2.length = cnt (alikeR (ms, ac) C) ms.length ∧
    S 1603 ((deadF (ms, ac), x1, ms, (ms.length : Int), (i : Int), ()), (ms, ac, ()), C, next, at', ()) ((deadF (ms, ac), x1, ()), (ms, ac, ()), C, next', at2, ()) := by
  have E := alikeR_eqv (ms, ac) C ms.length
  intro k
  induction k with
  | zero =>
    intro i next at' hi hn PN A
    have e : i = ms.length := by omega
    subst e
    refine ⟨next, at', ⟨hn, PN.fst, PN.oth⟩, A.len, r1603 _ _ _ _ _ _ _ _ _ _ ?_⟩
    have h1 : ¬ ((ms.length : Int) < (ms.length : Int)) := by omega
    simp only [l16_2, wp_ite, h1, decide_false, Bool.false_eq_true, if_false, wp_ret]
    rfl
  | succ k ih =>
    intro i next at' hi hn PN A
    have two : ms.length ≤ 2000 := ok.two
    have hlt : i < ms.length := by omega
    have h1 : (i : Int) < (ms.length : Int) := by omega
    have h0 : (0 : Int) ≤ (i : Int) := by omega
    have hCl := K.len
    have h2 : (i : Int) < (C.length : Int) := by omega
    have h3 : (i : Int) < (next.length : Int) := by omega
    have hw := wsucc hlt (show ms.length ≤ 1000000 by omega)
    have t0 : ToOk ms ac C i (ms[i].take 0) (List.replicate 256 0) := by
      refine ⟨by simp, fun c hc => ?_⟩
      have e1 : (List.replicate 256 (0 : Int)).getD c 0 = 0 := by
        rw [List.getD_eq_getElem?_getD, List.getElem?_replicate, if_pos hc]; rfl
      rw [e1]
      unfold tv
      have e2 : nxL (c : Int) (ms[i].take 0) = -1 := rfl
      rw [e2, clF_neg]
      split <;> rfl
    obtain ⟨to', g1, g2⟩ := s1604 ms ac ok ty x1 (ms.length : Int) (i : Int) ms i hlt C next K at' (C.getD i 0) ms[i].length 0 _ (by omega) t0
    have hsh : IsShape ms ac C i (C.getD i 0, to') := ⟨rfl, by rw [getN hlt]; exact g1⟩
    have gset : ∀ (v : Int) j, (next.set i v).getD j 0 = if i = j then v else next.getD j 0 := by
      intro v j
      rw [getSet]
      by_cases e : i = j
      · rw [if_pos ⟨e, by omega⟩, if_pos e]
      · rw [if_neg (fun h => e h.1), if_neg e]
    by_cases hf : first (alikeR (ms, ac) C) i
    · have hl : lkp eqS (C.getD i 0, to') at' = none := A.none' i _ hlt (fun f hfi _ => hf f hfi) hsh
      have hc : cnt (alikeR (ms, ac) C) (i + 1) = cnt (alikeR (ms, ac) C) i + 1 := by rw [cnt_succ, if_pos hf]
      have hput : ∀ x, lkp eqS x (putKV eqS (C.getD i 0, to') (at'.length : Int) at') = if eqS x (C.getD i 0, to') = true then some (at'.length : Int) else lkp eqS x at' := fun x => lkp_putG eqS_refl eqS_symm eqS_trans _ _ _ _
      have A2 : AtOk ms ac C (i + 1) (putKV eqS (C.getD i 0, to') (at'.length : Int) at') := by
        refine ⟨by rw [put_len hl, A.len, hc], fun s f x hs hfl hff hr hx => ?_, fun s x hs hno hx => ?_⟩
        · rw [hput]
          have hiff := shape_iff ms ac ok K P hs hlt hx hsh
          by_cases hfi : f = i
          · subst hfi
            rw [if_pos (hiff.2 (E.symm f s hlt hs hr)), A.len]
          · have hni : ¬ eqS x (C.getD i 0, to') = true := fun h => by
              have := E.trans f s i (by omega) hs hlt hr (hiff.1 h)
              exact hf f (by omega) this
            rw [if_neg hni]
            exact A.some' s f x hs (by omega) hff hr hx
        · rw [hput]
          have hiff := shape_iff ms ac ok K P hs hlt hx hsh
          have hni : ¬ eqS x (C.getD i 0, to') = true := fun h => hno i (by omega) hf (E.symm s i hs hlt (hiff.1 h))
          rw [if_neg hni]
          exact A.none' s x hs (fun f hfi hff => hno f (by omega) hff) hx
      have PN2 : PartN (alikeR (ms, ac) C) (i + 1) (next.set i (at'.length : Int)) := PN.add (fun j hj => by rw [gset, if_neg (by omega)]) (fun _ => by rw [gset, if_pos rfl, A.len]) (fun t ht hr => absurd hr (hf t ht))
      obtain ⟨n', a2, b1, b2, b3⟩ := ih (i + 1) _ _ (by omega) (by rw [List.length_set]; exact hn) PN2 A2
      refine ⟨n', a2, b1, b2, r1603 _ _ _ _ _ _ _ _ _ _ ?_⟩
      simp only [l16_2, wp_ite, wp_chk, Int.toNat_natCast, getN hlt, h1, h0, h2, decide_true, if_true, true_and, wp_act]
      refine ⟨_, g2, ?_⟩
      simp only [wp_ite, wp_chk, wp_ret, Int.toNat_natCast, hl, Option.isSome_none, Bool.not_false, if_true, h0, h3, decide_true, true_and, hw]
      exact b3
    · have : ∃ t, t < i ∧ alikeR (ms, ac) C t i := by
        apply Classical.byContradiction
        intro hn
        exact hf fun t ht hr => hn ⟨t, ht, hr⟩
      obtain ⟨t, ht, hr⟩ := this
      obtain ⟨f, f1, f2, f3⟩ := has_first E t (by omega)
      have hfr := E.trans f t i (by omega) (by omega) hlt f3 hr
      have hl : lkp eqS (C.getD i 0, to') at' = some (cnt (alikeR (ms, ac) C) f : Int) := A.some' i f _ hlt (by omega) f2 hfr hsh
      have hc : cnt (alikeR (ms, ac) C) (i + 1) = cnt (alikeR (ms, ac) C) i := by rw [cnt_succ, if_neg hf]; rfl
      have A2 : AtOk ms ac C (i + 1) at' := by
        refine ⟨by rw [A.len, hc], fun s q x hs hql hqf hr hx => ?_, fun s x hs hno hx => A.none' s x hs (fun q hq hqf => hno q (by omega) hqf) hx⟩
        by_cases hqi : q = i
        · subst hqi; exact absurd hqf hf
        · exact A.some' s q x hs (by omega) hqf hr hx
      have PN2 : PartN (alikeR (ms, ac) C) (i + 1) (next.set i (cnt (alikeR (ms, ac) C) f : Int)) := PN.add (fun j hj => by rw [gset, if_neg (by omega)]) (fun h => absurd h hf) (fun q hq hqr => by
        rw [gset, if_pos rfl, ← PN.fst f (by omega) f2]
        exact PN.same E (by omega) (by omega) hq (E.trans f i q (by omega) hlt (by omega) hfr (E.symm q i (by omega) hlt hqr)))
      obtain ⟨n', a2, b1, b2, b3⟩ := ih (i + 1) _ _ (by omega) (by rw [List.length_set]; exact hn) PN2 A2
      refine ⟨n', a2, b1, b2, r1603 _ _ _ _ _ _ _ _ _ _ ?_⟩
      simp only [l16_2, wp_ite, wp_chk, Int.toNat_natCast, getN hlt, h1, h0, h2, decide_true, if_true, true_and, wp_act]
      refine ⟨_, g2, ?_⟩
      simp only [wp_ite, wp_chk, wp_ret, Int.toNat_natCast, hl, Option.isSome_some, Option.getD_some, Bool.not_true, Bool.false_eq_true, if_false, h0, h3, decide_true, true_and, hw]
      exact b3

end
end
end Go.Proofs.YtjmnjimlkljhjaaV
