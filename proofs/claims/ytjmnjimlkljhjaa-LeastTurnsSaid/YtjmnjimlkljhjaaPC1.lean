/- What the least functions do: whether an automaton is small, may be; where it goes. -/
import Derived.Test.YtjmnjimlkljhjaaVB1
import Derived.IntWalk
import Derived.Test.YtjmnjimlkljhjaaVB2
import Derived.Test.YtjmnjimlkljhjaaVA3
import Derived.DataElems
import Derived.ChangeArms
import Derived.JoinedOf
import Derived.ChangeOld
import Derived.DataReads
import Derived.WideShapes
import Derived.ShutString
import Derived.Below
import Derived.Carry
import Derived.OpenShut
import Derived.ChangeSame
import Derived.SizedLaws
set_option linter.unusedVariables false
namespace Go.Proofs.YtjmnjimlkljhjaaV
open Go Go.Proofs

abbrev S : Spec Γ := SemR Try.prog Γ
abbrev Move := Int × Int × Int
abbrev Dfa := List (List Move) × List Int

section
variable {Γ : Nat → Sig} {X : Type} {R : Spec Γ} {Q : X → Prop}
theorem wp_ite {b : Bool} {t e : Tree Γ X} : (Tree.ite b t e).wp R Q ↔ if b = true then t.wp R Q else e.wp R Q := Iff.rfl
theorem wp_chk {b : Bool} {t : Tree Γ X} : (Tree.chk b t).wp R Q ↔ b = true ∧ t.wp R Q := Iff.rfl
theorem wp_ret {x : X} : (Tree.ret x : Tree Γ X).wp R Q ↔ Q x := Iff.rfl
theorem wp_act {i : Nat} {s : (Γ i).pre.T} {k : (Γ i).O → Tree Γ X} : (Tree.act i s k).wp R Q ↔ ∃ y, R i s y ∧ (k y).wp R Q := Iff.rfl
theorem wp_stuck {w : String} : (Tree.stuck w : Tree Γ X).wp R Q ↔ False := Iff.rfl
theorem loopP_inl {A B : Type} {R : A → B → Prop} {y : B} {x : A} : LoopP R y (.inl x) ↔ R x y := Iff.rfl
theorem loopP_inr {A B : Type} {R : A → B → Prop} {y z : B} : LoopP R y (.inr z) ↔ z = y := Iff.rfl
end

theorem getD_at {α : Type} {l : List α} {i : Nat} (h : i < l.length) (d : α) : List.getD l (Int.toNat (i : Int)) d = l[i] := by
  simp [List.getD_eq_getElem?_getD, h]

theorem drop_at {α : Type} {l : List α} {i : Nat} (h : i < l.length) : l.drop i = l[i] :: l.drop (i + 1) := List.drop_eq_getElem_cons h

theorem w64 {n : Int} (h : -9223372036854775808 ≤ n ∧ n ≤ 9223372036854775807) : IntKind.wrap IntKind.i64 n = n := IntWalk.i64_in n h
theorem wsucc {i n : Nat} (h : i < n) (hn : n ≤ 1000000) : IntKind.wrap IntKind.i64 ((i : Int) + 1) = ((i + 1 : Nat) : Int) := by
  rw [w64 (by omega)]; omega

/-! ### small enough -/
def fewF (d : Dfa) : Bool := decide (d.1.length ≤ 12) && decide (d.2.length ≤ 20) && d.1.all fun l => decide (l.length ≤ 60)

abbrev endB (b : Bool) : PUnit × PUnit ⊕ (Bool × PUnit) × PUnit := if b = true then .inl ((), ()) else .inr ((false, ()), ())

/-- Out by the one way, or with false. -/
abbrev out2 {A : Type} (b : Bool) (a : A) : A ⊕ (Bool × PUnit) × PUnit := if b = true then .inl a else .inr ((false, ()), ())

theorem s1101 (ms : List (List Move)) (hn : ms.length ≤ 1000000) : ∀ k i, i + k = ms.length →
    S 1101 ((ms, (ms.length : Int), (i : Int), ()), ()) (endB ((ms.drop i).all fun l => decide (l.length ≤ 60))) := by
  intro k
  induction k with
  | zero =>
    intro i hi
    refine r1101 _ _ _ ?_
    have h1 : ¬ (i : Int) < (ms.length : Int) := by omega
    rw [List.drop_eq_nil_of_le (show ms.length ≤ i by omega)]
    simp only [l11_0, wp_ite, h1, decide_false, Bool.false_eq_true, if_false, wp_ret]
    rfl
  | succ k ih =>
    intro i hi
    refine r1101 _ _ _ ?_
    have hlt : i < ms.length := by omega
    have h1 : (i : Int) < (ms.length : Int) := by omega
    have h0 : (0 : Int) ≤ (i : Int) := by omega
    rw [drop_at hlt, List.all_cons]
    simp only [l11_0, wp_ite, wp_chk, wp_ret, getD_at hlt, wsucc hlt hn, h1, h0, decide_true, if_true, true_and]
    by_cases hc : ms[i].length ≤ 60
    · have h2 : ¬ ((ms[i].length : Int) > 60) := by omega
      simp only [h2, hc, decide_false, decide_true, Bool.false_eq_true, if_false, Bool.true_and]
      exact ih (i + 1) (by omega)
    · have h2 : ((ms[i].length : Int) > 60) := by omega
      simp only [h2, hc, decide_false, decide_true, if_true, Bool.false_and]
      rfl

theorem s1100 (ms : List (List Move)) (ac : List Int) : S 1100 (((ms, ac), ()), ()) ((fewF (ms, ac), ()), ()) := by
  refine r1100 _ _ ?_
  simp only [t11, wp_ite]
  by_cases h : ms.length ≤ 12 ∧ ac.length ≤ 20
  · have h1 : ¬ ((ms.length : Int) > 12) := by omega
    have h2 : ¬ ((ac.length : Int) > 20) := by omega
    simp only [h1, h2, decide_false, Bool.or_false, Bool.false_eq_true, if_false, wp_act]
    refine ⟨endB (ms.all fun l => decide (l.length ≤ 60)), s1101 ms (by omega) ms.length 0 (by omega), ?_⟩
    have e : fewF (ms, ac) = ms.all fun l => decide (l.length ≤ 60) := by simp [fewF, h.1, h.2]
    rw [e]
    cases ms.all fun l => decide (l.length ≤ 60) <;> rfl
  · have h1 : (decide ((ms.length : Int) > 12) || decide ((ac.length : Int) > 20)) = true := by
      simp only [Bool.or_eq_true, decide_eq_true_eq]; omega
    simp only [h1, if_true, wp_ret]
    have e : fewF (ms, ac) = false := by
      simp only [fewF, Bool.and_eq_false_iff, decide_eq_false_iff_not]; omega
    rw [e]

/-! ### the same numbers -/
theorem s1501 (a b : List Int) (hn : a.length ≤ 1000000) (hl : a.length = b.length) : ∀ k i, i + k = a.length → S 1501 ((a, b, (a.length : Int), (i : Int), ()), ()) (endB (decide (a.drop i = b.drop i))) := by
  intro k
  induction k with
  | zero =>
    intro i hi
    refine r1501 _ _ _ _ ?_
    have h1 : ¬ (i : Int) < (a.length : Int) := by omega
    rw [List.drop_eq_nil_of_le (show a.length ≤ i by omega), List.drop_eq_nil_of_le (show b.length ≤ i by omega)]
    simp only [l15_0, wp_ite, h1, decide_false, Bool.false_eq_true, if_false, wp_ret]
    rfl
  | succ k ih =>
    intro i hi
    refine r1501 _ _ _ _ ?_
    have hlt : i < a.length := by omega
    have hlt' : i < b.length := by omega
    have h1 : (i : Int) < (a.length : Int) := by omega
    have h1' : (i : Int) < (b.length : Int) := by omega
    have h0 : (0 : Int) ≤ (i : Int) := by omega
    rw [drop_at hlt, drop_at hlt']
    simp only [l15_0, wp_ite, wp_chk, wp_ret, getD_at hlt, getD_at hlt', wsucc hlt hn, h1, h1', h0, decide_true, if_true, true_and]
    by_cases hc : a[i] = b[i]
    · have e : decide (a[i] :: a.drop (i + 1) = b[i] :: b.drop (i + 1)) = decide (a.drop (i + 1) = b.drop (i + 1)) := by
        rw [decide_eq_decide, List.cons.injEq]; simp only [hc, true_and]
      rw [e]
      simp only [hc, bne_self_eq_false, Bool.false_eq_true, if_false]
      exact ih (i + 1) (by omega)
    · have e : decide (a[i] :: a.drop (i + 1) = b[i] :: b.drop (i + 1)) = false := by
        rw [decide_eq_false_iff_not, List.cons.injEq]; exact fun h => hc h.1
      rw [e]
      have h2 : (a[i] != b[i]) = true := by simpa using hc
      simp only [h2, if_true]
      rfl

theorem s1500 (a b : List Int) (hn : a.length ≤ 1000000) : S 1500 ((a, b, ()), ()) ((decide (a = b), ()), ()) := by
  refine r1500 _ _ ?_
  simp only [t15, wp_ite]
  by_cases h : a.length = b.length
  · have h1 : ((a.length : Int) != (b.length : Int)) = false := by simp [h]
    simp only [h1, Bool.false_eq_true, if_false, wp_act]
    refine ⟨endB (decide (a = b)), s1501 a b hn h a.length 0 (by omega), ?_⟩
    cases decide (a = b) <;> rfl
  · have h1 : ((a.length : Int) != (b.length : Int)) = true := by simp; omega
    simp only [h1, if_true, wp_ret]
    have e : decide (a = b) = false := by simp; intro e; exact h (by rw [e])
    rw [e]

/-! ### the same automata -/
theorem eqMove (a b : Move) : eqEl tM (a.1, a.2.1, a.2.2) (b.1, b.2.1, b.2.2) = decide (a = b) := by
  obtain ⟨a1, a2, a3⟩ := a
  obtain ⟨b1, b2, b3⟩ := b
  show (a1 == b1 && (a2 == b2 && a3 == b3)) = _
  rw [Bool.eq_iff_iff]
  simp

theorem s2002 (s n : Nat) (m1 : List (List Move)) (a1 : List Int) (m2 : List (List Move)) (a2 : List Int) (hs : s < m1.length) (hs' : s < m2.length) (hn : m1[s].length ≤ 1000000) (hl : m1[s].length = m2[s].length) : ∀ k i, i + k = m1[s].length →
    S 2002 (((s : Int), (n : Int), (s : Int), (m1[s].length : Int), (i : Int), ()), (m1, a1, ()), (m2, a2, ()), ()) (out2 (decide (m1[s].drop i = m2[s].drop i)) (((n : Int), (s : Int), ()), (m1, a1, ()), (m2, a2, ()), ())) := by
  intro k
  induction k with
  | zero =>
    intro i hi
    refine r2002 _ _ _ _ _ _ _ _ _ ?_
    have h1 : ¬ (i : Int) < (m1[s].length : Int) := by omega
    rw [List.drop_eq_nil_of_le (show m1[s].length ≤ i by omega), List.drop_eq_nil_of_le (show m2[s].length ≤ i by omega)]
    simp only [l20_1, wp_ite, h1, decide_false, Bool.false_eq_true, if_false, wp_ret]
    rfl
  | succ k ih =>
    intro i hi
    refine r2002 _ _ _ _ _ _ _ _ _ ?_
    have hlt : i < m1[s].length := by omega
    have hlt' : i < m2[s].length := by omega
    have h1 : (i : Int) < (m1[s].length : Int) := by omega
    have h1' : (i : Int) < (m2[s].length : Int) := by omega
    have h0 : (0 : Int) ≤ (i : Int) := by omega
    have h2 : (0 : Int) ≤ (s : Int) := by omega
    have h3 : (s : Int) < (m1.length : Int) := by omega
    have h3' : (s : Int) < (m2.length : Int) := by omega
    rw [drop_at hlt, drop_at hlt']
    simp only [l20_1, wp_ite, wp_chk, wp_ret, getD_at hs, getD_at hs', getD_at hlt, getD_at hlt', wsucc hlt hn, h1, h1', h0, h2, h3, h3', decide_true, if_true, true_and]
    erw [eqMove m1[s][i] m2[s][i]]
    by_cases hc : m1[s][i] = m2[s][i]
    · have e : decide (m1[s][i] :: m1[s].drop (i + 1) = m2[s][i] :: m2[s].drop (i + 1)) = decide (m1[s].drop (i + 1) = m2[s].drop (i + 1)) := by
        rw [decide_eq_decide, List.cons.injEq]; simp only [hc, true_and]
      rw [e]
      simp only [hc, decide_true, Bool.not_true, Bool.false_eq_true, if_false]
      exact ih (i + 1) (by omega)
    · have e : decide (m1[s][i] :: m1[s].drop (i + 1) = m2[s][i] :: m2[s].drop (i + 1)) = false := by
        rw [decide_eq_false_iff_not, List.cons.injEq]; exact fun h => hc h.1
      rw [e]
      simp only [hc, decide_false, Bool.not_false, if_true]
      rfl

theorem s2001 (m1 : List (List Move)) (a1 : List Int) (m2 : List (List Move)) (a2 : List Int) (hn : m1.length ≤ 1000000) (hn2 : ∀ l ∈ m1, l.length ≤ 1000000) (hl : m1.length = m2.length) : ∀ k i, i + k = m1.length →
    S 2001 (((m1.length : Int), (i : Int), ()), (m1, a1, ()), (m2, a2, ()), ()) (endB (decide (m1.drop i = m2.drop i))) := by
  intro k
  induction k with
  | zero =>
    intro i hi
    refine r2001 _ _ _ _ _ _ ?_
    have h1 : ¬ (i : Int) < (m1.length : Int) := by omega
    rw [List.drop_eq_nil_of_le (show m1.length ≤ i by omega), List.drop_eq_nil_of_le (show m2.length ≤ i by omega)]
    simp only [l20_0, wp_ite, h1, decide_false, Bool.false_eq_true, if_false, wp_ret]
    rfl
  | succ k ih =>
    intro i hi
    refine r2001 _ _ _ _ _ _ ?_
    have hlt : i < m1.length := by omega
    have hlt' : i < m2.length := by omega
    have h1 : (i : Int) < (m1.length : Int) := by omega
    have h1' : (i : Int) < (m2.length : Int) := by omega
    have h0 : (0 : Int) ≤ (i : Int) := by omega
    rw [drop_at hlt, drop_at hlt']
    simp only [l20_0, wp_ite, wp_chk, wp_ret, getD_at hlt, getD_at hlt', h1, h1', h0, decide_true, if_true, true_and]
    by_cases hc : m1[i].length = m2[i].length
    · have h2 : ((m1[i].length : Int) != (m2[i].length : Int)) = false := by simp [hc]
      simp only [h2, Bool.false_eq_true, if_false, wp_act]
      have hb := s2002 i m1.length m1 a1 m2 a2 hlt hlt' (hn2 _ (List.getElem_mem _)) hc m1[i].length 0 (by omega)
      rw [List.drop_zero, List.drop_zero] at hb
      refine ⟨_, hb, ?_⟩
      by_cases he : m1[i] = m2[i]
      · have e : decide (m1[i] :: m1.drop (i + 1) = m2[i] :: m2.drop (i + 1)) = decide (m1.drop (i + 1) = m2.drop (i + 1)) := by
          rw [decide_eq_decide, List.cons.injEq]; simp only [he, true_and]
        rw [e, decide_eq_true he]
        show S 2001 (((m1.length : Int), IntKind.wrap IntKind.i64 ((i : Int) + 1), ()), (m1, a1, ()), (m2, a2, ()), ()) _
        rw [wsucc hlt hn]
        exact ih (i + 1) (by omega)
      · have e : decide (m1[i] :: m1.drop (i + 1) = m2[i] :: m2.drop (i + 1)) = false := by
          rw [decide_eq_false_iff_not, List.cons.injEq]; exact fun h => he h.1
        rw [e, decide_eq_false he]
        rfl
    · have h2 : ((m1[i].length : Int) != (m2[i].length : Int)) = true := by simp; omega
      have e : decide (m1[i] :: m1.drop (i + 1) = m2[i] :: m2.drop (i + 1)) = false := by
        rw [decide_eq_false_iff_not, List.cons.injEq]; exact fun h => hc (by rw [h.1])
      rw [e]
      simp only [h2, if_true]
      rfl

theorem s2000 (m1 : List (List Move)) (a1 : List Int) (m2 : List (List Move)) (a2 : List Int) (hn : m1.length ≤ 1000000) (hn2 : ∀ l ∈ m1, l.length ≤ 1000000) (ha : a1.length ≤ 1000000) :
    S 2000 (((m1, a1), (m2, a2), ()), ()) ((decide (m1 = m2 ∧ a1 = a2), ()), ()) := by
  refine r2000 _ _ _ _ ?_
  simp only [t20, wp_act]
  refine ⟨_, s1500 a1 a2 ha, ?_⟩
  simp only [wp_ite]
  by_cases he : a1 = a2
  · by_cases hl : m1.length = m2.length
    · have h1 : ((m1.length : Int) != (m2.length : Int)) = false := by simp [hl]
      simp only [he, decide_true, Bool.not_true, Bool.false_or, h1, Bool.false_eq_true, if_false, wp_act, and_true]
      have hb := s2001 m1 a2 m2 a2 hn hn2 hl m1.length 0 (by omega)
      rw [List.drop_zero, List.drop_zero] at hb
      refine ⟨_, hb, ?_⟩
      cases decide (m1 = m2) <;> rfl
    · have h1 : ((m1.length : Int) != (m2.length : Int)) = true := by simp; omega
      have h2 : ¬ (m1 = m2 ∧ a1 = a2) := fun h => hl (by rw [h.1])
      simp only [he, decide_true, Bool.not_true, Bool.false_or, h1, if_true, wp_ret]
      have h3 : ¬ (m1 = m2 ∧ True) := fun h => hl (by rw [h.1])
      simp only [h3, decide_false]
  · have h2 : ¬ (m1 = m2 ∧ a1 = a2) := fun h => he h.2
    simp only [he, decide_false, Bool.not_false, Bool.true_or, if_true, wp_ret, and_false]

end Go.Proofs.YtjmnjimlkljhjaaV

/- Whether an automaton may be: the two ways. -/
set_option linter.unusedVariables false
namespace Go.Proofs.YtjmnjimlkljhjaaV
open Go Go.Proofs

def TyM (m : Move) : Prop := 0 ≤ m.1 ∧ m.1 ≤ 255 ∧ 0 ≤ m.2.1 ∧ m.2.1 ≤ 255 ∧ -9223372036854775808 ≤ m.2.2 ∧ m.2.2 ≤ 9223372036854775807

/-- A state's moves, behind one that ended at e and led to t. -/
def okL (n : Int) : Int → Int → List Move → Bool
  | _, _, [] => true
  | e, t, m :: l => !(decide (m.1 > m.2.1) || decide (m.2.2 < 0) || decide (m.2.2 ≥ n) || decide (m.1 ≤ e) || (m.1 == e + 1 && m.2.2 == t)) && okL n m.2.1 m.2.2 l

def okA (d : Dfa) : Bool :=
  decide (1 ≤ d.1.length) && decide (d.1.length ≤ 2000) && decide (d.2.length = d.1.length) && d.2.all (fun a => decide (-1 ≤ a)) && d.1.all (okL (d.1.length : Int) (-1) (-1))

/-- What ended ahead of the i-th. -/
def prevE (l : List Move) : Nat → Int
  | 0 => -1
  | i + 1 => (l.getD i (0, 0, 0)).2.1
def prevT (l : List Move) : Nat → Int
  | 0 => -1
  | i + 1 => (l.getD i (0, 0, 0)).2.2

abbrev out30 {A : Type} (b : Bool) (a : A) : A ⊕ (Int × PUnit) × PUnit := if b = true then .inl a else .inr ((30, ()), ())

theorem s1202 (n : Int) (s : Nat) (x2 : Int) (ms : List (List Move)) (ac : List Int) (hs : s < ms.length) (hn : ms[s].length ≤ 1000000) (hty : ∀ m ∈ ms[s], TyM m) : ∀ k i, i + k = ms[s].length →
    S 1202 ((n, (s : Int), x2, (s : Int), ms[s], (ms[s].length : Int), (i : Int), ()), (ms, ac, ()), ()) (out30 (okL n (prevE ms[s] i) (prevT ms[s] i) (ms[s].drop i)) ((n, x2, (s : Int), ()), (ms, ac, ()), ())) := by
  intro k
  induction k with
  | zero =>
    intro i hi
    refine r1202 _ _ _ _ _ _ _ _ _ ?_
    have h1 : ¬ (i : Int) < (ms[s].length : Int) := by omega
    rw [List.drop_eq_nil_of_le (show ms[s].length ≤ i by omega)]
    simp only [l12_1, wp_ite, h1, decide_false, Bool.false_eq_true, if_false, wp_ret]
    rfl
  | succ k ih =>
    intro i hi
    refine r1202 _ _ _ _ _ _ _ _ _ ?_
    have hlt : i < ms[s].length := by omega
    have h1 : (i : Int) < (ms[s].length : Int) := by omega
    have h0 : (0 : Int) ≤ (i : Int) := by omega
    have h2 : (0 : Int) ≤ (s : Int) := by omega
    have h3 : (s : Int) < (ms.length : Int) := by omega
    have ht := hty _ (List.getElem_mem hlt)
    have ih := ih (i + 1) (by omega)
    rw [drop_at hlt]
    have eok : okL n (prevE ms[s] i) (prevT ms[s] i) (ms[s][i] :: ms[s].drop (i + 1)) =
        (!(decide (ms[s][i].1 > ms[s][i].2.1) || decide (ms[s][i].2.2 < 0) || decide (ms[s][i].2.2 ≥ n) || decide (ms[s][i].1 ≤ prevE ms[s] i) || (ms[s][i].1 == prevE ms[s] i + 1 && ms[s][i].2.2 == prevT ms[s] i)) && okL n ms[s][i].2.1 ms[s][i].2.2 (ms[s].drop (i + 1))) := rfl
    have e1 : prevE ms[s] (i + 1) = ms[s][i].2.1 := by simp [prevE, List.getD_eq_getElem?_getD, hlt]
    have e2 : prevT ms[s] (i + 1) = ms[s][i].2.2 := by simp [prevT, List.getD_eq_getElem?_getD, hlt]
    rw [e1, e2] at ih
    simp only [l12_1, wp_ite, wp_chk, wp_ret, getD_at hs, getD_at hlt, wsucc hlt hn, h1, h0, h2, h3, decide_true, if_true, true_and]
    cases hb : (decide (ms[s][i].1 > ms[s][i].2.1) || decide (ms[s][i].2.2 < 0) || decide (ms[s][i].2.2 ≥ n)) with
    | true =>
      rw [eok, hb]
      simp only [if_true]
      rfl
    | false =>
      simp only [Bool.false_eq_true, if_false]
      cases i with
      | zero =>
        have e3 : ((ms[s][0].1 == prevE ms[s] 0 + 1) && (ms[s][0].2.2 == prevT ms[s] 0)) = false := by
          simp only [Bool.or_eq_false_iff, decide_eq_false_iff_not] at hb
          simp only [prevE, prevT, Bool.and_eq_false_iff, beq_eq_false_iff_ne]
          omega
        have hp : prevE ms[s] 0 = -1 := rfl
        have e4 : decide (ms[s][0].1 ≤ prevE ms[s] 0) = false := by
          rw [hp, decide_eq_false_iff_not]
          have := ht.1; omega
        rw [eok, hb, e3, e4]
        have e5 : (((0 : Nat) : Int) == 0) = true := rfl
        simp only [e5, if_true, Bool.or_self, Bool.not_false, Bool.true_and]
        exact ih
      | succ j =>
        have hj : j < ms[s].length := by omega
        have htj := hty _ (List.getElem_mem hj)
        have e5 : (((j + 1 : Nat) : Int) == 0) = false := by simp; omega
        have e6 : IntKind.wrap IntKind.i64 (((j + 1 : Nat) : Int) - 1) = (j : Int) := by rw [w64 (by omega)]; omega
        have e7 : prevE ms[s] (j + 1) = ms[s][j].2.1 := by simp [prevE, List.getD_eq_getElem?_getD, hj]
        have e8 : prevT ms[s] (j + 1) = ms[s][j].2.2 := by simp [prevT, List.getD_eq_getElem?_getD, hj]
        have e9 : (0 : Int) ≤ (j : Int) := by omega
        have e10 : (j : Int) < (ms[s].length : Int) := by omega
        have e11 : IntKind.wrap IntKind.i64 ms[s][j + 1].1 = ms[s][j + 1].1 := w64 (by have := ht.1; have := ht.2.1; omega)
        have e12 : IntKind.wrap IntKind.i64 (IntKind.wrap IntKind.i64 ms[s][j].2.1 + 1) = ms[s][j].2.1 + 1 := by
          have h4 := htj.2.2.1
          have h5 := htj.2.2.2.1
          rw [w64 (n := ms[s][j].2.1) (by omega), w64 (by omega)]
        rw [eok, hb, e7, e8]
        simp only [e5, e6, e9, e10, e11, e12, getD_at hj, Bool.false_eq_true, if_false, decide_true, true_and, Bool.false_or]
        cases hc : decide (ms[s][j + 1].1 ≤ ms[s][j].2.1) with
        | true => simp only [if_true]; rfl
        | false =>
          simp only [Bool.false_eq_true, if_false, Bool.false_or]
          cases hd : (ms[s][j + 1].1 == ms[s][j].2.1 + 1 && ms[s][j + 1].2.2 == ms[s][j].2.2) with
          | true => simp only [if_true]; rfl
          | false =>
            simp only [Bool.false_eq_true, if_false, Bool.not_false, Bool.true_and]
            exact ih

def okR (n : Int) : List Int → List (List Move) → Bool
  | a :: bs, l :: ls => (decide (-1 ≤ a) && okL n (-1) (-1) l) && okR n bs ls
  | _, _ => true

theorem okR_eq (n : Int) : ∀ (bs : List Int) (ls : List (List Move)), bs.length = ls.length → okR n bs ls = (bs.all (fun a => decide (-1 ≤ a)) && ls.all (okL n (-1) (-1))) := by
  intro bs
  induction bs with
  | nil => intro ls h; cases ls with
    | nil => rfl
    | cons l ls => simp at h
  | cons a bs ih =>
    intro ls h
    cases ls with
    | nil => simp at h
    | cons l ls =>
      simp only [okR, List.all_cons]
      rw [ih ls (by simpa using h)]
      cases decide (-1 ≤ a) <;> cases okL n (-1) (-1) l <;> cases bs.all (fun a => decide (-1 ≤ a)) <;> rfl

theorem s1201 (ms : List (List Move)) (ac : List Int) (hl : ac.length = ms.length) (hn : ms.length ≤ 1000000) (hn2 : ∀ l ∈ ms, l.length ≤ 1000000) (hty : ∀ l ∈ ms, ∀ m ∈ l, TyM m) : ∀ k i, i + k = ms.length →
    S 1201 (((ms.length : Int), (ms.length : Int), (i : Int), ()), (ms, ac, ()), ()) (out30 (okR (ms.length : Int) (ac.drop i) (ms.drop i)) ((), ())) := by
  intro k
  induction k with
  | zero =>
    intro i hi
    refine r1201 _ _ _ _ _ ?_
    have h1 : ¬ (i : Int) < (ms.length : Int) := by omega
    rw [List.drop_eq_nil_of_le (show ms.length ≤ i by omega), List.drop_eq_nil_of_le (show ac.length ≤ i by omega)]
    simp only [l12_0, wp_ite, h1, decide_false, Bool.false_eq_true, if_false, wp_ret]
    rfl
  | succ k ih =>
    intro i hi
    refine r1201 _ _ _ _ _ ?_
    have hlt : i < ms.length := by omega
    have hlt' : i < ac.length := by omega
    have h1 : (i : Int) < (ms.length : Int) := by omega
    have h1' : (i : Int) < (ac.length : Int) := by omega
    have h0 : (0 : Int) ≤ (i : Int) := by omega
    rw [drop_at hlt, drop_at hlt']
    simp only [l12_0, wp_ite, wp_chk, wp_ret, getD_at hlt, getD_at hlt', h1, h1', h0, decide_true, if_true, true_and]
    by_cases hc : ac[i] < -1
    · have e : okR (ms.length : Int) (ac[i] :: ac.drop (i + 1)) (ms[i] :: ms.drop (i + 1)) = false := by
        have : decide (-1 ≤ ac[i]) = false := by simp; omega
        simp only [okR, this, Bool.false_and]
      rw [e]
      simp only [hc, decide_true, if_true]
      rfl
    · simp only [hc, decide_false, Bool.false_eq_true, if_false, wp_act]
      have hb := s1202 (ms.length : Int) i (ms.length : Int) ms ac hlt (hn2 _ (List.getElem_mem hlt)) (hty _ (List.getElem_mem hlt)) ms[i].length 0 (by omega)
      rw [List.drop_zero] at hb
      refine ⟨_, hb, ?_⟩
      have hc' : decide (-1 ≤ ac[i]) = true := by simp; omega
      have e : okR (ms.length : Int) (ac[i] :: ac.drop (i + 1)) (ms[i] :: ms.drop (i + 1)) = (okL (ms.length : Int) (-1) (-1) ms[i] && okR (ms.length : Int) (ac.drop (i + 1)) (ms.drop (i + 1))) := by
        simp only [okR, hc', Bool.true_and]
      rw [e]
      show Tree.wp _ _ _
      have e2 : okL (ms.length : Int) (prevE ms[i] 0) (prevT ms[i] 0) ms[i] = okL (ms.length : Int) (-1) (-1) ms[i] := rfl
      rw [e2]
      cases okL (ms.length : Int) (-1) (-1) ms[i] with
      | false => rfl
      | true =>
        rw [Bool.true_and]
        show S 1201 (((ms.length : Int), (ms.length : Int), IntKind.wrap IntKind.i64 ((i : Int) + 1), ()), (ms, ac, ()), ()) _
        rw [wsucc hlt hn]
        exact ih (i + 1) (by omega)

theorem s1200 (ms : List (List Move)) (ac : List Int) (hn : ms.length ≤ 1000000) (hn2 : ∀ l ∈ ms, l.length ≤ 1000000) (hty : ∀ l ∈ ms, ∀ m ∈ l, TyM m) :
    S 1200 (((ms, ac), ()), ()) ((if okA (ms, ac) = true then 0 else 30, ()), ()) := by
  refine r1200 _ _ ?_
  simp only [t12, wp_ite]
  by_cases h : 1 ≤ ms.length ∧ ms.length ≤ 2000 ∧ ac.length = ms.length
  · have h1 : (decide ((ms.length : Int) < 1) || decide ((ms.length : Int) > 2000) || (ac.length : Int) != (ms.length : Int)) = false := by
      simp only [Bool.or_eq_false_iff, decide_eq_false_iff_not, bne_eq_false_iff_eq]; omega
    simp only [h1, Bool.false_eq_true, if_false, wp_act]
    have hb := s1201 ms ac h.2.2 hn hn2 hty ms.length 0 (by omega)
    rw [List.drop_zero, List.drop_zero, okR_eq _ _ _ h.2.2] at hb
    refine ⟨_, hb, ?_⟩
    have e : okA (ms, ac) = (ac.all (fun a => decide (-1 ≤ a)) && ms.all (okL (ms.length : Int) (-1) (-1))) := by
      simp only [okA, h.1, h.2.1, h.2.2, decide_true, Bool.true_and]
    rw [e]
    cases (ac.all (fun a => decide (-1 ≤ a)) && ms.all (okL (ms.length : Int) (-1) (-1))) <;> rfl
  · have h1 : (decide ((ms.length : Int) < 1) || decide ((ms.length : Int) > 2000) || (ac.length : Int) != (ms.length : Int)) = true := by
      simp only [Bool.or_eq_true, decide_eq_true_eq, bne_iff_ne]; omega
    simp only [h1, if_true, wp_ret]
    have e : okA (ms, ac) = false := by
      have : (decide (1 ≤ ms.length) && decide (ms.length ≤ 2000) && decide (ac.length = ms.length)) = false := by
        simp only [Bool.and_eq_false_iff, decide_eq_false_iff_not]; omega
      simp only [okA, this, Bool.false_and]
    rw [e]
    rfl

/-! ### the program's own way -/
theorem s3301 (l : List Int) (hn : l.length ≤ 1000000) : ∀ k i x, i + k = l.length → S 3301 ((l, x, (i : Int), ()), ()) (((l.drop i).foldl imin x, ()), ()) := by
  intro k
  induction k with
  | zero =>
    intro i x hi
    refine r3301 _ _ _ ?_
    have h1 : ¬ (i : Int) < (l.length : Int) := by omega
    rw [List.drop_eq_nil_of_le (show l.length ≤ i by omega)]
    simp only [l33_0, wp_ite, h1, decide_false, Bool.false_eq_true, if_false, wp_ret]
    rfl
  | succ k ih =>
    intro i x hi
    refine r3301 _ _ _ ?_
    have hlt : i < l.length := by omega
    have h1 : (i : Int) < (l.length : Int) := by omega
    have h0 : (0 : Int) ≤ (i : Int) := by omega
    rw [drop_at hlt, List.foldl_cons]
    simp only [l33_0, wp_ite, wp_chk, wp_ret, getD_at hlt, wsucc hlt hn, h1, h0, decide_true, if_true, true_and]
    exact ih (i + 1) _ (by omega)

theorem imin_fold (l : List Int) : ∀ x, (l.foldl imin x < -1) ↔ (x < -1 ∨ ∃ a ∈ l, a < -1) := by
  induction l with
  | nil => intro x; simp
  | cons b l ih =>
    intro x
    rw [List.foldl_cons, ih]
    simp only [List.mem_cons, exists_eq_or_imp]
    have : imin x b < -1 ↔ x < -1 ∨ b < -1 := by unfold imin; split <;> omega
    rw [this]
    constructor
    · rintro ((h | h) | h)
      · exact .inl h
      · exact .inr (.inl h)
      · exact .inr (.inr h)
    · rintro (h | h | h)
      · exact .inl (.inl h)
      · exact .inl (.inr h)
      · exact .inr h

theorem s3300 (l : List Int) (hn : l.length ≤ 1000000) (hp : 0 < l.length) : ∃ v, S 3300 ((l, ()), ()) ((v, ()), ()) ∧ (v < -1 ↔ ∃ a ∈ l, a < -1) := by
  refine ⟨(l.drop 1).foldl imin (l.getD 0 0), ?_, ?_⟩
  · refine r3300 _ ?_
    have h1 : ¬ ((l.length : Int) < 1) := by omega
    have h2 : (0 : Int) < (l.length : Int) := by omega
    simp only [t33, wp_ite, h1, decide_false, Bool.false_eq_true, if_false, wp_chk, h2, decide_true, true_and, wp_act]
    exact ⟨_, s3301 l hn (l.length - 1) 1 _ (by omega), rfl⟩
  · rw [imin_fold]
    cases l with
    | nil => simp at hp
    | cons a l => simp

theorem s2602 (ms : List (List Move)) (l : List Move) (s : Nat) (n' : Int) (ac : List Int) (hn : l.length ≤ 1000000) (hty : ∀ m ∈ l, TyM m) : ∀ k i (e : Int) (p q t : Int), i + k = l.length → -1 ≤ e → e ≤ 255 → ((e = -1 ∧ t = -1) ∨ 0 ≤ e) →
    S 2602 ((e, ms, n', (s : Int), l, (l.length : Int), (i : Int), ()), (ms, ac, ()), (p, q, t, ()), ()) (out30 (okL (ms.length : Int) e t (l.drop i)) ((ms, n', (s : Int), ()), (ms, ac, ()), ())) := by
  intro k
  induction k with
  | zero =>
    intro i e p q t hi _ _ _
    refine r2602 _ _ _ _ _ _ _ _ _ _ _ _ ?_
    have h1 : ¬ (i : Int) < (l.length : Int) := by omega
    rw [List.drop_eq_nil_of_le (show l.length ≤ i by omega)]
    simp only [l26_1, wp_ite, h1, decide_false, Bool.false_eq_true, if_false, wp_ret]
    rfl
  | succ k ih =>
    intro i e p q t hi he1 he2 het
    refine r2602 _ _ _ _ _ _ _ _ _ _ _ _ ?_
    have hlt : i < l.length := by omega
    have h1 : (i : Int) < (l.length : Int) := by omega
    have h0 : (0 : Int) ≤ (i : Int) := by omega
    have ht := hty _ (List.getElem_mem hlt)
    obtain ⟨t1, t2, t3, t4, t5, t6⟩ := ht
    rw [drop_at hlt]
    have eok : okL (ms.length : Int) e t (l[i] :: l.drop (i + 1)) =
        (!(decide (l[i].1 > l[i].2.1) || decide (l[i].2.2 < 0) || decide (l[i].2.2 ≥ (ms.length : Int)) || decide (l[i].1 ≤ e) || (l[i].1 == e + 1 && l[i].2.2 == t)) && okL (ms.length : Int) l[i].2.1 l[i].2.2 (l.drop (i + 1))) := rfl
    rw [eok]
    have e1 : IntKind.wrap IntKind.i64 l[i].1 = l[i].1 := w64 (by omega)
    have e2 : IntKind.wrap IntKind.i64 l[i].2.1 = l[i].2.1 := w64 (by omega)
    have e3 : IntKind.wrap IntKind.i64 (e + 1) = e + 1 := w64 (by omega)
    simp only [l26_1, wp_ite, wp_chk, wp_ret, getD_at hlt, wsucc hlt hn, h1, h0, decide_true, if_true, true_and, e1, e2, e3]
    cases hb : (decide (l[i].1 > l[i].2.1) || decide (l[i].2.2 < 0) || decide (l[i].2.2 ≥ (ms.length : Int)) || decide (l[i].1 ≤ e)) with
    | true => simp only [if_true]; rfl
    | false =>
      simp only [Bool.false_eq_true, if_false, Bool.false_or]
      cases hd : (l[i].1 == e + 1 && l[i].2.2 == t) with
      | true => simp only [if_true]; rfl
      | false =>
        simp only [Bool.false_eq_true, if_false, Bool.not_false, Bool.true_and]
        exact ih (i + 1) _ _ _ _ (by omega) (by omega) (by omega) (by omega)

theorem s2601 (ms : List (List Move)) (ac : List Int) (hn : ms.length ≤ 1000000) (hn2 : ∀ l ∈ ms, l.length ≤ 1000000) (hty : ∀ l ∈ ms, ∀ m ∈ l, TyM m) : ∀ k i, i + k = ms.length →
    S 2601 ((ms, (ms.length : Int), (i : Int), ()), (ms, ac, ()), ()) (out30 ((ms.drop i).all (okL (ms.length : Int) (-1) (-1))) ((), ())) := by
  intro k
  induction k with
  | zero =>
    intro i hi
    refine r2601 _ _ _ _ _ ?_
    have h1 : ¬ (i : Int) < (ms.length : Int) := by omega
    rw [List.drop_eq_nil_of_le (show ms.length ≤ i by omega)]
    simp only [l26_0, wp_ite, h1, decide_false, Bool.false_eq_true, if_false, wp_ret]
    rfl
  | succ k ih =>
    intro i hi
    refine r2601 _ _ _ _ _ ?_
    have hlt : i < ms.length := by omega
    have h1 : (i : Int) < (ms.length : Int) := by omega
    have h0 : (0 : Int) ≤ (i : Int) := by omega
    rw [drop_at hlt, List.all_cons]
    simp only [l26_0, wp_ite, wp_chk, wp_ret, getD_at hlt, h1, h0, decide_true, if_true, true_and, wp_act]
    have hb := s2602 ms ms[i] i (ms.length : Int) ac (hn2 _ (List.getElem_mem hlt)) (hty _ (List.getElem_mem hlt)) ms[i].length 0 (-1) 0 0 (-1) (by omega) (by omega) (by omega) (.inl ⟨rfl, rfl⟩)
    rw [List.drop_zero] at hb
    refine ⟨_, hb, ?_⟩
    cases okL (ms.length : Int) (-1) (-1) ms[i] with
    | false => rfl
    | true =>
      rw [Bool.true_and]
      show S 2601 ((ms, (ms.length : Int), IntKind.wrap IntKind.i64 ((i : Int) + 1), ()), (ms, ac, ()), ()) _
      rw [wsucc hlt hn]
      exact ih (i + 1) (by omega)

theorem s2600 (ms : List (List Move)) (ac : List Int) (hn : ms.length ≤ 1000000) (hn2 : ∀ l ∈ ms, l.length ≤ 1000000) (hty : ∀ l ∈ ms, ∀ m ∈ l, TyM m) :
    S 2600 (((ms, ac), ()), ()) ((if okA (ms, ac) = true then 0 else 30, ()), ()) := by
  refine r2600 _ _ ?_
  simp only [t26, wp_ite]
  by_cases h : 1 ≤ ms.length ∧ ms.length ≤ 2000 ∧ ac.length = ms.length
  · have h1 : ((ms.length : Int) == 0 || decide ((ms.length : Int) > 2000) || (ac.length : Int) != (ms.length : Int)) = false := by
      simp only [Bool.or_eq_false_iff, decide_eq_false_iff_not, bne_eq_false_iff_eq, beq_eq_false_iff_ne]; omega
    simp only [h1, Bool.false_eq_true, if_false, wp_act]
    obtain ⟨v, hv, hvi⟩ := s3300 ac (by omega) (by omega)
    refine ⟨_, hv, ?_⟩
    simp only [wp_ite]
    have e : okA (ms, ac) = (ac.all (fun a => decide (-1 ≤ a)) && ms.all (okL (ms.length : Int) (-1) (-1))) := by
      simp only [okA, h.1, h.2.1, h.2.2, decide_true, Bool.true_and]
    rw [e]
    by_cases hc : v < -1
    · obtain ⟨a, ha, hlt⟩ := hvi.1 hc
      have e2 : ac.all (fun a => decide (-1 ≤ a)) = false := by
        rw [List.all_eq_false]; exact ⟨a, ha, by simp; omega⟩
      rw [e2]
      simp only [hc, decide_true, if_true]
      rfl
    · have e2 : ac.all (fun a => decide (-1 ≤ a)) = true := by
        rw [List.all_eq_true]
        intro a ha
        rw [decide_eq_true_eq]
        rcases Int.lt_or_le a (-1) with h3 | h3
        · exact absurd (hvi.2 ⟨a, ha, h3⟩) hc
        · exact h3
      rw [e2, Bool.true_and]
      simp only [hc, decide_false, Bool.false_eq_true, if_false, wp_act]
      have hb := s2601 ms ac hn hn2 hty ms.length 0 (by omega)
      rw [List.drop_zero] at hb
      refine ⟨_, hb, ?_⟩
      cases ms.all (okL (ms.length : Int) (-1) (-1)) <;> rfl
  · have h1 : ((ms.length : Int) == 0 || decide ((ms.length : Int) > 2000) || (ac.length : Int) != (ms.length : Int)) = true := by
      simp only [Bool.or_eq_true, decide_eq_true_eq, bne_iff_ne, beq_iff_eq]; omega
    simp only [h1, if_true, wp_ret]
    have e : okA (ms, ac) = false := by
      have : (decide (1 ≤ ms.length) && decide (ms.length ≤ 2000) && decide (ac.length = ms.length)) = false := by
        simp only [Bool.and_eq_false_iff, decide_eq_false_iff_not]; omega
      simp only [okA, this, Bool.false_and]
    rw [e]
    rfl

end Go.Proofs.YtjmnjimlkljhjaaV

/- Where an automaton goes: the two ways; what a text comes to. -/
set_option linter.unusedVariables false
namespace Go.Proofs.YtjmnjimlkljhjaaV
open Go Go.Proofs

def nxL (c : Int) : List Move → Int
  | [] => -1
  | m :: l => if c ≥ m.1 ∧ c ≤ m.2.1 then m.2.2 else nxL c l

def nx (ms : List (List Move)) (s c : Int) : Int := if s < 0 ∨ s ≥ (ms.length : Int) then -1 else nxL c (ms.getD s.toNat [])

abbrev outI {A : Type} (o : Option Int) (a : A) : A ⊕ (Int × PUnit) × PUnit := match o with | none => .inl a | some v => .inr ((v, ()), ())

def nxO (c : Int) : List Move → Option Int
  | [] => none
  | m :: l => if c ≥ m.1 ∧ c ≤ m.2.1 then some m.2.2 else nxO c l

theorem nxO_eq (c : Int) : ∀ l, nxL c l = (nxO c l).getD (-1) := by
  intro l
  induction l with
  | nil => rfl
  | cons m l ih => simp only [nxL, nxO]; split; rfl; exact ih

theorem s2701 (c : Int) (l : List Move) (hn : l.length ≤ 1000000) : ∀ k i, i + k = l.length → S 2701 ((c, l, (l.length : Int), (i : Int), ()), ()) (outI (nxO c (l.drop i)) ((), ())) := by
  intro k
  induction k with
  | zero =>
    intro i hi
    refine r2701 _ _ _ _ ?_
    have h1 : ¬ (i : Int) < (l.length : Int) := by omega
    rw [List.drop_eq_nil_of_le (show l.length ≤ i by omega)]
    simp only [l27_0, wp_ite, h1, decide_false, Bool.false_eq_true, if_false, wp_ret]
    rfl
  | succ k ih =>
    intro i hi
    refine r2701 _ _ _ _ ?_
    have hlt : i < l.length := by omega
    have h1 : (i : Int) < (l.length : Int) := by omega
    have h0 : (0 : Int) ≤ (i : Int) := by omega
    rw [drop_at hlt]
    simp only [l27_0, wp_ite, wp_chk, wp_ret, getD_at hlt, wsucc hlt hn, h1, h0, decide_true, if_true, true_and]
    by_cases hc : c ≥ l[i].1 ∧ c ≤ l[i].2.1
    · have e : nxO c (l[i] :: l.drop (i + 1)) = some l[i].2.2 := by simp only [nxO, hc, and_self, if_true]
      rw [e]
      simp only [hc.1, hc.2, decide_true, Bool.and_self, if_true]
      rfl
    · have e : nxO c (l[i] :: l.drop (i + 1)) = nxO c (l.drop (i + 1)) := by simp only [nxO, hc, if_false]
      rw [e]
      have h2 : (decide (c ≥ l[i].1) && decide (c ≤ l[i].2.1)) = false := by
        rw [← Bool.decide_and, decide_eq_false_iff_not]; exact hc
      simp only [h2, Bool.false_eq_true, if_false]
      exact ih (i + 1) (by omega)

theorem s2700 (ms : List (List Move)) (ac : List Int) (s c : Int) (hn2 : ∀ l ∈ ms, l.length ≤ 1000000) : S 2700 (((ms, ac), s, c, ()), ()) ((nx ms s c, ()), ()) := by
  refine r2700 _ _ _ _ ?_
  simp only [t27, wp_ite]
  by_cases h : s < 0 ∨ s ≥ (ms.length : Int)
  · have h1 : (decide (s < 0) || decide (s ≥ (ms.length : Int))) = true := by rw [← Bool.decide_or, decide_eq_true_eq]; exact h
    simp only [h1, if_true, wp_ret, nx, if_pos h]
  · have h1 : (decide (s < 0) || decide (s ≥ (ms.length : Int))) = false := by rw [← Bool.decide_or, decide_eq_false_iff_not]; exact h
    obtain ⟨i, rfl⟩ : ∃ i : Nat, s = (i : Int) := ⟨s.toNat, by omega⟩
    have hlt : i < ms.length := by omega
    have h0 : (0 : Int) ≤ (i : Int) := by omega
    have h2 : (i : Int) < (ms.length : Int) := by omega
    simp only [h1, Bool.false_eq_true, if_false, wp_chk, h0, h2, decide_true, true_and, wp_act, getD_at hlt]
    have hb := s2701 c ms[i] (hn2 _ (List.getElem_mem hlt)) ms[i].length 0 (by omega)
    rw [List.drop_zero] at hb
    refine ⟨_, hb, ?_⟩
    have e : nx ms (i : Int) c = (nxO c ms[i]).getD (-1) := by
      simp only [nx, if_neg h, getD_at hlt, nxO_eq]
    rw [e]
    cases nxO c ms[i] <;> rfl

/-! ### the program's own search -/
def idx (c : Int) : List Move → Nat
  | [] => 0
  | m :: l => if m.2.1 < c then idx c l + 1 else 0

theorem idx_le (c : Int) : ∀ l, idx c l ≤ l.length := by
  intro l
  induction l with
  | nil => exact Nat.le_refl _
  | cons m l ih => simp only [idx, List.length_cons]; split <;> omega

theorem idx_lt (c : Int) : ∀ (l : List Move) (j : Nat) (h : j < l.length), j < idx c l → l[j].2.1 < c := by
  intro l
  induction l with
  | nil => intro j h; simp at h
  | cons m l ih =>
    intro j h hj
    simp only [idx] at hj
    split at hj
    · cases j with
      | zero => assumption
      | succ j => exact ih j (by simpa using h) (by omega)
    · omega

theorem idx_at (c : Int) : ∀ (l : List Move) (h : idx c l < l.length), c ≤ l[idx c l].2.1 := by
  intro l
  induction l with
  | nil => intro h; simp at h
  | cons m l ih =>
    intro h
    by_cases hm : m.2.1 < c
    · have e : idx c (m :: l) = idx c l + 1 := by simp only [idx, hm, if_true]
      simp only [e, List.getElem_cons_succ]
      exact ih (by rw [e] at h; simpa using h)
    · have e : idx c (m :: l) = 0 := by simp only [idx, hm, if_false]
      simp only [e, List.getElem_cons_zero]
      omega

/-- Ends that rise. -/
def Rise (l : List Move) : Prop := ∀ i j (hi : i < l.length) (hj : j < l.length), i ≤ j → l[i].2.1 ≤ l[j].2.1

theorem s3500 (i : Nat) (l : List Move) (c : Int) (h : i < l.length) : S 3500 (((i : Int), ()), (l, ()), (c, ()), ()) ((decide (l[i].2.1 ≥ c), ()), (l, ()), (c, ()), ()) := by
  refine r3500 _ _ _ ?_
  have h0 : (0 : Int) ≤ (i : Int) := by omega
  have h1 : (i : Int) < (l.length : Int) := by omega
  simp only [t35, wp_chk, wp_ret, h0, h1, decide_true, true_and, getD_at h]

theorem s3401 (l : List Move) (c : Int) (hn : l.length ≤ 1000000) (hr : Rise l) : ∀ k (lo hi : Nat), hi - lo ≤ k → lo ≤ idx c l → idx c l ≤ hi → hi ≤ l.length →
    S 3401 (((lo : Int), (hi : Int), ()), (l, ()), (c, ()), ()) (((idx c l : Int), ()), (l, ()), (c, ()), ()) := by
  intro k
  induction k with
  | zero =>
    intro lo hi h1 h2 h3 h4
    have e : lo = idx c l := by omega
    refine r3401 _ _ _ _ ?_
    have h5 : ¬ ((lo : Int) < (hi : Int)) := by omega
    simp only [l34_0, wp_ite, h5, decide_false, Bool.false_eq_true, if_false, wp_ret]
    rw [e]
    rfl
  | succ k ih =>
    intro lo hi h1 h2 h3 h4
    refine r3401 _ _ _ _ ?_
    by_cases h5 : (lo : Int) < (hi : Int)
    · have e : IntKind.wrap IntKind.i64 (Int.fdiv (IntKind.wrap IntKind.u64 (IntKind.wrap IntKind.i64 ((lo : Int) + (hi : Int)))) 2) = (((lo + hi) / 2 : Nat) : Int) := by
        rw [w64 (n := (lo : Int) + hi) (by omega), IntWalk.u64_in _ (by omega), Int.fdiv_eq_ediv_of_nonneg _ (by omega), w64 (by omega)]
        omega
      have hm : (lo + hi) / 2 < l.length := by omega
      have e2 : IntKind.wrap IntKind.i64 ((((lo + hi) / 2 : Nat) : Int) + 1) = (((lo + hi) / 2 + 1 : Nat) : Int) := by
        rw [w64 (by omega)]; omega
      simp only [l34_0, wp_ite, h5, decide_true, if_true, wp_chk, true_and, wp_act, e, e2]
      refine ⟨_, s3500 _ l c hm, ?_⟩
      simp only [wp_ite, wp_ret]
      by_cases hc : l[(lo + hi) / 2].2.1 ≥ c
      · simp only [hc, decide_true, Bool.not_true, Bool.false_eq_true, if_false]
        refine ih lo ((lo + hi) / 2) (by omega) h2 ?_ (by omega)
        rcases Nat.lt_or_ge ((lo + hi) / 2) (idx c l) with h6 | h6
        · have := idx_lt c l _ hm h6; omega
        · exact h6
      · simp only [hc, decide_false, Bool.not_false, if_true]
        refine ih ((lo + hi) / 2 + 1) hi (by omega) ?_ h3 h4
        rcases Nat.lt_or_ge ((lo + hi) / 2) (idx c l) with h6 | h6
        · exact h6
        · have h7 : idx c l < l.length := by omega
          have h8 := idx_at c l h7
          have := hr _ _ h7 hm h6
          omega
    · have e : lo = idx c l := by omega
      simp only [l34_0, wp_ite, h5, decide_false, Bool.false_eq_true, if_false, wp_ret]
      rw [e]
      rfl

theorem s3400 (l : List Move) (c : Int) (hn : l.length ≤ 1000000) (hr : Rise l) : S 3400 (((l.length : Int), ()), (l, ()), (c, ()), ()) (((idx c l : Int), ()), (l, ()), (c, ()), ()) := by
  refine r3400 _ _ _ ?_
  simp only [t34, wp_act]
  exact ⟨_, s3401 l c hn hr l.length 0 l.length (by omega) (by omega) (idx_le c l) (Nat.le_refl _), rfl⟩

/-- What moves that may be are like. -/
theorem okL_lo {n : Int} : ∀ {l : List Move} {e t : Int}, okL n e t l = true → ∀ m ∈ l, e < m.1 ∧ m.1 ≤ m.2.1 ∧ 0 ≤ m.2.2 ∧ m.2.2 < n := by
  intro l
  induction l with
  | nil => intro e t _ m hm; cases hm
  | cons x l ih =>
    intro e t h m hm
    simp only [okL, Bool.and_eq_true, Bool.not_eq_true', Bool.or_eq_false_iff, decide_eq_false_iff_not] at h
    obtain ⟨⟨⟨⟨⟨h1, h2⟩, h3⟩, h4⟩, _⟩, h5⟩ := h
    rcases List.mem_cons.1 hm with rfl | hm
    · omega
    · have := ih h5 m hm; omega

theorem okL_rise {n : Int} : ∀ {l : List Move} {e t : Int}, okL n e t l = true → Rise l := by
  intro l
  induction l with
  | nil => intro e t _ i j hi; simp at hi
  | cons x l ih =>
    intro e t h i j hi hj hij
    have hx := okL_lo h x (by simp)
    simp only [okL, Bool.and_eq_true] at h
    cases i with
    | zero =>
      cases j with
      | zero => exact Int.le_refl _
      | succ j =>
        have hj' : j < l.length := by simpa using hj
        have := okL_lo h.2 l[j] (List.getElem_mem hj')
        simp only [List.getElem_cons_zero, List.getElem_cons_succ]
        omega
    | succ i =>
      cases j with
      | zero => omega
      | succ j => exact ih h.2 i j (by simpa using hi) (by simpa using hj) (by omega)

theorem nxL_idx {n : Int} (c : Int) : ∀ {l : List Move} {e t : Int}, okL n e t l = true → nxL c l = if h : idx c l < l.length then (if l[idx c l].1 > c then -1 else l[idx c l].2.2) else -1 := by
  intro l
  induction l with
  | nil => intro e t _; rfl
  | cons x l ih =>
    intro e t h
    have hx := okL_lo h x (by simp)
    simp only [okL, Bool.and_eq_true] at h
    by_cases hm : x.2.1 < c
    · have e1 : idx c (x :: l) = idx c l + 1 := by simp only [idx, hm, if_true]
      have e2 : nxL c (x :: l) = nxL c l := by
        have : ¬ (c ≥ x.1 ∧ c ≤ x.2.1) := by omega
        simp only [nxL, this, if_false]
      rw [e2, ih h.2]
      simp only [e1, List.length_cons, List.getElem_cons_succ, Nat.add_lt_add_iff_right]
    · have e1 : idx c (x :: l) = 0 := by simp only [idx, hm, if_false]
      simp only [e1, List.length_cons, List.getElem_cons_zero, Nat.zero_lt_succ, dif_pos]
      by_cases hc : x.1 > c
      · rw [if_pos hc]
        have e2 : nxL c (x :: l) = nxL c l := by
          have : ¬ (c ≥ x.1 ∧ c ≤ x.2.1) := by omega
          simp only [nxL, this, if_false]
        rw [e2]
        have hall : ∀ m ∈ l, x.2.1 < m.1 := fun m hm2 => (okL_lo h.2 m hm2).1
        clear ih h e2 e1
        induction l with
        | nil => rfl
        | cons y l ih2 =>
          have hy := hall y (by simp)
          have : ¬ (c ≥ y.1 ∧ c ≤ y.2.1) := by omega
          simp only [nxL, this, if_false]
          exact ih2 (fun m hm2 => hall m (by simp [hm2]))
      · rw [if_neg hc]
        have : c ≥ x.1 ∧ c ≤ x.2.1 := by omega
        simp only [nxL, this, and_self, if_true]

theorem s3000 (ms : List (List Move)) (ac : List Int) (s c : Int) (hn2 : ∀ l ∈ ms, l.length ≤ 1000000) (hok : ∀ l ∈ ms, okL (ms.length : Int) (-1) (-1) l = true) : S 3000 (((ms, ac), s, c, ()), ()) ((nx ms s c, ()), ()) := by
  refine r3000 _ _ _ _ ?_
  simp only [t30, wp_ite]
  by_cases h : s < 0 ∨ s ≥ (ms.length : Int)
  · have h1 : (decide (s < 0) || decide (s ≥ (ms.length : Int))) = true := by rw [← Bool.decide_or, decide_eq_true_eq]; exact h
    simp only [h1, if_true, wp_ret, nx, if_pos h]
  · have h1 : (decide (s < 0) || decide (s ≥ (ms.length : Int))) = false := by rw [← Bool.decide_or, decide_eq_false_iff_not]; exact h
    obtain ⟨i, rfl⟩ : ∃ i : Nat, s = (i : Int) := ⟨s.toNat, by omega⟩
    have hlt : i < ms.length := by omega
    have h0 : (0 : Int) ≤ (i : Int) := by omega
    have h2 : (i : Int) < (ms.length : Int) := by omega
    have hk := hok _ (List.getElem_mem hlt)
    simp only [h1, Bool.false_eq_true, if_false, wp_chk, h0, h2, decide_true, true_and, wp_act, getD_at hlt]
    refine ⟨_, s3400 ms[i] c (hn2 _ (List.getElem_mem hlt)) (okL_rise hk), ?_⟩
    have e : nx ms (i : Int) c = nxL c ms[i] := by simp only [nx, if_neg h, getD_at hlt]
    rw [e, nxL_idx c hk]
    simp only [wp_ite, wp_chk, wp_ret]
    by_cases h3 : idx c ms[i] < ms[i].length
    · have h4 : ((idx c ms[i] : Int) == (ms[i].length : Int)) = false := by simp; omega
      have h5 : (0 : Int) ≤ (idx c ms[i] : Int) := by omega
      have h6 : (idx c ms[i] : Int) < (ms[i].length : Int) := by omega
      rw [dif_pos h3]
      simp only [h4, Bool.false_eq_true, if_false, h5, h6, decide_true, true_and, getD_at h3, decide_eq_true_eq]
      by_cases h7 : ms[i][idx c ms[i]].1 > c
      · simp only [h7, if_true]
      · simp only [h7, if_false]
    · have h4 : ((idx c ms[i] : Int) == (ms[i].length : Int)) = true := by
        have := idx_le c ms[i]; simp; omega
      rw [dif_neg h3]
      simp only [h4, if_true]

/-! ### what a state accepts; what a text comes to -/
theorem s2900 (ms : List (List Move)) (ac : List Int) (s : Int) (h : s < (ac.length : Int)) : S 2900 (((ms, ac), s, ()), ()) ((if s < 0 then -1 else ac.getD s.toNat 0, ()), ()) := by
  refine r2900 _ _ _ ?_
  simp only [t29, wp_ite, wp_chk, wp_ret]
  by_cases h0 : s < 0
  · simp only [h0, decide_true, if_true]
  · have h1 : (0 : Int) ≤ s := by omega
    simp only [h0, h1, h, decide_false, Bool.false_eq_true, if_false, decide_true, true_and]

def toldF (ac : List Int) (s : Int) : Int := if s < 0 ∨ s ≥ (ac.length : Int) then -1 else ac.getD s.toNat 0

theorem s3100 (ms : List (List Move)) (ac : List Int) (s : Int) : S 3100 (((ms, ac), s, ()), ()) ((toldF ac s, ()), ()) := by
  refine r3100 _ _ _ ?_
  simp only [t31, wp_ite, wp_chk, wp_ret, toldF]
  by_cases h : s < 0 ∨ s ≥ (ac.length : Int)
  · have h1 : (decide (s < 0) || decide (s ≥ (ac.length : Int))) = true := by rw [← Bool.decide_or, decide_eq_true_eq]; exact h
    simp only [h1, if_true, if_pos h]
  · have h1 : (decide (s < 0) || decide (s ≥ (ac.length : Int))) = false := by rw [← Bool.decide_or, decide_eq_false_iff_not]; exact h
    have h2 : (0 : Int) ≤ s := by omega
    have h3 : s < (ac.length : Int) := by omega
    simp only [h1, Bool.false_eq_true, if_false, if_neg h, h2, h3, decide_true, true_and]

theorem s2900' (ms : List (List Move)) (ac : List Int) (s : Int) (h : s < (ac.length : Int)) : S 2900 (((ms, ac), s, ()), ()) ((toldF ac s, ()), ()) := by
  have := s2900 ms ac s h
  have e : toldF ac s = if s < 0 then -1 else ac.getD s.toNat 0 := by
    unfold toldF
    by_cases h0 : s < 0
    · simp [h0]
    · have : ¬ (s < 0 ∨ s ≥ (ac.length : Int)) := by omega
      rw [if_neg this, if_neg h0]
  rw [e]; exact this

/-- A text's bytes. -/
def bl (x : ByteArray) : List Int := (List.range x.size).map fun (i : Nat) => bt x (i : Int)

def runF (d : Dfa) (x : ByteArray) : Int := toldF d.2 ((bl x).foldl (nx d.1) 0)

theorem bl_len (x : ByteArray) : (bl x).length = x.size := by simp [bl]
theorem bl_at (x : ByteArray) (i : Nat) (h : i < (bl x).length) : (bl x)[i] = bt x (i : Int) := by simp [bl]

theorem s2301 (x : ByteArray) (ms : List (List Move)) (ac : List Int) (hx : x.size ≤ 1000000) (hn2 : ∀ l ∈ ms, l.length ≤ 1000000) : ∀ k i at0, i + k = x.size →
    S 2301 ((x, at0, (i : Int), ()), (ms, ac, ()), ()) (((((bl x).drop i).foldl (nx ms) at0), ()), (ms, ac, ()), ()) := by
  intro k
  induction k with
  | zero =>
    intro i at0 hi
    refine r2301 _ _ _ _ _ ?_
    have h1 : ¬ (i : Int) < (x.size : Int) := by omega
    rw [List.drop_eq_nil_of_le (show (bl x).length ≤ i by rw [bl_len]; omega)]
    simp only [l23_0, wp_ite, h1, decide_false, Bool.false_eq_true, if_false, wp_ret]
    rfl
  | succ k ih =>
    intro i at0 hi
    refine r2301 _ _ _ _ _ ?_
    have hlt : i < (bl x).length := by rw [bl_len]; omega
    have hlt' : i < x.size := by omega
    have h1 : (i : Int) < (x.size : Int) := by omega
    have h0 : (0 : Int) ≤ (i : Int) := by omega
    rw [drop_at hlt, List.foldl_cons, bl_at]
    simp only [l23_0, wp_ite, wp_chk, wp_ret, wsucc hlt' hx, h1, h0, decide_true, if_true, true_and, wp_act]
    exact ⟨_, s2700 ms ac at0 _ hn2, ih (i + 1) _ (by omega)⟩

theorem s2300 (ms : List (List Move)) (ac : List Int) (x : ByteArray) (hx : x.size ≤ 1000000) (hn2 : ∀ l ∈ ms, l.length ≤ 1000000) : S 2300 (((ms, ac), x, ()), ()) ((runF (ms, ac) x, ()), ()) := by
  refine r2300 _ _ _ ?_
  simp only [t23, wp_act]
  refine ⟨_, s2301 x ms ac hx hn2 x.size 0 0 (by omega), ?_⟩
  rw [List.drop_zero]
  simp only [wp_ite, wp_chk, wp_ret, runF, toldF]
  generalize (bl x).foldl (nx ms) 0 = s
  by_cases h : s < 0 ∨ s ≥ (ac.length : Int)
  · have h1 : (decide (s < 0) || decide (s ≥ (ac.length : Int))) = true := by rw [← Bool.decide_or, decide_eq_true_eq]; exact h
    simp only [h1, if_true, if_pos h]
  · have h1 : (decide (s < 0) || decide (s ≥ (ac.length : Int))) = false := by rw [← Bool.decide_or, decide_eq_false_iff_not]; exact h
    have h2 : (0 : Int) ≤ s := by omega
    have h3 : s < (ac.length : Int) := by omega
    simp only [h1, Bool.false_eq_true, if_false, if_neg h, h2, h3, decide_true, true_and]

end Go.Proofs.YtjmnjimlkljhjaaV

/- Which text tells two automata apart: the document's way. -/
set_option linter.unusedVariables false
set_option maxRecDepth 100000
namespace Go.Proofs.YtjmnjimlkljhjaaV
open Go Go.Proofs

/-- Two automata are told apart by the empty text, and so on: played. -/
theorem s1000 : S 1000 ((), ()) ((true, ()), ()) := run_ok table_ok 1500 1000 ((), ()) ((true, ()), ()) (by kernel_rfl)

abbrev Pr := Int × Int
abbrev Q1 := Pr × List Int

section
variable (δ : Pr → Int → Pr) (tell : Pr → Bool)

def ex1 (p : Pr) (t : List Int) (acc : List Q1) (c : Int) : List Q1 :=
  if acc.any (fun q => decide (q.1 = δ p c)) = true then acc else acc ++ [(δ p c, t ++ [c])]

def cs : List Int := (List.range 256).map fun (i : Nat) => (i : Int)

def exAll (p : Pr) (t : List Int) (acc : List Q1) : List Q1 := cs.foldl (ex1 δ p t) acc

def bfs : Nat → Nat → List Q1 → Option (Option (List Int))
  | 0, _, _ => none
  | f + 1, k, acc => match acc[k]? with
    | none => some none
    | some q => if tell q.1 = true then some (some q.2) else bfs f (k + 1) (exAll δ q.1 q.2 acc)
end

theorem cs_len : cs.length = 256 := by simp [cs]
theorem cs_at (i : Nat) (h : i < cs.length) : cs[i] = (i : Int) := by simp [cs]

theorem ex1_len (δ : Pr → Int → Pr) (p : Pr) (t : List Int) (acc : List Q1) (c : Int) : (ex1 δ p t acc c).length ≤ acc.length + 1 ∧ acc.length ≤ (ex1 δ p t acc c).length := by
  unfold ex1; split <;> simp

theorem fold_len (δ : Pr → Int → Pr) (p : Pr) (t : List Int) : ∀ (l : List Int) (acc : List Q1), (l.foldl (ex1 δ p t) acc).length ≤ acc.length + l.length ∧ acc.length ≤ (l.foldl (ex1 δ p t) acc).length := by
  intro l
  induction l with
  | nil => intro acc; simp
  | cons c l ih =>
    intro acc
    have h1 := ih (ex1 δ p t acc c)
    have h2 := ex1_len δ p t acc c
    simp only [List.foldl_cons, List.length_cons]
    omega

theorem ofBytes_app (a b : List Int) : ofBytes (a ++ b) = ofBytes a ++ ofBytes b := by
  apply ByteArray.ext
  simp [ofBytes]

theorem ofBytes_size (a : List Int) : (ofBytes a).size = a.length := by simp [ofBytes, ByteArray.size]

/-- A pair with its text, as the document's way holds it. -/
def toR (q : Q1) : Int × Int × ByteArray := (q.1.1, q.1.2, ofBytes q.2)

section
variable (m1 : List (List Move)) (a1 : List Int) (m2 : List (List Move)) (a2 : List Int)

abbrev δR (p : Pr) (c : Int) : Pr := (nx m1 p.1 c, nx m2 p.2 c)

theorem s2203 (k c : Int) (all : List (Int × Int × ByteArray)) (p : Int × Int × ByteArray) (n1 n2 : Int) (t : ByteArray) (hn : all.length ≤ 1000000) : ∀ j i (b : Bool), i + j = all.length →
    S 2203 ((k, c, b, (all.length : Int), (i : Int), ()), (m1, a1, ()), (m2, a2, ()), all, (p.1, p.2.1, p.2.2, ()), (n1, n2, t, ()), ())
      ((k, c, b || (all.drop i).any (fun o => o.1 == n1 && o.2.1 == n2), ()), (m1, a1, ()), (m2, a2, ()), all, (p.1, p.2.1, p.2.2, ()), (n1, n2, t, ()), ()) := by
  intro j
  induction j with
  | zero =>
    intro i b hi
    refine r2203 _ _ _ _ _ _ _ _ _ _ _ _ _ _ _ _ ?_
    have h1 : ¬ (i : Int) < (all.length : Int) := by omega
    rw [List.drop_eq_nil_of_le (show all.length ≤ i by omega)]
    simp only [l22_2, wp_ite, h1, decide_false, Bool.false_eq_true, if_false, wp_ret, List.any_nil, Bool.or_false]
    rfl
  | succ j ih =>
    intro i b hi
    refine r2203 _ _ _ _ _ _ _ _ _ _ _ _ _ _ _ _ ?_
    have hlt : i < all.length := by omega
    have h1 : (i : Int) < (all.length : Int) := by omega
    have h0 : (0 : Int) ≤ (i : Int) := by omega
    rw [drop_at hlt, List.any_cons]
    simp only [l22_2, wp_ite, wp_chk, wp_ret, getD_at hlt, wsucc hlt hn, h1, h0, decide_true, if_true, true_and]
    cases b with
    | true =>
      simp only [if_true, Bool.true_or]
      have := ih (i + 1) true (by omega)
      rw [Bool.true_or] at this
      exact this
    | false =>
      simp only [Bool.false_eq_true, if_false, Bool.false_or]
      exact ih (i + 1) _ (by omega)

theorem any_toR (acc : List Q1) (n : Pr) : (acc.map toR).any (fun o => o.1 == n.1 && o.2.1 == n.2) = acc.any (fun q => decide (q.1 = n)) := by
  induction acc with
  | nil => rfl
  | cons q acc ih =>
    rw [List.map_cons, List.any_cons, List.any_cons, ih]
    congr 1
    obtain ⟨⟨q1, q2⟩, t⟩ := q
    obtain ⟨n1, n2⟩ := n
    rw [Bool.eq_iff_iff]
    simp [toR]

theorem s2202 (h1 : ∀ l ∈ m1, l.length ≤ 1000000) (h2 : ∀ l ∈ m2, l.length ≤ 1000000) (k : Int) (q : Q1) (ht : q.2.length ≤ 1000000) : ∀ (j i : Nat) (acc : List Q1), i + j = 256 → acc.length + j ≤ 500000 →
    S 2202 ((k, (i : Int), ()), (m1, a1, ()), (m2, a2, ()), acc.map toR, (q.1.1, q.1.2, ofBytes q.2, ()), ()) ((k, ()), (m1, a1, ()), (m2, a2, ()), ((cs.drop i).foldl (ex1 (δR m1 m2) q.1 q.2) acc).map toR, ()) := by
  intro j
  induction j with
  | zero =>
    intro i acc hi _
    refine r2202 _ _ _ _ _ _ _ _ _ _ ?_
    have h3 : ¬ (i : Int) < 256 := by omega
    rw [List.drop_eq_nil_of_le (show cs.length ≤ i by rw [cs_len]; omega)]
    simp only [l22_1, wp_ite, h3, decide_false, Bool.false_eq_true, if_false, wp_ret]
    rfl
  | succ j ih =>
    intro i acc hi hlen
    refine r2202 _ _ _ _ _ _ _ _ _ _ ?_
    have hlt : i < cs.length := by rw [cs_len]; omega
    have h3 : (i : Int) < 256 := by omega
    have hu : IntKind.wrap IntKind.u8 (i : Int) = (i : Int) := IntWalk.u8_in _ (by omega)
    rw [drop_at hlt, List.foldl_cons, cs_at]
    simp only [l22_1, wp_ite, h3, decide_true, if_true, wp_act, hu]
    refine ⟨_, s2700 m1 a1 q.1.1 (i : Int) h1, _, s2700 m2 a2 q.1.2 (i : Int) h2, ?_⟩
    have hsz : (ofBytes q.2).size + (ofBytes [(i : Int)]).size ≤ 9223372036854775807 := by rw [ofBytes_size, ofBytes_size]; simp; omega
    simp only [wp_chk, hsz, decide_true, true_and, wp_act]
    have hb := s2203 m1 a1 m2 a2 k (i : Int) (acc.map toR) (toR q) (nx m1 q.1.1 (i : Int)) (nx m2 q.1.2 (i : Int)) (ofBytes q.2 ++ ofBytes [(i : Int)]) (by rw [List.length_map]; omega) (acc.map toR).length 0 false (by omega)
    refine ⟨_, hb, ?_⟩
    rw [List.drop_zero, Bool.false_or, any_toR acc (nx m1 q.1.1 (i : Int), nx m2 q.1.2 (i : Int))]
    simp only [wp_ite, wp_chk, wp_ret]
    have hw : IntKind.wrap IntKind.i64 ((i : Int) + 1) = ((i + 1 : Nat) : Int) := by rw [w64 (by omega)]; omega
    cases hany : acc.any (fun q' => decide (q'.1 = (nx m1 q.1.1 (i : Int), nx m2 q.1.2 (i : Int)))) with
    | true =>
      have e : ex1 (δR m1 m2) q.1 q.2 acc (i : Int) = acc := by unfold ex1; rw [if_pos hany]
      rw [e, hw]
      simp only [Bool.not_true, Bool.false_eq_true, if_false]
      exact ih (i + 1) acc (by omega) (by omega)
    | false =>
      have e : ex1 (δR m1 m2) q.1 q.2 acc (i : Int) = acc ++ [((nx m1 q.1.1 (i : Int), nx m2 q.1.2 (i : Int)), q.2 ++ [(i : Int)])] := by
        unfold ex1; rw [if_neg (by rw [hany]; simp)]
      have e2 : (acc.map toR) ++ [(nx m1 q.1.1 (i : Int), nx m2 q.1.2 (i : Int), ofBytes q.2 ++ ofBytes [(i : Int)])] = (ex1 (δR m1 m2) q.1 q.2 acc (i : Int)).map toR := by
        rw [e, List.map_append]
        simp only [List.map_cons, List.map_nil, toR, ofBytes_app]
      have hl : ((acc.map toR).length + [(nx m1 q.1.1 (i : Int), nx m2 q.1.2 (i : Int), ofBytes q.2 ++ ofBytes [(i : Int)])].length) * 32 ≤ 140737488355328 := by
        rw [List.length_map]; simp; omega
      simp only [Bool.not_false, if_true, hl, decide_true, true_and, hw, e2]
      have hl2 := (ex1_len (δR m1 m2) q.1 q.2 acc (i : Int)).1
      exact ih (i + 1) _ (by omega) (by omega)

theorem exAll_len (δ : Pr → Int → Pr) (p : Pr) (t : List Int) (acc : List Q1) : (exAll δ p t acc).length ≤ acc.length + 256 := by
  have := (fold_len δ p t cs acc).1
  rw [cs_len] at this
  exact this

/-- Texts are no longer than there were rounds. -/
theorem ex1_text {δ : Pr → Int → Pr} {p : Pr} {t : List Int} {n : Nat} (ht : t.length < n) : ∀ (l : List Int) (acc : List Q1), (∀ q ∈ acc, q.2.length ≤ n) → ∀ q ∈ l.foldl (ex1 δ p t) acc, q.2.length ≤ n := by
  intro l
  induction l with
  | nil => intro acc h; exact h
  | cons c l ih =>
    intro acc h
    refine ih _ fun q hq => ?_
    unfold ex1 at hq
    split at hq
    · exact h q hq
    · rcases List.mem_append.1 hq with h1 | h1
      · exact h q h1
      · rw [List.mem_singleton.1 h1]; simp; omega

abbrev tellR (p : Pr) : Bool := toldF a1 p.1 != toldF a2 p.2

abbrev outA (o : Option (List Int)) : PUnit × PUnit ⊕ (ByteArray × Bool × Int × PUnit) × PUnit := match o with | none => .inl ((), ()) | some t => .inr ((ofBytes t, true, 0, ()), ())

theorem s2201 (h1 : ∀ l ∈ m1, l.length ≤ 1000000) (h2 : ∀ l ∈ m2, l.length ≤ 1000000) : ∀ (f k : Nat) (acc : List Q1) (r : Option (List Int)), bfs (δR m1 m2) (tellR a1 a2) f k acc = some r → k + f ≤ 1000 → acc.length ≤ 1 + 256 * k → (∀ q ∈ acc, q.2.length ≤ k) →
    S 2201 (((k : Int), ()), (m1, a1, ()), (m2, a2, ()), acc.map toR, ()) (outA r) := by
  intro f
  induction f with
  | zero => intro k acc r h; cases h
  | succ f ih =>
    intro k acc r h hk hlen htx
    refine r2201 _ _ _ _ _ _ ?_
    simp only [bfs] at h
    cases hq : acc[k]? with
    | none =>
      rw [hq] at h
      have h : some none = some r := h
      cases h
      have hge := List.getElem?_eq_none_iff.1 hq
      have h3 : ¬ (k : Int) < ((acc.map toR).length : Int) := by rw [List.length_map]; omega
      simp only [l22_0, wp_ite, h3, decide_false, Bool.false_eq_true, if_false, wp_ret]
      rfl
    | some q =>
      obtain ⟨hlt, hqe⟩ := List.getElem?_eq_some_iff.1 hq
      rw [hq] at h
      have h : (if tellR a1 a2 q.1 = true then some (some q.2) else bfs (δR m1 m2) (tellR a1 a2) f (k + 1) (exAll (δR m1 m2) q.1 q.2 acc)) = some r := h
      have hlt' : k < (acc.map toR).length := by rw [List.length_map]; exact hlt
      have h3 : (k : Int) < ((acc.map toR).length : Int) := by omega
      have h0 : (0 : Int) ≤ (k : Int) := by omega
      have e : (acc.map toR)[k] = toR q := by rw [List.getElem_map, hqe]
      have hqt : q.2.length ≤ k := htx q (by rw [← hqe]; exact List.getElem_mem _)
      simp only [l22_0, wp_ite, wp_chk, h3, h0, decide_true, if_true, true_and, getD_at hlt', e, wp_act]
      refine ⟨_, s3100 m1 a1 q.1.1, _, s3100 m2 a2 q.1.2, ?_⟩
      simp only [wp_ite, wp_ret]
      by_cases hd : tellR a1 a2 q.1 = true
      · rw [if_pos hd] at h
        cases h
        have hd' : (toldF a1 q.1.1 != toldF a2 q.1.2) = true := hd
        simp only [hd', if_true]
        rfl
      · rw [if_neg hd] at h
        have hd' : (toldF a1 q.1.1 != toldF a2 q.1.2) = false := by simpa using hd
        simp only [hd', Bool.false_eq_true, if_false, wp_act]
        have hb := s2202 m1 a1 m2 a2 h1 h2 (k : Int) q (by omega) 256 0 acc (by omega) (by omega)
        refine ⟨_, hb, ?_⟩
        rw [List.drop_zero]
        show S 2201 ((IntKind.wrap IntKind.i64 ((k : Int) + 1), ()), (m1, a1, ()), (m2, a2, ()), (exAll (δR m1 m2) q.1 q.2 acc).map toR, ()) _
        have hw : IntKind.wrap IntKind.i64 ((k : Int) + 1) = ((k + 1 : Nat) : Int) := by rw [w64 (by omega)]; omega
        rw [hw]
        have hl := exAll_len (δR m1 m2) q.1 q.2 acc
        exact ih (k + 1) _ r h (by omega) (by omega) (ex1_text (by omega) cs acc fun q' hq' => by have := htx q' hq'; omega)

end

end Go.Proofs.YtjmnjimlkljhjaaV

/- Which text tells two automata apart: the program's own way. -/
set_option linter.unusedVariables false
set_option maxRecDepth 100000
namespace Go.Proofs.YtjmnjimlkljhjaaV
open Go Go.Proofs

theorem eqPair (a b : Int × Int) : eqEl (Ty.prod tI tI) a b = decide (a = b) := by
  obtain ⟨a1, a2⟩ := a
  obtain ⟨b1, b2⟩ := b
  show (a1 == b1 && a2 == b2) = _
  rw [Bool.eq_iff_iff]
  simp

theorem lkp_put (n m : Int × Int) (v : Bool) : ∀ (l : List ((Int × Int) × Bool)), lkp (eqEl (Ty.prod tI tI)) n (putKV (eqEl (Ty.prod tI tI)) m v l) = if n = m then some v else lkp (eqEl (Ty.prod tI tI)) n l := by
  intro l
  induction l with
  | nil =>
    simp only [putKV, lkp, eqPair]
    by_cases h : n = m <;> simp [h]
  | cons p l ih =>
    obtain ⟨k, w⟩ := p
    simp only [putKV, eqPair]
    by_cases h : m = k
    · subst h
      simp only [decide_true, if_true, lkp, eqPair]
      by_cases h2 : n = m <;> simp [h2]
    · simp only [h, decide_false, Bool.false_eq_true, if_false, lkp, eqPair, ih]
      by_cases h2 : n = k
      · subst h2
        have : ¬ n = m := fun e => h e.symm
        simp [this]
      · simp [h2]

/-- What the program holds of the pairs that it met. -/
structure Ways (acc : List Q1) (ways : List (Int × Int)) (met : List ((Int × Int) × Bool)) : Prop where
  len : ways.length = acc.length
  first : ways.getD 0 (0, 0) = (-1, 0) ∧ (acc.getD 0 ((0, 0), [])).2 = []
  way : ∀ j, 0 < j → j < acc.length → ∃ i : Nat, i < j ∧ (ways.getD j (0, 0)).1 = (i : Int) ∧ (acc.getD j ((0, 0), [])).2 = (acc.getD i ((0, 0), [])).2 ++ [(ways.getD j (0, 0)).2]
  met : ∀ n, lkp (eqEl (Ty.prod tI tI)) n met = if acc.any (fun q => decide (q.1 = n)) = true then some true else none

theorem s2102 {acc : List Q1} {ways : List (Int × Int)} {met : List ((Int × Int) × Bool)} (W : Ways acc ways met) : ∀ (i : Nat) (text : List Int), i < acc.length → (acc.getD i ((0, 0), [])).2.length + text.length ≤ 1000000 →
    S 2102 (((i : Int), ()), ways, text, ()) ((), (acc.getD i ((0, 0), [])).2 ++ text, ()) := by
  intro i
  induction i using Nat.strongRecOn with
  | _ i ih =>
    intro text hi hlen
    refine r2102 _ _ _ ?_
    have hw : i < ways.length := by rw [W.len]; exact hi
    have h0 : (0 : Int) ≤ (i : Int) := by omega
    have h1 : (i : Int) < (ways.length : Int) := by omega
    have hg : ways.getD i (0, 0) = ways[i] := by simp [List.getD_eq_getElem?_getD, hw]
    simp only [l21_1, wp_ite, wp_chk, wp_ret, h0, h1, decide_true, true_and, getD_at hw]
    by_cases hz : i = 0
    · subst hz
      have e := W.first.1
      rw [hg] at e
      rw [W.first.2, List.nil_append, e]
      have h2 : ¬ ((-1 : Int) ≥ 0) := by omega
      simp only [h2, decide_false, Bool.false_eq_true, if_false]
      rfl
    · obtain ⟨j, hj, h2, h3⟩ := W.way i (by omega) hi
      rw [hg] at h2 h3
      have h4 : ways[i].1 ≥ 0 := by omega
      rw [h3] at hlen ⊢
      rw [List.length_append] at hlen
      have hl : ([ways[i].2].length + text.length) * 1 ≤ 140737488355328 := by simp at hlen ⊢; omega
      simp only [h4, decide_true, if_true, hl, true_and]
      rw [List.append_assoc]
      have := ih j hj ([ways[i].2] ++ text) (by omega) (by rw [List.length_append]; simp at hlen ⊢; omega)
      rw [← h2] at this
      exact this

section
variable (m1 : List (List Move)) (a1 : List Int) (m2 : List (List Move)) (a2 : List Int)

/-- One more pair. -/
theorem Ways.add {acc : List Q1} {ways : List (Int × Int)} {met : List ((Int × Int) × Bool)} (W : Ways acc ways met) {k : Nat} (hk : k < acc.length) {n : Pr} {c : Int} {t : List Int} (ht : (acc.getD k ((0, 0), [])).2 = t) :
    Ways (acc ++ [(n, t ++ [c])]) (ways ++ [((k : Int), c)]) (putKV (eqEl (Ty.prod tI tI)) n true met) := by
  have hpos : 0 < acc.length := by omega
  have ga : ∀ j, j < acc.length → (acc ++ [(n, t ++ [c])]).getD j ((0, 0), []) = acc.getD j ((0, 0), []) := by
    intro j hj
    rw [List.getD_eq_getElem?_getD, List.getElem?_append_left hj, ← List.getD_eq_getElem?_getD]
  have gw : ∀ j, j < acc.length → (ways ++ [((k : Int), c)]).getD j (0, 0) = ways.getD j (0, 0) := by
    intro j hj
    rw [List.getD_eq_getElem?_getD, List.getElem?_append_left (by rw [W.len]; exact hj), ← List.getD_eq_getElem?_getD]
  refine ⟨by simp [W.len], ?_, fun j h0 hj => ?_, fun (q : Pr) => ?_⟩
  · rw [ga 0 hpos, gw 0 hpos]; exact W.first
  · by_cases e : j < acc.length
    · obtain ⟨i, h1, h2, h3⟩ := W.way j h0 e
      refine ⟨i, h1, ?_, ?_⟩
      · rw [gw j e]; exact h2
      · rw [ga j e, ga i (by omega), gw j e]; exact h3
    · have hj' : j = acc.length := by simp at hj; omega
      subst hj'
      refine ⟨k, hk, ?_, ?_⟩
      · rw [List.getD_eq_getElem?_getD, List.getElem?_append_right (by rw [W.len]; exact Nat.le_refl _)]; simp [W.len]
      · rw [ga k hk, ht, List.getD_eq_getElem?_getD, List.getElem?_append_right (Nat.le_refl _), List.getD_eq_getElem?_getD, List.getElem?_append_right (by rw [W.len]; exact Nat.le_refl _)]
        simp [W.len]
  · rw [lkp_put, W.met, List.any_append]
    by_cases h : q = n
    · subst h; simp
    · have hd : decide (n = q) = false := decide_eq_false fun e => h e.symm
      rw [if_neg h, List.any_cons, List.any_nil, hd, Bool.or_false, Bool.or_false]

theorem s2103 (h1 : ∀ l ∈ m1, l.length ≤ 1000000) (h2 : ∀ l ∈ m2, l.length ≤ 1000000) (o1 : ∀ l ∈ m1, okL (m1.length : Int) (-1) (-1) l = true) (o2 : ∀ l ∈ m2, okL (m2.length : Int) (-1) (-1) l = true) (k : Nat) (q : Q1) :
    ∀ (j i : Nat) (acc : List Q1) (ways : List (Int × Int)) (met : List ((Int × Int) × Bool)), i + j = 256 → acc.length + j ≤ 500000 → Ways acc ways met → k < acc.length → (acc.getD k ((0, 0), [])).2 = q.2 →
    ∃ ways' met', Ways ((cs.drop i).foldl (ex1 (δR m1 m2) q.1 q.2) acc) ways' met' ∧
      S 2103 (((k : Int), (i : Int), ()), (m1, a1, ()), (m2, a2, ()), acc.map (·.1), ways, met, (q.1.1, q.1.2, ()), ()) (((k : Int), ()), (m1, a1, ()), (m2, a2, ()), ((cs.drop i).foldl (ex1 (δR m1 m2) q.1 q.2) acc).map (·.1), ways', met', ()) := by
  intro j
  induction j with
  | zero =>
    intro i acc ways met hi _ W hk hkq
    rw [List.drop_eq_nil_of_le (show cs.length ≤ i by rw [cs_len]; omega)]
    refine ⟨ways, met, W, r2103 _ _ _ _ _ _ _ _ _ _ _ ?_⟩
    have h3 : ¬ (i : Int) < 256 := by omega
    simp only [l21_2, wp_ite, h3, decide_false, Bool.false_eq_true, if_false, wp_ret]
    rfl
  | succ j ih =>
    intro i acc ways met hi hlen W hk hkq
    have hlt : i < cs.length := by rw [cs_len]; omega
    have h3 : (i : Int) < 256 := by omega
    have hu : IntKind.wrap IntKind.u8 (i : Int) = (i : Int) := IntWalk.u8_in _ (by omega)
    have hw : IntKind.wrap IntKind.i64 ((i : Int) + 1) = ((i + 1 : Nat) : Int) := by rw [w64 (by omega)]; omega
    rw [drop_at hlt, List.foldl_cons, cs_at]
    have hm := W.met (nx m1 q.1.1 (i : Int), nx m2 q.1.2 (i : Int))
    cases hany : acc.any (fun q' => decide (q'.1 = (nx m1 q.1.1 (i : Int), nx m2 q.1.2 (i : Int)))) with
    | true =>
      rw [hany, if_pos rfl] at hm
      have e : ex1 (δR m1 m2) q.1 q.2 acc (i : Int) = acc := by unfold ex1; rw [if_pos hany]
      rw [e]
      obtain ⟨ways', met', W', hS⟩ := ih (i + 1) acc ways met (by omega) (by omega) W hk hkq
      refine ⟨ways', met', W', r2103 _ _ _ _ _ _ _ _ _ _ _ ?_⟩
      simp only [l21_2, wp_ite, h3, decide_true, if_true, wp_act, hu]
      refine ⟨_, s3000 m1 a1 q.1.1 (i : Int) h1 o1, _, s3000 m2 a2 q.1.2 (i : Int) h2 o2, ?_⟩
      simp only [wp_ite, wp_chk, wp_ret, hm, Option.getD_some, Bool.not_true, Bool.false_eq_true, if_false, hw]
      exact hS
    | false =>
      rw [hany, if_neg (by simp)] at hm
      have e : ex1 (δR m1 m2) q.1 q.2 acc (i : Int) = acc ++ [((nx m1 q.1.1 (i : Int), nx m2 q.1.2 (i : Int)), q.2 ++ [(i : Int)])] := by
        unfold ex1; rw [if_neg (by rw [hany]; simp)]
      have W2 := W.add hk (n := (nx m1 q.1.1 (i : Int), nx m2 q.1.2 (i : Int))) (c := (i : Int)) hkq
      rw [e]
      obtain ⟨ways', met', W', hS⟩ := ih (i + 1) _ _ _ (by omega) (by simp; omega) W2 (by simp; omega) (by
        rw [List.getD_eq_getElem?_getD, List.getElem?_append_left hk, ← List.getD_eq_getElem?_getD]; exact hkq)
      refine ⟨ways', met', W', r2103 _ _ _ _ _ _ _ _ _ _ _ ?_⟩
      simp only [l21_2, wp_ite, h3, decide_true, if_true, wp_act, hu]
      refine ⟨_, s3000 m1 a1 q.1.1 (i : Int) h1 o1, _, s3000 m2 a2 q.1.2 (i : Int) h2 o2, ?_⟩
      have hl1 : ((acc.map (·.1)).length + [(nx m1 q.1.1 (i : Int), nx m2 q.1.2 (i : Int))].length) * 16 ≤ 140737488355328 := by simp; omega
      have hl2 : (ways.length + [((k : Int), (i : Int))].length) * 16 ≤ 140737488355328 := by rw [W.len]; simp; omega
      simp only [wp_ite, wp_chk, wp_ret, hm, Option.getD_none, Bool.not_false, if_true, hw, hl1, hl2, decide_true, true_and]
      rw [List.map_append] at hS
      exact hS

end

end Go.Proofs.YtjmnjimlkljhjaaV

/- Apart: both ways come to one. -/
set_option linter.unusedVariables false
set_option maxRecDepth 100000
namespace Go.Proofs.YtjmnjimlkljhjaaV
open Go Go.Proofs
attribute [local irreducible] cs nx

section
variable (m1 : List (List Move)) (a1 : List Int) (m2 : List (List Move)) (a2 : List Int)

/-- Pairs of numbers that may be states', or none. -/
def PairsIn (n1 n2 : Int) (acc : List Q1) : Prop := ∀ q ∈ acc, q.1.1 < n1 ∧ q.1.2 < n2

theorem nxL_lt {n : Int} (h0 : 0 < n) (c : Int) : ∀ {l : List Move} {e t : Int}, okL n e t l = true → nxL c l < n := by
  intro l
  induction l with
  | nil => intro e t _; simp only [nxL]; omega
  | cons m l ih =>
    intro e t h
    have hm := okL_lo h m (by simp)
    simp only [okL, Bool.and_eq_true] at h
    simp only [nxL]
    split
    · exact hm.2.2.2
    · exact ih h.2

theorem nx_lt {ms : List (List Move)} (h0 : 0 < ms.length) (ho : ∀ l ∈ ms, okL (ms.length : Int) (-1) (-1) l = true) (s c : Int) : nx ms s c < (ms.length : Int) := by
  unfold nx
  split
  · omega
  · rename_i h
    have hlt : s.toNat < ms.length := by omega
    rw [List.getD_eq_getElem?_getD, List.getElem?_eq_getElem hlt]
    exact nxL_lt (by omega) c (ho _ (List.getElem_mem hlt))

theorem ex1_in {n1 n2 : Int} {δ : Pr → Int → Pr} (hδ : ∀ p c, (δ p c).1 < n1 ∧ (δ p c).2 < n2) (p : Pr) (t : List Int) : ∀ (l : List Int) (acc : List Q1), PairsIn n1 n2 acc → PairsIn n1 n2 (l.foldl (ex1 δ p t) acc) := by
  intro l
  induction l with
  | nil => intro acc h; exact h
  | cons c l ih =>
    intro acc h
    refine ih _ fun q hq => ?_
    unfold ex1 at hq
    split at hq
    · exact h q hq
    · rcases List.mem_append.1 hq with h1 | h1
      · exact h q h1
      · rw [List.mem_singleton.1 h1]; exact hδ p c

theorem foldAll (δ : Pr → Int → Pr) (p : Pr) (t : List Int) (acc : List Q1) : cs.foldl (ex1 δ p t) acc = exAll δ p t acc := rfl

theorem s2101 (h1 : ∀ l ∈ m1, l.length ≤ 1000000) (h2 : ∀ l ∈ m2, l.length ≤ 1000000) (o1 : ∀ l ∈ m1, okL (m1.length : Int) (-1) (-1) l = true) (o2 : ∀ l ∈ m2, okL (m2.length : Int) (-1) (-1) l = true)
    (p1 : 0 < m1.length) (p2 : 0 < m2.length) (l1 : a1.length = m1.length) (l2 : a2.length = m2.length) : ∀ (f k : Nat) (acc : List Q1) (ways : List (Int × Int)) (met : List ((Int × Int) × Bool)) (r : Option (List Int)),
    bfs (δR m1 m2) (tellR a1 a2) f k acc = some r → k + f ≤ 1000 → acc.length ≤ 1 + 256 * k → (∀ q ∈ acc, q.2.length ≤ k) → PairsIn (m1.length : Int) (m2.length : Int) acc → Ways acc ways met →
    S 2101 (((k : Int), ()), (m1, a1, ()), (m2, a2, ()), acc.map (·.1), ways, met, ()) (outA r) := by
  intro f
  induction f with
  | zero => intro k acc ways met r h; cases h
  | succ f ih =>
    intro k acc ways met r h hk hlen htx hin W
    refine r2101 _ _ _ _ _ _ _ _ ?_
    simp only [bfs] at h
    cases hq : acc[k]? with
    | none =>
      rw [hq] at h
      have h : some none = some r := h
      cases h
      have hge := List.getElem?_eq_none_iff.1 hq
      have h3 : ¬ (k : Int) < ((acc.map (·.1)).length : Int) := by rw [List.length_map]; omega
      simp only [l21_0, wp_ite, h3, decide_false, Bool.false_eq_true, if_false, wp_ret]
      rfl
    | some q =>
      obtain ⟨hlt, hqe⟩ := List.getElem?_eq_some_iff.1 hq
      rw [hq] at h
      have h : (if tellR a1 a2 q.1 = true then some (some q.2) else bfs (δR m1 m2) (tellR a1 a2) f (k + 1) (exAll (δR m1 m2) q.1 q.2 acc)) = some r := h
      have hlt' : k < (acc.map (·.1)).length := by rw [List.length_map]; exact hlt
      have h3 : (k : Int) < ((acc.map (·.1)).length : Int) := by omega
      have h0 : (0 : Int) ≤ (k : Int) := by omega
      have e : (acc.map (·.1))[k] = q.1 := by rw [List.getElem_map, hqe]
      have hmem : q ∈ acc := by rw [← hqe]; exact List.getElem_mem _
      have hqt : q.2.length ≤ k := htx q hmem
      have hgq : acc.getD k ((0, 0), []) = q := by rw [List.getD_eq_getElem?_getD, hq]; rfl
      obtain ⟨i1, i2⟩ := hin q hmem
      simp only [l21_0, wp_ite, wp_chk, h3, h0, decide_true, if_true, true_and, getD_at hlt', e, wp_act]
      refine ⟨_, s2900' m1 a1 q.1.1 (by rw [l1]; exact i1), _, s2900' m2 a2 q.1.2 (by rw [l2]; exact i2), ?_⟩
      simp only [wp_ite]
      by_cases hd : tellR a1 a2 q.1 = true
      · rw [if_pos hd] at h
        cases h
        have hd' : (toldF a1 q.1.1 != toldF a2 q.1.2) = true := hd
        simp only [hd', if_true, wp_act]
        have hb := s2102 W k [] hlt (by rw [hgq]; simp; omega)
        refine ⟨_, hb, ?_⟩
        rw [hgq, List.append_nil]
        rfl
      · rw [if_neg hd] at h
        have hd' : (toldF a1 q.1.1 != toldF a2 q.1.2) = false := by simpa using hd
        simp only [hd', Bool.false_eq_true, if_false, wp_act]
        obtain ⟨ways', met', W', hS⟩ := s2103 m1 a1 m2 a2 h1 h2 o1 o2 k q 256 0 acc ways met (by omega) (by omega) W hlt (by rw [hgq])
        refine ⟨_, hS, ?_⟩
        rw [List.drop_zero, foldAll] at W' ⊢
        show S 2101 ((IntKind.wrap IntKind.i64 ((k : Int) + 1), ()), (m1, a1, ()), (m2, a2, ()), (exAll (δR m1 m2) q.1 q.2 acc).map (·.1), ways', met', ()) _
        have hw : IntKind.wrap IntKind.i64 ((k : Int) + 1) = ((k + 1 : Nat) : Int) := by rw [w64 (by omega)]; omega
        rw [hw]
        have hl := exAll_len (δR m1 m2) q.1 q.2 acc
        have W2 : Ways (exAll (δR m1 m2) q.1 q.2 acc) ways' met' := by exact W'
        have hp2 : PairsIn (m1.length : Int) (m2.length : Int) (exAll (δR m1 m2) q.1 q.2 acc) := by
          unfold exAll; exact ex1_in (fun p c => ⟨nx_lt p1 o1 p.1 c, nx_lt p2 o2 p.2 c⟩) q.1 q.2 cs acc hin
        have htx2 : ∀ q' ∈ exAll (δR m1 m2) q.1 q.2 acc, q'.2.length ≤ k + 1 := by
          unfold exAll; exact ex1_text (by omega) cs acc fun q' hq' => by have := htx q' hq'; omega
        exact ih (k + 1) (exAll (δR m1 m2) q.1 q.2 acc) ways' met' r h (by omega) (by omega) htx2 hp2 W2

end

end Go.Proofs.YtjmnjimlkljhjaaV

/- What a call's arguments are: pure values, read out of the world by the given reading. -/
set_option linter.unusedVariables false
namespace Go.Proofs.YtjmnjimlkljhjaaV
open Go Go.ChangeShapes Go.WideShapes Go.RowKit

mutual
/-- A type of the program stands for this pure type; fields in line from this offset on. -/
def tyIs (P : Program) : Nat → Ty → TypeId → Bool
  | 0, _, _ => false
  | n + 1, .int k, T => (match P.underlying T with | some (.int k') => decide (k' = k) | _ => false)
  | n + 1, .bool, T => (match P.underlying T with | some .bool => true | _ => false)
  | n + 1, .str, T => (match P.underlying T with | some .string => true | _ => false)
  | n + 1, .slice e t, T => (match P.underlying T with | some (.slice e') => decide (e' = e) && decide (P.cellsOf e = sz t) && decide (0 < sz t) && tyIs P n t e | _ => false)
  | n + 1, .prod a b, T => (match P.underlying T with | some (.struct fs) => tyFs P n (.prod a b) 0 fs.toList && decide (P.cellsOf T = sz (.prod a b)) | _ => false)
  | _ + 1, _, _ => false
def tyFs (P : Program) : Nat → Ty → Nat → List Field → Bool
  | 0, _, _, _ => false
  | n + 1, t, off, [f] => decide (f.offset = off) && decide (P.cellsOf f.type = sz t) && tyIs P n t f.type
  | n + 1, .prod a b, off, f :: g :: r => decide (f.offset = off) && decide (P.cellsOf f.type = sz a) && tyIs P n a f.type && tyFs P n b (off + sz a) (g :: r)
  | _ + 1, _, _, _ => false
end

/-- Numbers are of their kinds. -/
def WfE : (t : Ty) → El t → Prop
  | .int k, x => (Lit.int k x).wf = true
  | .bool, _ => True
  | .str, (s : ByteArray) => s.size ≤ maxLen
  | .prod a b, x => WfE a x.1 ∧ WfE b x.2
  | .slice _ t, (xs : List (El t)) => xs.length ≤ maxLen ∧ ∀ y ∈ xs, WfE t y
  | .rose _ _, _ => True
  | .arr _ _, _ => True

theorem sz_pos_of {P : Program} : ∀ {n : Nat} {t : Ty} {T : TypeId}, tyIs P n t T = true → 0 < sz t := by
  intro n
  induction n using Nat.strongRecOn with
  | _ n ih =>
    intro t T h
    cases n with
    | zero => simp [tyIs] at h
    | succ n =>
      cases t with
      | prod a b =>
        simp only [tyIs] at h
        split at h
        · rename_i fs hu
          rw [Bool.and_eq_true] at h
          have h := h.1
          cases n with
          | zero => simp [tyFs] at h
          | succ n =>
            cases hl : fs.toList with
            | nil => rw [hl] at h; simp [tyFs] at h
            | cons f r =>
              cases r with
              | nil =>
                rw [hl] at h
                simp only [tyFs, Bool.and_eq_true] at h
                exact ih n (by omega) h.2
              | cons g r =>
                rw [hl] at h
                simp only [tyFs, Bool.and_eq_true] at h
                have := ih n (by omega) h.1.2
                show 0 < sz a + sz b
                omega
        · cases h
      | int k => exact Nat.one_pos
      | bool => exact Nat.one_pos
      | str => exact Nat.one_pos
      | slice e t => exact Nat.one_pos
      | rose t e => simp [tyIs] at h
      | arr m t => simp [tyIs] at h

section
variable {H : Type} {enc' : TypeId × Value → H} {P : Program} {w : World} {sp : Nat → Bool} {held : Bool}

/-- What is read is a pure value. -/
def Reads1 (w : World) (n : Nat) (t : Ty) (cs : List Value) : Prop := ∃ x : El t, TRep w (fun k => k < w.heap.size) n t x cs ∧ WfE t x

theorem cell_lt {w : World} {a : Addr} {v : Value} (h : w.cell? a = some v) : a.block < w.heap.size := by
  rcases Nat.lt_or_ge a.block w.heap.size with h1 | h1
  · exact h1
  · have : w.heap[a.block]? = none := Array.getElem?_eq_none h1
    simp [World.cell?, this] at h

theorem pick {α : Type} {n : Nat} {p : Nat → α → Prop} (h : ∀ i, i < n → ∃ x, p i x) : ∃ l : List α, l.length = n ∧ ∀ (i : Nat) (hi : i < l.length), p i l[i] := by
  induction n with
  | zero => exact ⟨[], rfl, fun i hi => absurd hi (by simp)⟩
  | succ n ih =>
    obtain ⟨l, hl, hp⟩ := ih fun i hi => h i (by omega)
    obtain ⟨x, hx⟩ := h n (by omega)
    refine ⟨l ++ [x], by simp [hl], fun i hi => ?_⟩
    by_cases e : i < l.length
    · rw [List.getElem_append_left e]; exact hp i e
    · have e2 : i = l.length := by simp at hi; omega
      subst e2
      rw [List.getElem_append_right (Nat.le_refl _)]
      simp only [Nat.sub_self, List.getElem_cons_zero]
      rw [hl]; exact hx

theorem reads_slice {n : Nat} {e : TypeId} {t : Ty} {T : TypeId} (hu : P.underlying T = some (.slice e)) (hc : P.cellsOf e = sz t) (hp : 0 < sz t)
    (ih : ∀ fuel cs x, DataW.trod enc' P w 0 sp held fuel e cs = some x → Reads1 w n t cs) {fuel : Nat} {cs : List Value} {x : DataW H × List MemPlace} (h : DataW.trod enc' P w 0 sp held fuel T cs = some x) :
    Reads1 w (n + 1) (.slice e t) cs := by
  rcases DataW.trod_slice hu h with ⟨rfl, _⟩ | ⟨a, len, cap, elems, rest, m, _, rfl, _, _, hl, hm, hlen, hel, _, _⟩
  · refine ⟨([] : List (El t)), ⟨none, 0, rfl, Nat.le_refl _, Nat.zero_le _, fun j hj => absurd hj (by simp)⟩, Nat.zero_le _, fun y hy => by cases hy⟩
  · have each : ∀ i, i < len → ∃ y : El t, WfE t y ∧ a.block < w.heap.size ∧ ∃ c, TRep w (fun k => k < w.heap.size) n t y c ∧ ∀ j u, c[j]? = some u → w.cell? (a.add (i * sz t + j)) = some u := by
      intro i hi
      have hb := hel i hi
      have : elems[i]? = some (elems[i]'(by omega)) := List.getElem?_eq_getElem (by omega)
      rw [this, Option.bind_eq_some_iff] at hb
      obtain ⟨c, hcs, hy⟩ := hb
      obtain ⟨y, hy, hw⟩ := ih _ _ _ hy
      obtain ⟨_, hcl, hcell⟩ := World.cells?_some hcs
      rw [hc] at hcl hcell
      have hlt : a.block < w.heap.size := by
        have h0 := hcell 0 hp
        have h1 : c[0]? = some (c[0]'(by omega)) := List.getElem?_eq_getElem (by omega)
        rw [h1] at h0
        have := cell_lt h0
        rwa [add_block, add_block] at this
      refine ⟨y, hw, hlt, c, hy, fun j u hu => ?_⟩
      have hj : j < c.length := (List.getElem?_eq_some_iff.1 hu).1
      have := hcell j (by omega)
      rw [hu, Addr.add_add] at this
      exact this
    obtain ⟨l, hll, hp⟩ := pick each
    refine ⟨l, ⟨some a, cap, by rw [hll], by omega, hm, fun j hj => ?_⟩, by show l.length ≤ _; omega, fun y hy => ?_⟩
    · obtain ⟨_, hlt, c, hr, hcell⟩ := hp j hj
      exact ⟨a, c, rfl, hlt, hlt, hr, hcell⟩
    · obtain ⟨i, hi, rfl⟩ := List.getElem_of_mem hy
      exact (hp i hi).1

theorem Reads1.mono {n m : Nat} (h : n ≤ m) {t : Ty} {cs : List Value} (hr : Reads1 w n t cs) : Reads1 w m t cs := by
  obtain ⟨x, h1, h2⟩ := hr
  exact ⟨x, TRep.mono n m h _ _ _ h1, h2⟩

theorem reads_ok : ∀ (n : Nat),
    (∀ t T, tyIs P n t T = true → ∀ fuel cs x, DataW.trod enc' P w 0 sp held fuel T cs = some x → Reads1 w n t cs) ∧
    (∀ t off fs, tyFs P n t off fs = true → ∀ cs : List Value, cs.length = off + sz t → (∀ f ∈ fs, ∃ fuel x, DataW.trod enc' P w 0 sp held fuel f.type ((cs.drop f.offset).take (P.cellsOf f.type)) = some x) → Reads1 w n t (cs.drop off)) := by
  intro n
  induction n with
  | zero => exact ⟨fun t T h => by simp [tyIs] at h, fun t off fs h => by simp [tyFs] at h⟩
  | succ n ih =>
    refine ⟨fun t T h fuel cs x hx => ?_, fun t off fs h cs hl hf => ?_⟩
    · cases t with
      | int k =>
        simp only [tyIs] at h
        split at h
        · rename_i k' hu
          have := of_decide_eq_true h
          subst this
          obtain ⟨v, rfl, _, hw⟩ := DataW.trod_int hu hx
          exact ⟨v, rfl, hw⟩
        · cases h
      | bool =>
        simp only [tyIs] at h
        split at h
        · rename_i hu
          cases fuel with
          | zero => simp [DataW.trod] at hx
          | succ m =>
            unfold DataW.trod at hx
            rw [hu] at hx
            split at hx <;> simp_all
            exact ⟨_, rfl, trivial⟩
        · cases h
      | str =>
        simp only [tyIs] at h
        split at h
        · rename_i hu
          cases fuel with
          | zero => simp [DataW.trod] at hx
          | succ m =>
            unfold DataW.trod at hx
            rw [hu] at hx
            split at hx <;> simp_all
            exact ⟨_, rfl, hx.1⟩
        · cases h
      | slice e t =>
        simp only [tyIs] at h
        split at h
        · rename_i e' hu
          simp only [Bool.and_eq_true, decide_eq_true_eq] at h
          obtain ⟨⟨⟨rfl, hc⟩, hp⟩, ht⟩ := h
          exact reads_slice hu hc hp (fun fuel cs x hx => ih.1 t _ ht fuel cs x hx) hx
        · cases h
      | prod a b =>
        simp only [tyIs] at h
        split at h
        · rename_i fs hu
          rw [Bool.and_eq_true, decide_eq_true_eq] at h
          obtain ⟨xs, m, _, _, hl, hlen, hf⟩ := DataW.trod_struct hu hx
          have := ih.2 (.prod a b) 0 fs.toList h.1 cs (by rw [hl, h.2, Nat.zero_add]) fun f hfm => by
            obtain ⟨j, hj, rfl⟩ := List.getElem_of_mem hfm
            have h1 : fs[j]? = some fs.toList[j] := by rw [← Array.getElem?_toList]; exact List.getElem?_eq_getElem hj
            have h2 := hf j fs.toList[j] h1
            have h3 : j < xs.length := by rw [hlen]; exact hj
            rw [List.getElem?_eq_getElem h3] at h2
            exact ⟨_, _, h2⟩
          rw [List.drop_zero] at this
          exact this.mono (Nat.le_succ n)
        · cases h
      | rose t e => simp [tyIs] at h
      | arr m t => simp [tyIs] at h
    · have one : ∀ f, fs = [f] → Reads1 w (n + 1) t (cs.drop off) := by
        rintro f rfl
        cases n with
        | zero => cases t <;> simp [tyFs, tyIs] at h
        | succ n =>
        have h' : (decide (f.offset = off) && decide (P.cellsOf f.type = sz t) && tyIs P (n + 1) t f.type) = true := by
          cases t <;> simpa only [tyFs] using h
        simp only [Bool.and_eq_true, decide_eq_true_eq] at h'
        obtain ⟨⟨h1, h2⟩, h3⟩ := h'
        obtain ⟨fuel, x, hx⟩ := hf f (by simp)
        rw [h1, h2, List.take_of_length_le (by rw [List.length_drop]; omega)] at hx
        exact (ih.1 t _ h3 _ _ _ hx).mono (Nat.le_succ _)
      cases fs with
      | nil => cases t <;> simp [tyFs] at h
      | cons f r =>
        cases r with
        | nil => exact one f rfl
        | cons g r =>
          cases t with
          | prod a b =>
            simp only [tyFs, Bool.and_eq_true, decide_eq_true_eq] at h
            obtain ⟨⟨⟨h1, h2⟩, h3⟩, h4⟩ := h
            have hl' : cs.length = off + (sz a + sz b) := hl
            obtain ⟨fuel, x, hx⟩ := hf f (by simp)
            rw [h1, h2] at hx
            obtain ⟨xa, ra, wa⟩ := ih.1 a _ h3 _ _ _ hx
            obtain ⟨xb, rb, wb⟩ := ih.2 b (off + sz a) (g :: r) h4 cs (by omega) fun f' hf' => hf f' (by simp [hf'])
            refine ⟨(xa, xb), ⟨_, _, ?_, ra, rb⟩, wa, wb⟩
            rw [← List.drop_drop]
            exact (List.take_append_drop _ _).symm
          | _ => simp [tyFs] at h

/-- A call's world: nothing of its own yet. -/
def env0 (W : World) : Env := { w0 := W, O0 := fun _ => False, G := fun k => k < W.heap.size, get := fun _ => none, θ := fun _ => ⟨.tuple #[], []⟩, U := fun _ => False, w := W }

theorem env0_owned {W : World} {k : Nat} : ¬ (env0 W).owned k := by
  rintro ⟨id, o, h, _⟩
  cases h

theorem env0_ok {W : World} {k : Nat} (h : k < W.heap.size) : (env0 W).ok false k := ⟨.inl ⟨rfl, h⟩, env0_owned⟩

theorem env0_mr (W : World) : MR (env0 W) where
  ext := ⟨rfl, rfl, rfl, Nat.le_refl _, fun _ _ _ => rfl⟩
  gsep := fun k h => ⟨fun h => h, h⟩
  osep := fun k h => h.elim
  used := fun id o h => by cases h
  own := fun id o k h => by cases h
  disj := fun id id' o o' k h => by cases h
  objs := fun id o h => by cases h

theorem reads_T {n : Nat} {t : Ty} {cs : List Value} (h : Reads1 w n t cs) : ∃ x : El t, T (env0 w) false t x cs ∧ WfE t x := by
  obtain ⟨x, h1, h2⟩ := h
  exact ⟨x, ⟨n, TRep.move (Nat.le_refl _) (fun k hk _ => ⟨rfl, env0_ok hk⟩) n t x cs h1⟩, h2⟩

/-- An argument, opened. -/
theorem open_arg {n : Nat} {t : Ty} {T : TypeId} (ht : tyIs P n t T = true) {r : Reach} {b0 : Nat} {v : Value} {d : DataW H} {ps : List MemPlace} (hv : Value.okWide P w r b0 T v) (h : DataW.Trod enc' P w 0 sp held T v d ps) :
    ∃ x : El t, VRep (env0 w) (fun _ => undef) (ofCells t (enc false t x)) v ∧ WfE t x ∧ ∀ p ∈ ps, p.block < w.heap.size := by
  obtain ⟨fuel, hf⟩ := h
  obtain ⟨x, hT, hw⟩ := reads_T ((reads_ok n).1 t T ht fuel _ _ hf)
  have e : v = vIs t v.cells.toList := by
    cases n with
    | zero => simp [tyIs] at ht
    | succ n =>
      cases t with
      | int k =>
        simp only [tyIs] at ht
        split at ht
        · rename_i k' hu
          obtain ⟨z, rfl⟩ := okWide_int hu hv
          rfl
        · cases ht
      | bool =>
        simp only [tyIs] at ht
        split at ht
        · rename_i hu
          obtain ⟨z, rfl⟩ := okWide_bool hu hv
          rfl
        · cases ht
      | str =>
        simp only [tyIs] at ht
        split at ht
        · rename_i hu
          obtain ⟨z, rfl⟩ := okWide_string hu hv
          rfl
        · cases ht
      | slice e t =>
        simp only [tyIs] at ht
        split at ht
        · rename_i hu
          obtain ⟨a, l, c, rfl⟩ := okWide_slice hu hv
          rfl
        · cases ht
      | prod a b =>
        simp only [tyIs] at ht
        split at ht
        · rename_i fs hu
          obtain ⟨z, rfl, _⟩ := okWide_struct hu hv
          rfl
        · cases ht
      | rose t e => simp [tyIs] at ht
      | arr m t => simp [tyIs] at ht
  refine ⟨x, ?_, hw, fun p hp => DataW.trod_lt fuel _ _ _ hf p hp⟩
  have := ofCells_ok (tm := fun _ => undef) hT
  rw [← e] at this
  exact this

/-- A statement's call: it returns true, and nothing below has turned. -/
theorem row_run {f : FuncId} {pre : Tpl} (hpre : pre.objs = []) {fr : Bool} {x : pre.T} (h : SemFn P f pre [(.ret, { n := 1, slots := [(0, .hole fr .bool)], objs := [] })] x ((true, ()), ()))
    {vs : List Value} (hlen : vs.length = pre.n) (hval : ∀ s v, vs[s]? = some v → VRep (env0 w) (fun _ => undef) ((pre.inst x).tmps.getD s .dead) v) :
    Calls P f vs.toArray w fun e w' => e = .returned (.bool true) ∧ Below w.heap.size w w' := by
  have hg : ∀ id, (pre.inst x).get id = none := by
    intro id
    obtain ⟨n, slots, objs⟩ := pre
    subst hpre
    rfl
  have hP : Pre (env0 w) pre x vs := by
    refine ⟨env0_mr w, rfl, fun k => ⟨fun h => h.elim, fun h => (env0_owned h).elim⟩, fun id => (hg id).symm, fun id => ⟨fun h => h.elim, fun h => ?_⟩, hlen, hval⟩
    rw [hpre] at h
    exact absurd h (by simp)
  refine Calls.mono (h.2 (env0 w) vs hP) fun e w' he => ?_
  obtain ⟨v, E', rfl, rfl, hp⟩ := he
  refine ⟨?_, ?_⟩
  · have hv : CRep E' (.v (.bool true)) v := hp.val
    cases hv
    rfl
  · have hx := hp.mr.ext
    have h1 : E'.w0 = w := hp.same.w0
    have h2 : E'.O0 = fun _ => False := hp.same.O0
    rw [h1, h2] at hx
    exact ⟨hx.os, hx.tape, hx.output, hx.size, fun k hk => hx.block k hk (fun h => h)⟩

end
end Go.Proofs.YtjmnjimlkljhjaaV

/- Apart as one function; it ends; whichever is the first. -/
set_option linter.unusedVariables false
set_option maxRecDepth 100000
namespace Go.Proofs.YtjmnjimlkljhjaaV
open Go Go.Proofs
attribute [local irreducible] cs nx

theorem nodup_len {α : Type} [DecidableEq α] : ∀ (l U : List α), l.Nodup → (∀ x ∈ l, x ∈ U) → l.length ≤ U.length := by
  intro l
  induction l with
  | nil => intro U _ _; exact Nat.zero_le _
  | cons x l ih =>
    intro U hn hs
    rw [List.nodup_cons] at hn
    have hx : x ∈ U := hs x (by simp)
    have := ih (U.erase x) hn.2 fun y hy => (List.mem_erase_of_ne (fun (e : y = x) => hn.1 (by rw [← e]; exact hy))).2 (hs y (by simp [hy]))
    rw [List.length_erase_of_mem hx] at this
    have hp : 0 < U.length := List.length_pos_of_mem hx
    simp only [List.length_cons]
    omega

/-- Pairs met once each, out of U. -/
def Met (U : List Pr) (acc : List Q1) : Prop := (acc.map (·.1)).Nodup ∧ ∀ q ∈ acc, q.1 ∈ U

theorem ex1_met {U : List Pr} {δ : Pr → Int → Pr} (hδ : ∀ p c, p ∈ U → δ p c ∈ U) {p : Pr} (hp : p ∈ U) (t : List Int) : ∀ (l : List Int) (acc : List Q1), Met U acc → Met U (l.foldl (ex1 δ p t) acc) := by
  intro l
  induction l with
  | nil => intro acc h; exact h
  | cons c l ih =>
    intro acc h
    refine ih _ ?_
    unfold ex1
    split
    · exact h
    · rename_i hn
      refine ⟨?_, fun q hq => ?_⟩
      · rw [List.map_append, List.nodup_append]
        refine ⟨h.1, by simp, fun a ha b hb e => ?_⟩
        rw [List.map_cons, List.map_nil, List.mem_singleton] at hb
        subst hb
        obtain ⟨q, hq, rfl⟩ := List.mem_map.1 ha
        exact hn (List.any_eq_true.2 ⟨q, hq, by rw [e]; simp⟩)
      · rcases List.mem_append.1 hq with h1 | h1
        · exact h.2 q h1
        · rw [List.mem_singleton.1 h1]; exact hδ p c hp

theorem bfs_ends {U : List Pr} {δ : Pr → Int → Pr} (tell : Pr → Bool) (hδ : ∀ p c, p ∈ U → δ p c ∈ U) : ∀ (f k : Nat) (acc : List Q1), U.length < k + f → k ≤ acc.length → Met U acc → ∃ r, bfs δ tell f k acc = some r := by
  intro f
  induction f with
  | zero =>
    intro k acc h hk hm
    have := nodup_len (acc.map (·.1)) U hm.1 fun x hx => by
      obtain ⟨q, hq, rfl⟩ := List.mem_map.1 hx
      exact hm.2 q hq
    rw [List.length_map] at this
    omega
  | succ f ih =>
    intro k acc h hk hm
    simp only [bfs]
    cases hq : acc[k]? with
    | none => exact ⟨_, rfl⟩
    | some q =>
      obtain ⟨hlt, hqe⟩ := List.getElem?_eq_some_iff.1 hq
      show ∃ r, (if tell q.1 = true then some (some q.2) else bfs δ tell f (k + 1) (exAll δ q.1 q.2 acc)) = some r
      by_cases ht : tell q.1 = true
      · exact ⟨_, by rw [if_pos ht]⟩
      · rw [if_neg ht]
        have hl := (fold_len δ q.1 q.2 cs acc).2
        refine ih (k + 1) _ (by omega) (by unfold exAll; omega) ?_
        exact ex1_met hδ (hm.2 q (by rw [← hqe]; exact List.getElem_mem _)) q.2 cs acc hm

/-- The states, and none. -/
def box (n : Nat) : List Int := (List.range (n + 1)).map fun (i : Nat) => (i : Int) - 1
def boxes (n m : Nat) : List Pr := (box n).flatMap fun a => (box m).map fun b => (a, b)

theorem box_len (n : Nat) : (box n).length = n + 1 := by simp [box]
theorem boxes_len (n m : Nat) : (boxes n m).length = (n + 1) * (m + 1) := by
  unfold boxes
  rw [List.length_flatMap]
  have : (fun a => ((box m).map fun b => (a, b)).length) = fun (_ : Int) => m + 1 := by
    funext a; rw [List.length_map, box_len]
  rw [this]
  have h2 : ∀ l : List Int, (l.map fun _ => m + 1).sum = l.length * (m + 1) := by
    intro l
    induction l with
    | nil => simp
    | cons x l ih => rw [List.map_cons, List.sum_cons, ih, List.length_cons, Nat.add_mul, Nat.one_mul, Nat.add_comm]
  rw [h2, box_len]

theorem mem_box {n : Nat} {s : Int} : s ∈ box n ↔ -1 ≤ s ∧ s < (n : Int) := by
  unfold box
  rw [List.mem_map]
  constructor
  · rintro ⟨i, hi, rfl⟩
    rw [List.mem_range] at hi
    omega
  · rintro ⟨h1, h2⟩
    exact ⟨(s + 1).toNat, by rw [List.mem_range]; omega, by omega⟩

theorem mem_boxes {n m : Nat} {p : Pr} : p ∈ boxes n m ↔ p.1 ∈ box n ∧ p.2 ∈ box m := by
  obtain ⟨a, b⟩ := p
  unfold boxes
  rw [List.mem_flatMap]
  constructor
  · rintro ⟨x, hx, h⟩
    obtain ⟨y, hy, e⟩ := List.mem_map.1 h
    cases e
    exact ⟨hx, hy⟩
  · rintro ⟨h1, h2⟩
    exact ⟨a, h1, List.mem_map.2 ⟨b, h2, rfl⟩⟩

theorem nxL_ge (c : Int) {n : Int} : ∀ {l : List Move} {e t : Int}, okL n e t l = true → -1 ≤ nxL c l := by
  intro l
  induction l with
  | nil => intro e t _; simp only [nxL]; omega
  | cons m l ih =>
    intro e t h
    have hm := okL_lo h m (by simp)
    simp only [okL, Bool.and_eq_true] at h
    simp only [nxL]
    split
    · omega
    · exact ih h.2

section
attribute [local semireducible] nx
theorem nx_ge {ms : List (List Move)} (ho : ∀ l ∈ ms, okL (ms.length : Int) (-1) (-1) l = true) (s c : Int) : -1 ≤ nx ms s c := by
  unfold nx
  split
  · omega
  · rename_i h
    have hlt : s.toNat < ms.length := by omega
    rw [List.getD_eq_getElem?_getD, List.getElem?_eq_getElem hlt]
    exact nxL_ge c (ho _ (List.getElem_mem hlt))
end

/-- What is asked of an automaton that may be. -/
structure Okd (d : Dfa) : Prop where
  pos : 0 < d.1.length
  len : d.2.length = d.1.length
  acc : ∀ a ∈ d.2, -1 ≤ a
  mv : ∀ l ∈ d.1, okL (d.1.length : Int) (-1) (-1) l = true

theorem okA_okd {d : Dfa} (h : okA d = true) : Okd d := by
  simp only [okA, Bool.and_eq_true, decide_eq_true_eq, List.all_eq_true] at h
  obtain ⟨⟨⟨⟨h1, h2⟩, h3⟩, h4⟩, h5⟩ := h
  exact ⟨h1, h3, h4, h5⟩

theorem few_le {d : Dfa} (h : fewF d = true) : d.1.length ≤ 12 ∧ d.2.length ≤ 20 ∧ ∀ l ∈ d.1, l.length ≤ 60 := by
  simp only [fewF, Bool.and_eq_true, decide_eq_true_eq, List.all_eq_true] at h
  exact ⟨h.1.1, h.1.2, h.2⟩

theorem few_big {d : Dfa} (h : fewF d = true) : ∀ l ∈ d.1, l.length ≤ 1000000 := fun l hl => by have := (few_le h).2.2 l hl; omega

def start1 : List Q1 := [((0, 0), [])]

def apO (d b : Dfa) : Option (List Int) := (bfs (δR d.1 b.1) (tellR d.2 b.2) 200 0 start1).getD none

theorem ap_ends {d b : Dfa} (o1 : Okd d) (o2 : Okd b) (f1 : fewF d = true) (f2 : fewF b = true) : bfs (δR d.1 b.1) (tellR d.2 b.2) 200 0 start1 = some (apO d b) := by
  obtain ⟨r, hr⟩ := bfs_ends (U := boxes d.1.length b.1.length) (δ := δR d.1 b.1) (tellR d.2 b.2)
    (fun p c hp => by
      rw [mem_boxes, mem_box, mem_box]
      exact ⟨⟨nx_ge o1.mv _ _, nx_lt o1.pos o1.mv _ _⟩, nx_ge o2.mv _ _, nx_lt o2.pos o2.mv _ _⟩) 200 0 start1
    (by
      rw [boxes_len]
      have h1 := (few_le f1).1
      have h2 := (few_le f2).1
      have : (d.1.length + 1) * (b.1.length + 1) ≤ 13 * 13 := Nat.mul_le_mul (by omega) (by omega)
      omega) (Nat.zero_le _)
    ⟨by simp [start1], fun q hq => by
      rw [start1, List.mem_singleton] at hq
      subst hq
      rw [mem_boxes, mem_box, mem_box]
      have := o1.pos
      have := o2.pos
      exact ⟨⟨by simp, by simp; omega⟩, by simp, by simp; omega⟩⟩
  rw [apO, hr]
  rfl

def apF (d b : Dfa) : ByteArray × Bool × Int := if okA d = true ∧ okA b = true then (match apO d b with | none => (⟨#[]⟩, false, 0) | some t => (ofBytes t, true, 0)) else (⟨#[]⟩, false, 30)

def TyD (d : Dfa) : Prop := (∀ l ∈ d.1, ∀ m ∈ l, TyM m) ∧ ∀ a ∈ d.2, -9223372036854775808 ≤ a ∧ a ≤ 9223372036854775807

theorem startWays : Ways start1 [(-1, 0)] (putKV (eqEl (Ty.prod tI tI)) (0, 0) true []) := by
  refine ⟨rfl, ⟨rfl, rfl⟩, fun j h0 hj => ?_, fun n => ?_⟩
  · simp [start1] at hj; omega
  · rw [lkp_put]
    simp only [start1, List.any_cons, List.any_nil, Bool.or_false, decide_eq_true_eq, lkp]
    by_cases h : n = (0, 0)
    · subst h; simp
    · rw [if_neg h, if_neg (fun e => h e.symm)]

theorem s2100 (m1 : List (List Move)) (a1 : List Int) (m2 : List (List Move)) (a2 : List Int) (f1 : fewF (m1, a1) = true) (f2 : fewF (m2, a2) = true) (t1 : TyD (m1, a1)) (t2 : TyD (m2, a2)) :
    S 2100 (((m1, a1), (m2, a2), ()), ()) (((apF (m1, a1) (m2, a2)).1, (apF (m1, a1) (m2, a2)).2.1, (apF (m1, a1) (m2, a2)).2.2, ()), ()) := by
  have g1 := few_le f1
  have g2 := few_le f2
  refine r2100 _ _ _ _ ?_
  simp only [t21, wp_act]
  refine ⟨_, s2600 m1 a1 (by have := g1.1; simp at this; omega) (few_big f1) t1.1, ?_⟩
  simp only [wp_ite]
  by_cases h1 : okA (m1, a1) = true
  · rw [if_pos h1]
    have e1 : ((0 : Int) != 0) = false := rfl
    simp only [e1, Bool.false_eq_true, if_false, wp_act]
    refine ⟨_, s2600 m2 a2 (by have := g2.1; simp at this; omega) (few_big f2) t2.1, ?_⟩
    simp only [wp_ite]
    by_cases h2 : okA (m2, a2) = true
    · rw [if_pos h2]
      simp only [e1, Bool.false_eq_true, if_false, wp_act]
      have o1 := okA_okd h1
      have o2 := okA_okd h2
      have hb := s2101 m1 a1 m2 a2 (few_big f1) (few_big f2) o1.mv o2.mv o1.pos o2.pos o1.len o2.len 200 0 start1 [(-1, 0)] (putKV (eqEl (Ty.prod tI tI)) (0, 0) true []) _ (ap_ends o1 o2 f1 f2) (by omega) (by simp [start1]) (fun q hq => by
        rw [start1, List.mem_singleton] at hq; subst hq; simp) (fun q hq => by
        rw [start1, List.mem_singleton] at hq; subst hq
        have := o1.pos; have := o2.pos; simp at *; omega) startWays
      refine ⟨_, hb, ?_⟩
      have e : apF (m1, a1) (m2, a2) = (match apO (m1, a1) (m2, a2) with | none => (⟨#[]⟩, false, 0) | some t => (ofBytes t, true, 0)) := by unfold apF; rw [if_pos ⟨h1, h2⟩]
      rw [e]
      cases apO (m1, a1) (m2, a2) <;> rfl
    · rw [if_neg h2]
      have e : apF (m1, a1) (m2, a2) = (⟨#[]⟩, false, 30) := by unfold apF; rw [if_neg (fun h => h2 h.2)]
      rw [e]
      have e3 : ((30 : Int) != 0) = true := rfl
      simp only [e3, if_true]
      rfl
  · rw [if_neg h1]
    have e : apF (m1, a1) (m2, a2) = (⟨#[]⟩, false, 30) := by unfold apF; rw [if_neg (fun h => h1 h.1)]
    rw [e]
    have e3 : ((30 : Int) != 0) = true := rfl
    simp only [e3, if_true]
    rfl

theorem s2200 (m1 : List (List Move)) (a1 : List Int) (m2 : List (List Move)) (a2 : List Int) (f1 : fewF (m1, a1) = true) (f2 : fewF (m2, a2) = true) (t1 : TyD (m1, a1)) (t2 : TyD (m2, a2)) :
    S 2200 (((m1, a1), (m2, a2), ()), ()) (((apF (m1, a1) (m2, a2)).1, (apF (m1, a1) (m2, a2)).2.1, (apF (m1, a1) (m2, a2)).2.2, ()), ()) := by
  have g1 := few_le f1
  have g2 := few_le f2
  refine r2200 _ _ _ _ ?_
  simp only [t22, wp_act]
  refine ⟨_, s1200 m1 a1 (by have := g1.1; simp at this; omega) (few_big f1) t1.1, ?_⟩
  simp only [wp_ite]
  by_cases h1 : okA (m1, a1) = true
  · rw [if_pos h1]
    have e1 : ((0 : Int) != 0) = false := rfl
    simp only [e1, Bool.false_eq_true, if_false, wp_act]
    refine ⟨_, s1200 m2 a2 (by have := g2.1; simp at this; omega) (few_big f2) t2.1, ?_⟩
    simp only [wp_ite]
    by_cases h2 : okA (m2, a2) = true
    · rw [if_pos h2]
      simp only [e1, Bool.false_eq_true, if_false, wp_act]
      have o1 := okA_okd h1
      have o2 := okA_okd h2
      have hb := s2201 m1 a1 m2 a2 (few_big f1) (few_big f2) 200 0 start1 _ (ap_ends o1 o2 f1 f2) (by omega) (by simp [start1]) (fun q hq => by
        rw [start1, List.mem_singleton] at hq; subst hq; simp)
      refine ⟨_, hb, ?_⟩
      have e : apF (m1, a1) (m2, a2) = (match apO (m1, a1) (m2, a2) with | none => (⟨#[]⟩, false, 0) | some t => (ofBytes t, true, 0)) := by unfold apF; rw [if_pos ⟨h1, h2⟩]
      rw [e]
      cases apO (m1, a1) (m2, a2) <;> rfl
    · rw [if_neg h2]
      have e : apF (m1, a1) (m2, a2) = (⟨#[]⟩, false, 30) := by unfold apF; rw [if_neg (fun h => h2 h.2)]
      rw [e]
      have e3 : ((30 : Int) != 0) = true := rfl
      simp only [e3, if_true]
      rfl
  · rw [if_neg h1]
    have e : apF (m1, a1) (m2, a2) = (⟨#[]⟩, false, 30) := by unfold apF; rw [if_neg (fun h => h1 h.1)]
    rw [e]
    have e3 : ((30 : Int) != 0) = true := rfl
    simp only [e3, if_true]
    rfl

/-! ### turned; with itself -/
def turnQ (q : Q1) : Q1 := ((q.1.2, q.1.1), q.2)

theorem ex1_turn {δ δ' : Pr → Int → Pr} (h : ∀ a b c, δ' (b, a) c = ((δ (a, b) c).2, (δ (a, b) c).1)) (p : Pr) (t : List Int) : ∀ (l : List Int) (acc : List Q1), l.foldl (ex1 δ' (p.2, p.1) t) (acc.map turnQ) = (l.foldl (ex1 δ p t) acc).map turnQ := by
  intro l
  induction l with
  | nil => intro acc; rfl
  | cons c l ih =>
    intro acc
    rw [List.foldl_cons, List.foldl_cons, ← ih]
    congr 1
    unfold ex1
    have e : δ' (p.2, p.1) c = ((δ p c).2, (δ p c).1) := h p.1 p.2 c
    have ea : (acc.map turnQ).any (fun q => decide (q.1 = δ' (p.2, p.1) c)) = acc.any (fun q => decide (q.1 = δ p c)) := by
      rw [List.any_map, e]
      congr 1
      funext q
      obtain ⟨⟨a, b⟩, t⟩ := q
      generalize δ p c = r
      obtain ⟨r1, r2⟩ := r
      show decide ((b, a) = (r2, r1)) = decide ((a, b) = (r1, r2))
      rw [decide_eq_decide, Prod.mk.injEq, Prod.mk.injEq]
      exact And.comm
    rw [ea, e]
    split
    · rfl
    · rw [List.map_append]; rfl

theorem bfs_turn {δ δ' : Pr → Int → Pr} {tell tell' : Pr → Bool} (h : ∀ a b c, δ' (b, a) c = ((δ (a, b) c).2, (δ (a, b) c).1)) (ht : ∀ a b, tell' (b, a) = tell (a, b)) : ∀ (f k : Nat) (acc : List Q1), bfs δ' tell' f k (acc.map turnQ) = bfs δ tell f k acc := by
  intro f
  induction f with
  | zero => intro k acc; rfl
  | succ f ih =>
    intro k acc
    simp only [bfs, List.getElem?_map]
    cases hq : acc[k]? with
    | none => rfl
    | some q =>
      show (if tell' (q.1.2, q.1.1) = true then some (some q.2) else bfs δ' tell' f (k + 1) (exAll δ' (q.1.2, q.1.1) q.2 (acc.map turnQ))) = (if tell q.1 = true then some (some q.2) else bfs δ tell f (k + 1) (exAll δ q.1 q.2 acc))
      rw [show tell' (q.1.2, q.1.1) = tell q.1 from ht q.1.1 q.1.2]
      unfold exAll
      rw [ex1_turn h, ih]

theorem apO_turn (d b : Dfa) : apO b d = apO d b := by
  unfold apO
  have := bfs_turn (δ := δR d.1 b.1) (δ' := δR b.1 d.1) (tell := tellR d.2 b.2) (tell' := tellR b.2 d.2) (fun a b c => rfl) (fun x y => by
    show (toldF b.2 y != toldF d.2 x) = (toldF d.2 x != toldF b.2 y)
    rw [Bool.eq_iff_iff]; simp only [bne_iff_ne]; exact ne_comm) 200 0 start1
  rw [← this]
  rfl

theorem apF_turn (d b : Dfa) : apF b d = apF d b := by
  unfold apF
  rw [apO_turn]
  by_cases h : okA d = true ∧ okA b = true
  · rw [if_pos h, if_pos ⟨h.2, h.1⟩]
  · rw [if_neg h, if_neg (fun h2 => h ⟨h2.2, h2.1⟩)]

theorem ex1_diag {δ : Pr → Int → Pr} {I : Pr → Prop} (hδ : ∀ p c, I p → I (δ p c)) {p : Pr} (hp : I p) (t : List Int) : ∀ (l : List Int) (acc : List Q1), (∀ q ∈ acc, I q.1) → ∀ q ∈ l.foldl (ex1 δ p t) acc, I q.1 := by
  intro l
  induction l with
  | nil => intro acc h; exact h
  | cons c l ih =>
    intro acc h
    refine ih _ fun q hq => ?_
    unfold ex1 at hq
    split at hq
    · exact h q hq
    · rcases List.mem_append.1 hq with h1 | h1
      · exact h q h1
      · rw [List.mem_singleton.1 h1]; exact hδ p c hp

theorem bfs_none {δ : Pr → Int → Pr} {tell : Pr → Bool} {I : Pr → Prop} (hδ : ∀ p c, I p → I (δ p c)) (ht : ∀ p, I p → tell p = false) : ∀ (f k : Nat) (acc : List Q1) (r : Option (List Int)), (∀ q ∈ acc, I q.1) → bfs δ tell f k acc = some r → r = none := by
  intro f
  induction f with
  | zero => intro k acc r _ h; cases h
  | succ f ih =>
    intro k acc r hI h
    simp only [bfs] at h
    cases hq : acc[k]? with
    | none => rw [hq] at h; cases h; rfl
    | some q =>
      rw [hq] at h
      have hm : q ∈ acc := List.mem_of_getElem? hq
      have h : (if tell q.1 = true then some (some q.2) else bfs δ tell f (k + 1) (exAll δ q.1 q.2 acc)) = some r := h
      rw [ht q.1 (hI q hm), if_neg (by simp)] at h
      exact ih _ _ _ (ex1_diag hδ (hI q hm) q.2 cs acc hI) h

theorem apO_self {d : Dfa} : apO d d = none := by
  unfold apO
  cases hb : bfs (δR d.1 d.1) (tellR d.2 d.2) 200 0 start1 with
  | none => rfl
  | some r =>
    refine bfs_none (I := fun p => p.1 = p.2) (fun p c hp => ?_) (fun p hp => ?_) 200 0 start1 r (fun q hq => ?_) hb
    · show nx d.1 p.1 c = nx d.1 p.2 c
      rw [show p.1 = p.2 from hp]
    · show (toldF d.2 p.1 != toldF d.2 p.2) = false
      rw [show p.1 = p.2 from hp]; simp
    · rw [start1, List.mem_singleton] at hq; subst hq; rfl

theorem strEq_self (s : ByteArray) : strEq s s = true := by unfold strEq; simp

/-! ### the statements -/
theorem s500 (m1 : List (List Move)) (a1 : List Int) (m2 : List (List Move)) (a2 : List Int) (t1 : TyD (m1, a1)) (t2 : TyD (m2, a2)) : S 500 (((m1, a1), (m2, a2), ()), ()) ((true, ()), ()) := by
  refine r500 _ _ _ _ ?_
  simp only [t5, wp_act]
  refine ⟨_, s1000, _, s1100 m1 a1, ?_⟩
  cases f1 : fewF (m1, a1) with
  | false => rfl
  | true =>
    simp only [wp_ite, Bool.not_true, Bool.false_eq_true, if_false, wp_act]
    refine ⟨_, s1100 m2 a2, ?_⟩
    cases f2 : fewF (m2, a2) with
    | false => rfl
    | true =>
      simp only [wp_ite, Bool.not_true, Bool.false_eq_true, if_false, wp_act]
      refine ⟨_, s2100 m1 a1 m2 a2 f1 f2 t1 t2, _, s2200 m1 a1 m2 a2 f1 f2 t1 t2, ?_⟩
      simp only [wp_ret, strEq_self, beq_self_eq_true, Bool.and_self]

theorem s900 (m1 : List (List Move)) (a1 : List Int) (m2 : List (List Move)) (a2 : List Int) (t1 : TyD (m1, a1)) (t2 : TyD (m2, a2)) : S 900 (((m1, a1), (m2, a2), ()), ()) ((true, ()), ()) := by
  refine r900 _ _ _ _ ?_
  simp only [t9, wp_act]
  refine ⟨_, s1000, _, s1100 m1 a1, ?_⟩
  cases f1 : fewF (m1, a1) with
  | false => rfl
  | true =>
    simp only [wp_ite, Bool.not_true, Bool.false_eq_true, if_false, wp_act]
    refine ⟨_, s1100 m2 a2, ?_⟩
    cases f2 : fewF (m2, a2) with
    | false => rfl
    | true =>
      simp only [wp_ite, Bool.not_true, Bool.false_eq_true, if_false, wp_act]
      refine ⟨_, s2100 m1 a1 m2 a2 f1 f2 t1 t2, _, s2100 m2 a2 m1 a1 f2 f1 t2 t1, _, s2100 m1 a1 m1 a1 f1 f1 t1 t1, ?_⟩
      rw [apF_turn (m1, a1) (m2, a2)]
      have hs : (apF (m1, a1) (m1, a1)).2.1 = false := by
        unfold apF
        rw [apO_self]
        split <;> rfl
      have hg : ((apF (m1, a1) (m1, a1)).2.2 == 0 || (apF (m1, a1) (m2, a2)).2.2 != 0) = true := by
        unfold apF
        rw [apO_self]
        by_cases h : okA (m1, a1) = true
        · rw [if_pos ⟨h, h⟩]; rfl
        · rw [if_neg (fun h2 => h h2.1), if_neg (fun h2 => h h2.1)]; rfl
      simp only [wp_ite, wp_ret, strEq_self, beq_self_eq_true, Bool.and_self, hs, Bool.not_false, if_true, hg]

end Go.Proofs.YtjmnjimlkljhjaaV

/- What an automaton that was read is: numbers of their kinds. -/
set_option linter.unusedVariables false
namespace Go.Proofs.YtjmnjimlkljhjaaV
open Go Go.Proofs

theorem wf_tyD {d : El tD} (h : WfE tD d) : TyD d := by
  obtain ⟨⟨_, h1⟩, _, h2⟩ := h
  refine ⟨fun l hl m hm => ?_, fun a ha => ?_⟩
  · obtain ⟨w1, w2, w3⟩ := (h1 l hl).2 m hm
    have w1 : (decide (IntKind.u8.min ≤ m.1) && decide (m.1 ≤ IntKind.u8.max)) = true := w1
    have w2 : (decide (IntKind.u8.min ≤ m.2.1) && decide (m.2.1 ≤ IntKind.u8.max)) = true := w2
    have w3 : (decide (IntKind.i64.min ≤ m.2.2) && decide (m.2.2 ≤ IntKind.i64.max)) = true := w3
    simp only [Bool.and_eq_true, decide_eq_true_eq] at w1 w2 w3
    exact ⟨w1.1, w1.2, w2.1, w2.2, w3.1, w3.2⟩
  · have w : (decide (IntKind.i64.min ≤ a) && decide (a ≤ IntKind.i64.max)) = true := h2 a ha
    simp only [Bool.and_eq_true, decide_eq_true_eq] at w
    exact w

end Go.Proofs.YtjmnjimlkljhjaaV
