/- Guards; a region in the text's order. -/
import Derived.Test.YtjmnjimlkljhjaaVA2
import Derived.Orders
set_option linter.unusedVariables false
namespace Go.Proofs.YtjmnjimlkljhjaaV
open Go

section
variable {Γ : Nat → Sig} {X : Type}

theorem decideG_ok {E : Env} {σ : St} {a : Act} (h : SR E σ a) {tc : Nat} {v : Bool} (ht : tmOf a tc = .bool v) : SR E (decideG tc v σ) a := by
  refine ⟨h.mr, h.get, h.u, h.d, by simpa [decideG] using h.len, fun t => ?_⟩
  show VRep E _ (((σ.tmps.map _).set tc (.kb v)).getD t .dead) _
  rw [getD_set]
  split
  · rename_i e
    obtain ⟨rfl, _⟩ := e
    rw [ht]
    exact CRep.kb v
  · have h1 := h.tmp t
    by_cases hl : t < σ.tmps.length
    · have e1 : ∀ f : AV → AV, (σ.tmps.map f).getD t .dead = f (σ.tmps.getD t .dead) := by
        intro f
        rw [List.getD_eq_getElem?_getD, List.getElem?_map, List.getD_eq_getElem?_getD, List.getElem?_eq_getElem hl]
        rfl
      rw [e1]
      generalize σ.tmps.getD t .dead = x at h1
      split
      · rename_i tc' b y
        split
        · rename_i e
          subst e
          split
          · rename_i e
            subst e
            exact (h1.1 ht).ok
          · rename_i e
            have : tmOf a tc' = .bool (!b) := by rw [ht]; cases b <;> cases v <;> simp_all
            rw [h1.2 this]
            exact .mkv _
        · exact h1
      · exact h1
    · have e1 : ∀ f : AV → AV, (σ.tmps.map f).getD t .dead = .dead := by
        intro f
        rw [List.getD_eq_getElem?_getD, List.getElem?_eq_none (by simp; omega)]; rfl
      rw [e1]; exact trivial

theorem wanted_at {ops : Array Oper} {o : Oper} {a : Act} {j tc : Nat} {w : Bool} (hg : o.guard = some (j, w)) (ht : (ops[j]?).bind (·.dst) = some tc) :
    Region.wanted o (yielded ops a.tmps) = (match tmOf a tc with | .bool b => b == w | _ => false) := by
  have hy : yielded ops a.tmps j = match tmOf a tc with | .bool b => some b | _ => none := by
    unfold yielded
    rw [ht]
    simp only [Option.bind_some, tmOf, Array.getD_eq_getD_getElem?]
    cases a.tmps[tc]? with
    | none => rfl
    | some v => cases v <;> rfl
  simp only [Region.wanted, hg, hy]
  cases tmOf a tc <;> rfl

theorem xSkip_ok {P : Program} {E : Env} {σ : St} {a : Act} (h : SR E σ a) {nid : Nat} (hl : nid + 4 ≤ σ.mem.length) {o : Oper} {K : Kt Γ X} {Q : X → Prop} (hw : (xSkip σ o K).wp (SemR P Γ) Q)
    {KK : Act → World → Prop} (hK : Goes P E σ nid K Q KK) : KK (a.put o.dst undef) E.w := by
  unfold xSkip at hw
  split at hw
  case h_2 => exact hw.elim
  case h_1 σ' hp =>
    obtain ⟨hsr, hml⟩ := put_ok h (.refl h.mr nid) hl (x := und) (v := undef) (.mkv _) (show putT { σ with mem := applyE σ.mem [] } o.dst und = some σ' from hp)
    exact hK σ' _ _ E _ hsr (.refl E) (.refl E) (fun id hu => .inl hu) hml hw

variable {ops : Array Oper} {Qx : Exit → Act → World → Prop}

theorem wpOp_yes {P : Program} {i : Nat} {o : Oper} (ho : ops[i]? = some o) {a : Act} {w : World} (hw : Region.wanted o (yielded ops a.tmps) = true) {K : Act → World → Prop} (h : o.wp P a w K Qx) : wpOp P ops Qx i K a w := by
  unfold wpOp
  rw [ho]
  simp only [hw, if_true]
  exact .inl h

theorem wpOp_no {P : Program} {i : Nat} {o : Oper} (ho : ops[i]? = some o) {a : Act} {w : World} (hw : Region.wanted o (yielded ops a.tmps) = false) {K : Act → World → Prop} (h : K (a.put o.dst undef) w) : wpOp P ops Qx i K a w := by
  unfold wpOp
  rw [ho]
  simp only [hw, Bool.false_eq_true, if_false]
  exact h

theorem xUnder_ok {c : Cfg Γ} {E : Env} {σ : St} {a : Act} (h : SR E σ a) {nid : Nat} (hf : ∀ k, k < 4 → ¬ E.U (nid + k)) (hl : nid + 4 ≤ σ.mem.length) {all : List Oper} {i tc : Nat} {w : Bool} {o : Oper} (ho : ops[i]? = some o)
    (hwt : ∀ a : Act, Region.wanted o (yielded ops a.tmps) = (match tmOf a tc with | .bool b => b == w | _ => false)) {K : Kt Γ X} {Q : X → Prop} (hw : (xUnder c all σ nid tc w o K).wp (SemR c.P Γ) Q)
    {KK : Act → World → Prop} (hK : Goes c.P E σ nid K Q KK) : wpOp c.P ops Qx i KK a E.w := by
  have hslot := h.tmp tc
  unfold xUnder at hw
  split at hw
  · rename_i b hb
    rw [hb] at hslot
    have e := hslot.iskb
    split at hw
    · rename_i hbw
      subst hbw
      exact wpOp_yes ho (by rw [hwt, e]; simp) (xOp_ok h hf hl hw hK Qx)
    · rename_i hbw
      exact wpOp_no ho (by rw [hwt, e]; simpa using hbw) (xSkip_ok h hl hw hK)
  · rename_i b hb
    rw [hb] at hslot
    have e := hslot.isv
    split at hw
    · rename_i q σ' hm
      obtain ⟨hq, hk⟩ := chks_wp hw
      unfold xMaybe at hm
      split at hm
      · cases hm
      · split at hm
        case h_2 => cases hm
        case h_1 r hr =>
          split at hm
          case h_2 => cases hm
          case h_1 heff =>
            split at hm
            case h_2 => cases hm
            case h_1 σ2 hput =>
              split at hm
              case isTrue => cases hm
              case isFalse hcond =>
                cases hm
                have hcond1 : o.dst ≠ some tc := fun h => hcond (.inl h)
                have hcond2 : plainSlot r.val = true := by
                  cases hp : plainSlot r.val with
                  | true => rfl
                  | false => exact absurd (Or.inr hp) hcond
                have hg : σ.get = E.get := funext fun id => (h.get id).symm
                by_cases hbw : b = w
                · subst hbw
                  refine wpOp_yes ho (by rw [hwt, e]; simp) ?_
                  have hcs : ∀ x ∈ r.conds, x = true := by
                    intro x hx
                    have := hq _ (List.mem_map.2 ⟨x, hx, rfl⟩)
                    cases b <;> simpa using this
                  rw [hg] at hr
                  obtain ⟨E2, nx, v, hrun, hnv, hval, hst⟩ := aStep_ok h.mr (hn := by have := hf 0 (by omega); simpa using this) (evG_ok h (g := some (tc, b)) (fun tc' b' e' => by cases e'; exact e)) (evO_ok h) (eval_tmp a) hr hcs
                  rw [heff] at hst
                  have hx : VRep E2 (tmOf a) (.opt tc b r.val) v := ⟨fun _ => hval.of1 hcond2, fun e' => by rw [e] at e'; cases b <;> cases e'⟩
                  obtain ⟨hsr, hml⟩ := put_ok h hst.step hl hx (show putT { σ with mem := applyE σ.mem [] } o.dst (.opt tc b r.val) = some σ' from hput)
                  have := hK σ' _ _ E2 _ hsr hst.step.same hst.mv hst.step.U hml hk
                  unfold Oper.wp
                  rw [hrun]
                  cases nx with
                  | value v' => cases hnv; exact this
                  | skip => cases hnv; exact this
                  | _ => cases hnv
                · refine wpOp_no ho (by rw [hwt, e]; simpa using hbw) ?_
                  have hx : VRep E (tmOf a) (.opt tc w r.val) undef := ⟨fun e' => by rw [e] at e'; cases e'; exact absurd rfl hbw, fun _ => rfl⟩
                  obtain ⟨hsr, hml⟩ := put_ok h (.refl h.mr nid) hl hx (show putT { σ with mem := applyE σ.mem [] } o.dst (.opt tc w r.val) = some σ' from hput)
                  exact hK σ' _ _ E _ hsr (.refl E) (.refl E) (fun id hu => .inl hu) hml hk
    · have hw : if b then (if w then xOp c (decideG tc true σ) nid o K else xSkip (decideG tc true σ) o K).wp (SemR c.P Γ) Q else (if w then xSkip (decideG tc false σ) o K else xOp c (decideG tc false σ) nid o K).wp (SemR c.P Γ) Q := hw
      cases b with
      | true =>
        have hd := decideG_ok h e
        have hK' : Goes c.P E (decideG tc true σ) nid K Q KK := hK
        simp only [if_true] at hw
        cases w with
        | true => exact wpOp_yes ho (by rw [hwt, e]; rfl) (xOp_ok hd hf hl hw hK' Qx)
        | false => exact wpOp_no ho (by rw [hwt, e]; rfl) (xSkip_ok hd hl hw hK')
      | false =>
        have hd := decideG_ok h e
        have hK' : Goes c.P E (decideG tc false σ) nid K Q KK := hK
        simp only [Bool.false_eq_true, if_false] at hw
        cases w with
        | true => exact wpOp_no ho (by rw [hwt, e]; rfl) (xSkip_ok hd hl hw hK')
        | false => exact wpOp_yes ho (by rw [hwt, e]; rfl) (xOp_ok hd hf hl hw hK' Qx)
  · rename_i x hx1 hx2
    split at hw
    case isFalse => exact hw.elim
    case isTrue hu =>
      unfold isUnd at hu
      split at hu
      case h_2 => cases hu
      case h_1 arr hx =>
        rw [hx] at hslot
        have e := hslot.isv
        exact wpOp_no ho (by rw [hwt, e]) (xSkip_ok h hl hw hK)

theorem xOne_ok {c : Cfg Γ} {E : Env} {σ : St} {a : Act} (h : SR E σ a) {nid : Nat} (hf : ∀ k, k < 4 → ¬ E.U (nid + k)) (hl : nid + 4 ≤ σ.mem.length) {i : Nat} {o : Oper} (ho : ops[i]? = some o)
    {K : Kt Γ X} {Q : X → Prop} (hw : (xOne c ops.toList σ nid o K).wp (SemR c.P Γ) Q) {KK : Act → World → Prop} (hK : Goes c.P E σ nid K Q KK) : wpOp c.P ops Qx i KK a E.w := by
  unfold xOne at hw
  split at hw
  · rename_i hg
    exact wpOp_yes ho (by simp [Region.wanted, hg]) (xOp_ok h hf hl hw hK Qx)
  · rename_i j w hg
    split at hw
    case h_2 => exact hw.elim
    case h_1 tc htc =>
      have htc' : (ops[j]?).bind (·.dst) = some tc := by rw [Array.getElem?_toList] at htc; exact htc
      have hwt := fun a : Act => wanted_at (a := a) hg htc'
      split at hw
      · rename_i tc0 b0 y0 hs
        split at hw
        case h_2 => exact hw.elim
        case h_1 b hb =>
          have h0 := h.tmp tc0
          rw [hb] at h0
          have e := h0.isv
          have hw : if b then (xUnder c ops.toList (decideG tc0 true σ) nid tc w o K).wp (SemR c.P Γ) Q else (xUnder c ops.toList (decideG tc0 false σ) nid tc w o K).wp (SemR c.P Γ) Q := hw
          cases b with
          | true => exact xUnder_ok (decideG_ok h e) hf hl ho hwt (by simpa using hw) hK
          | false => exact xUnder_ok (decideG_ok h e) hf hl ho hwt (by simpa using hw) hK
      · exact xUnder_ok h hf hl ho hwt hw hK


theorem unOpt_ok {E : Env} {σ : St} {a : Act} (h : SR E σ a) : SR E { σ with tmps := σ.tmps.map unOpt } a := by
  refine ⟨h.mr, h.get, h.u, h.d, by simpa using h.len, fun t => ?_⟩
  show VRep E _ ((σ.tmps.map unOpt).getD t .dead) _
  have h1 := h.tmp t
  by_cases hl : t < σ.tmps.length
  · have e1 : (σ.tmps.map unOpt).getD t .dead = unOpt (σ.tmps.getD t .dead) := by
      rw [List.getD_eq_getElem?_getD, List.getElem?_map, List.getD_eq_getElem?_getD, List.getElem?_eq_getElem hl]
      rfl
    rw [e1]
    generalize σ.tmps.getD t .dead = x at h1
    cases x with
    | opt a b c => exact trivial
    | _ => exact h1
  · have e1 : (σ.tmps.map unOpt).getD t .dead = .dead := by rw [List.getD_eq_getElem?_getD, List.getElem?_eq_none (by simp; omega)]; rfl
    rw [e1]; exact trivial

theorem grow_ok {E : Env} {σ : St} {a : Act} (h : SR E σ a) (n : Nat) : SR E { σ with mem := σ.mem ++ List.replicate n none } a := by
  refine ⟨h.mr, fun id => ?_, fun id hu => ?_, h.d, h.len, h.tmp⟩
  · rw [h.get]
    simp only [St.get, List.getD_eq_getElem?_getD]
    by_cases hl : id < σ.mem.length
    · rw [List.getElem?_append_left hl]
    · rw [List.getElem?_append_right (by omega), List.getElem?_eq_none (by omega), List.getElem?_replicate]
      split <;> rfl
  · have := h.u id hu
    simp only [List.length_append, List.length_replicate]
    omega

theorem numbered_get {α : Type} : ∀ (l : List α) (n k : Nat) (p : Nat × α), (numbered n l)[k]? = some p → p.1 = n + k ∧ l[k]? = some p.2 := by
  intro l
  induction l with
  | nil => intro n k p h; simp [numbered] at h
  | cons x l ih =>
    intro n k p h
    cases k with
    | zero => simp [numbered] at h; subst h; exact ⟨rfl, rfl⟩
    | succ k =>
      have := ih (n + 1) k p (by simpa [numbered] using h)
      exact ⟨by omega, by simpa using this.2⟩

/-- The operations of a region, one behind the other. -/
theorem xOps_ok {c : Cfg Γ} {base : Nat} {K : St → Tree Γ X} {Q : X → Prop} {N : Nat} : ∀ (l : List Oper) (n : Nat) {E : Env} {σ : St} {a : Act}, (∀ k, l[k]? = ops[n + k]?) → SR E σ a → (∀ id, E.U id → id < base + 4 * n) → σ.mem.length = base + 4 * N → n + l.length = N →
    (xOps c ops.toList K base (numbered n l) σ).wp (SemR c.P Γ) Q → (∀ σ' E' a', SR E' σ' a' → Same E E' → Mv E E' → (K σ').wp (SemR c.P Γ) Q → Qx .normal a' E'.w) → wpOps c.P ops Qx (List.range' n l.length) a E.w := by
  intro l
  induction l with
  | nil =>
    intro n E σ a hl h hU hm hn hw hK
    exact hK σ E a h (.refl E) (.refl E) hw
  | cons o l ih =>
    intro n E σ a hl h hU hm hn hw hK
    rw [List.length_cons] at hn
    have ho : ops[n]? = some o := by have := hl 0; simpa using this.symm
    simp only [numbered, xOps] at hw
    rw [List.length_cons, List.range'_succ, wpOps_cons]
    refine xOne_ok h (nid := base + 4 * n) (fun k hk hu => by have := hU _ hu; omega) (by omega) ho hw ?_
    intro σ' mr mw E' a' hsr hsame hmv hU' hml hk
    have hl' : ∀ k, l[k]? = ops[n + 1 + k]? := fun k => by
      have := hl (k + 1)
      have e : n + (k + 1) = n + 1 + k := by omega
      rw [e] at this
      simpa using this
    refine ih (n + 1) hl' hsr (fun id hu => ?_) (by rw [hml, hm]) (by omega) hk (fun σ2 E2 a2 h1 h2 h2' h3 => hK σ2 E2 a2 h1 (hsame.trans h2) (hmv.trans h2') h3)
    rcases hU' id hu with h1 | h1
    · have := hU id h1; omega
    · omega

theorem region_text {c : Cfg Γ} {E : Env} {σ : St} {a : Act} (h : SR E σ a) {rid : Nat} {K : St → Tree Γ X} {Q : X → Prop} (hw : (xRegion c ops.toList false σ K).wp (SemR c.P Γ) Q)
    (hK : ∀ σ' E' a', SR E' σ' a' → Same E E' → Mv E E' → (K σ').wp (SemR c.P Γ) Q → Qx .normal a' E'.w) : (Code.region rid ops false).wp c.P Qx a E.w := by
  refine wp_region ?_
  rw [List.range_eq_range', ← Array.length_toList]
  unfold xRegion at hw
  simp only [Bool.false_eq_true, if_false] at hw
  refine xOps_ok (N := ops.toList.length) ops.toList 0 (fun k => by simp) (grow_ok h _) (fun id hu => by have := h.u id hu; omega) (by simp) (by omega) hw fun σ' E' a' h1 h2 h2' h3 => hK _ E' a' (unOpt_ok h1) h2 h2' h3

end

end Go.Proofs.YtjmnjimlkljhjaaV

/- Codes; loops. -/
set_option linter.unusedVariables false
namespace Go.Proofs.YtjmnjimlkljhjaaV
open Go

section
variable {Γ : Nat → Sig} {X : Type}

/-- Drawn regions are as they are told. -/
def DrawOk (c : Cfg Γ) : Prop :=
  ∀ (X : Type) (E : Env) (σ : St) (a : Act) (ops : Array Oper) (rid : Nat) (K : St → Tree Γ X) (Q : X → Prop) (Qx : Exit → Act → World → Prop), SR E σ a → (xRegion c ops.toList true σ K).wp (SemR c.P Γ) Q →
    (∀ σ' E' a', SR E' σ' a' → Same E E' → Mv E E' → (K σ').wp (SemR c.P Γ) Q → Qx .normal a' E'.w) → (Code.region rid ops true).wp c.P Qx a E.w

/-- What a plan's contracts speak of is what stands there. -/
def actOk (Γ : Nat → Sig) (i : Nat) : Code → Prop
  | .loop b => (Γ i).what = .loop b
  | code => (Γ i).what = .code code

def PlanOk (Γ : Nat → Sig) : Code → Plan → Prop
  | code, .act i => actOk Γ i code
  | .seq x y, p => PlanOk Γ x p.l ∧ PlanOk Γ y p.r
  | .cond _ x y, p => PlanOk Γ x p.l ∧ PlanOk Γ y p.r
  | .block _ x, p => PlanOk Γ x p.l
  | _, _ => True

/-- Where a code goes on. -/
def CGoes (c : Cfg Γ) (E : Env) (K : Ex → St → Tree Γ X) (Q : X → Prop) (QQ : Exit → Act → World → Prop) : Prop :=
  ∀ e σ' E' a', SR E' σ' a' → Same E E' → Keep c.keep E E' → (K e σ').wp (SemR c.P Γ) Q → QQ (exOf e) a' E'.w

theorem act_code {c : Cfg Γ} {code : Code} {i : Nat} (ha : actOk Γ i code) {x : (Γ i).pre.T} {y : (Γ i).O} (hR : SemR c.P Γ i x y) {E : Env} {a : Act} (h : SR E ((Γ i).pre.inst x) a) (hu : ∀ j, j < (Γ i).keep → E.U j) :
    code.wp c.P (EndsIn (Γ i).keep E (Γ i).outs y) a E.w := by
  have hR : Sem c.P (Γ i) x y := hR
  unfold Sem at hR
  cases code with
  | loop b =>
    rw [show (Γ i).what = .loop b from ha] at hR
    obtain ⟨k, hk⟩ := hR
    exact wp_loop_rounds k (hk E a h hu)
  | _ =>
    rw [show (Γ i).what = .code _ from ha] at hR
    exact hR E a h hu

theorem xAct_ok {c : Cfg Γ} {code : Code} {i : Nat} (ha : actOk Γ i code) {E : Env} {σ : St} {a : Act} (h : SR E σ a) (hu : ∀ j, j < c.keep → E.U j) {K : Ex → St → Tree Γ X} {Q : X → Prop} (hw : (xAct c i σ K).wp (SemR c.P Γ) Q)
    {QQ : Exit → Act → World → Prop} (hK : CGoes c E K Q QQ) : code.wp c.P QQ a E.w := by
  unfold xAct at hw
  split at hw
  case h_2 => exact hw.elim
  case h_1 s bd hf =>
    split at hw
    case isFalse => exact hw.elim
    case isTrue hq =>
      simp only [Bool.and_eq_true, beq_iff_eq] at hq
      obtain ⟨hkeep, hko⟩ := hq
      obtain ⟨E1, h1, h2, h3, h4, _⟩ := fitsTo_ok h hf
      have hk1 := h4 c.keep hko hu
      obtain ⟨y, hR, hrest⟩ := hw
      have hcode := act_code (c := c) ha hR h3 (by rw [hkeep]; exact hk1.u)
      rw [h1] at hcode
      refine wp_mono hcode fun e a' w' he => ?_
      rw [onOut_map (fun t : Tree Γ X => t.wp (SemR c.P Γ) Q)] at hrest
      refine onOut_elim he hrest fun e0 p z hq1 hq2 => ?_
      obtain ⟨rfl, E', hw', hsr, hs, hk⟩ := hq1
      rw [← hw']
      rw [hkeep] at hk
      exact hK e0 _ E' a' hsr (h2.trans hs) (hk1.trans hk) hq2

theorem xCode_ok {c : Cfg Γ} (hd : DrawOk c) : ∀ (code : Code) {pl : Plan}, PlanOk Γ code pl → ∀ {K : Ex → St → Tree Γ X} {Q : X → Prop} {E : Env} {σ : St} {a : Act}, SR E σ a → (∀ j, j < c.keep → E.U j) → (xCode c code pl K σ).wp (SemR c.P Γ) Q →
    ∀ {QQ : Exit → Act → World → Prop}, CGoes c E K Q QQ → code.wp c.P QQ a E.w := by
  intro code
  induction code with
  | skip =>
    intro pl hp K Q E σ a h hu hw QQ hK
    cases pl with
    | act i => exact xAct_ok (by unfold PlanOk at hp; exact hp) h hu (by unfold xCode at hw; exact hw) hK
    | _ => exact wp_skip (hK .normal σ E a h (.refl E) (.refl hu) (by unfold xCode at hw; exact hw))
  | region id ops d =>
    intro pl hp K Q E σ a h hu hw QQ hK
    cases pl with
    | act i => exact xAct_ok (by unfold PlanOk at hp; exact hp) h hu (by unfold xCode at hw; exact hw) hK
    | _ =>
      have hw : (xRegion c ops.toList d σ (K .normal)).wp (SemR c.P Γ) Q := by unfold xCode at hw; exact hw
      cases d with
      | false => exact region_text h hw fun σ' E' a' h1 h2 h3 h4 => hK .normal σ' E' a' h1 h2 (h3.keep hu) h4
      | true => exact hd X E σ a ops id (K .normal) Q QQ h hw fun σ' E' a' h1 h2 h3 h4 => hK .normal σ' E' a' h1 h2 (h3.keep hu) h4
  | seq x y ihx ihy =>
    intro pl hp K Q E σ a h hu hw QQ hK
    have main : PlanOk Γ x pl.l → PlanOk Γ y pl.r → (xCode c x pl.l (fun e σ => if isNormal e then xCode c y pl.r K σ else K e σ) σ).wp (SemR c.P Γ) Q → (Code.seq x y).wp c.P QQ a E.w := by
      intro h1 h2 hw
      refine wp_seq (ihx h1 h hu hw fun e σ' E' a' hs hsame hk hw' => ?_)
      cases e with
      | normal => exact ihy h2 hs hk.u (by simpa [isNormal] using hw') fun e2 σ2 E2 a2 k1 k2 k3 k4 => hK e2 σ2 E2 a2 k1 (hsame.trans k2) (hk.trans k3) k4
      | exit id => exact hK (.exit id) σ' E' a' hs hsame hk (by simpa [isNormal] using hw')
      | ret => exact hK .ret σ' E' a' hs hsame hk (by simpa [isNormal] using hw')
    cases pl with
    | act i => exact xAct_ok (by unfold PlanOk at hp; exact hp) h hu (by unfold xCode at hw; exact hw) hK
    | a => unfold PlanOk at hp; unfold xCode at hw; exact main hp.1 hp.2 hw
    | n p q => unfold PlanOk at hp; unfold xCode at hw; exact main hp.1 hp.2 hw
  | cond b x y ihx ihy =>
    intro pl hp K Q E σ a h hu hw QQ hK
    have main : PlanOk Γ x pl.l → PlanOk Γ y pl.r → (match evG none σ b with
        | .kb true => xCode c x pl.l K σ
        | .kb false => xCode c y pl.r K σ
        | .v (.bool b) => .ite b (xCode c x pl.l K σ) (xCode c y pl.r K σ)
        | _ => (.stuck "s8")).wp (SemR c.P Γ) Q → (Code.cond b x y).wp c.P QQ a E.w := by
      intro h1 h2 hw
      have hb := evG_ok h (g := none) (by simp) b
      split at hw
      · rename_i hv
        rw [hv] at hb
        exact wp_cond_true hb.iskb (ihx h1 h hu hw hK)
      · rename_i hv
        rw [hv] at hb
        exact wp_cond_false hb.iskb (ihy h2 h hu hw hK)
      · rename_i bb hv
        rw [hv] at hb
        have hw : if bb then (xCode c x pl.l K σ).wp (SemR c.P Γ) Q else (xCode c y pl.r K σ).wp (SemR c.P Γ) Q := hw
        cases bb with
        | true => exact wp_cond_true hb.isv (ihx h1 h hu (by simpa using hw) hK)
        | false => exact wp_cond_false hb.isv (ihy h2 h hu (by simpa using hw) hK)
      · exact hw.elim
    cases pl with
    | act i => exact xAct_ok (by unfold PlanOk at hp; exact hp) h hu (by unfold xCode at hw; exact hw) hK
    | a => unfold PlanOk at hp; unfold xCode at hw; exact main hp.1 hp.2 hw
    | n p q => unfold PlanOk at hp; unfold xCode at hw; exact main hp.1 hp.2 hw
  | block id x ihx =>
    intro pl hp K Q E σ a h hu hw QQ hK
    have main : PlanOk Γ x pl.l → (xCode c x pl.l (fun e σ => if isExit id e then K .normal σ else K e σ) σ).wp (SemR c.P Γ) Q → (Code.block id x).wp c.P QQ a E.w := by
      intro h1 hw
      refine wp_block (ihx h1 h hu hw fun e σ' E' a' hs hsame hk hw' => ?_)
      cases e with
      | normal => exact hK .normal σ' E' a' hs hsame hk (by simpa [isExit] using hw')
      | exit id' =>
        show if id' = id then QQ .normal a' E'.w else QQ (.exit id') a' E'.w
        by_cases e : id' = id
        · rw [if_pos e]
          exact hK .normal σ' E' a' hs hsame hk (by simpa [isExit, e] using hw')
        · rw [if_neg e]
          exact hK (.exit id') σ' E' a' hs hsame hk (by simpa [isExit, e] using hw')
      | ret => exact hK .ret σ' E' a' hs hsame hk (by simpa [isExit] using hw')
    cases pl with
    | act i => exact xAct_ok (by unfold PlanOk at hp; exact hp) h hu (by unfold xCode at hw; exact hw) hK
    | a => unfold PlanOk at hp; unfold xCode at hw; exact main hp hw
    | n p q => unfold PlanOk at hp; unfold xCode at hw; exact main hp hw
  | exit id =>
    intro pl hp K Q E σ a h hu hw QQ hK
    cases pl with
    | act i => exact xAct_ok (by unfold PlanOk at hp; exact hp) h hu (by unfold xCode at hw; exact hw) hK
    | _ => exact wp_exit (hK (.exit id) σ E a h (.refl E) (.refl hu) (by unfold xCode at hw; exact hw))
  | ret =>
    intro pl hp K Q E σ a h hu hw QQ hK
    cases pl with
    | act i => exact xAct_ok (by unfold PlanOk at hp; exact hp) h hu (by unfold xCode at hw; exact hw) hK
    | _ => exact wp_ret (hK .ret σ E a h (.refl E) (.refl hu) (by unfold xCode at hw; exact hw))
  | _ =>
    intro pl hp K Q E σ a h hu hw QQ hK
    cases pl with
    | act i => exact xAct_ok (by unfold PlanOk at hp; exact hp) h hu (by unfold xCode at hw; exact hw) hK
    | _ => unfold xCode at hw; exact hw.elim

end

end Go.Proofs.YtjmnjimlkljhjaaV

/- Loops, pieces. -/
set_option linter.unusedVariables false
namespace Go.Proofs.YtjmnjimlkljhjaaV
open Go

section
variable {Γ : Nat → Sig} {X : Type}

/-- What a tree comes to is one thing. -/
theorem wp_outcome {R : Spec Γ} {Q : X → Prop} : ∀ {t : Tree Γ X}, t.wp R Q → ∃ r, Q r ∧ t.wp R (fun x => x = r) := by
  intro t
  induction t with
  | ret x => intro h; exact ⟨x, h, rfl⟩
  | stuck w => intro h; exact h.elim
  | ite b t e iht ihe =>
    intro h
    cases b with
    | true => obtain ⟨r, h1, h2⟩ := iht (show t.wp R Q from h); exact ⟨r, h1, h2⟩
    | false => obtain ⟨r, h1, h2⟩ := ihe (show e.wp R Q from h); exact ⟨r, h1, h2⟩
  | chk b t ih => intro h; obtain ⟨r, h1, h2⟩ := ih h.2; exact ⟨r, h1, h.1, h2⟩
  | act i s k ih =>
    intro h
    obtain ⟨y, hy, hk⟩ := h
    obtain ⟨r, h1, h2⟩ := ih y hk
    exact ⟨r, h1, y, hy, h2⟩

theorem fitsK_ok {n : Nat} {E : Env} {σ : St} {a : Act} (h : SR E σ a) (hu : ∀ j, j < n → E.U j) {p : Tpl} {x : p.T} (hf : fitsK n p σ = some x) : ∃ E', E'.w = E.w ∧ Same E E' ∧ SR E' (p.inst x) a ∧ Keep n E E' := by
  unfold fitsK at hf
  split at hf
  case h_2 => cases hf
  case h_1 x' bd hb =>
    split at hf
    case isFalse => cases hf
    case isTrue hk =>
      cases hf
      obtain ⟨E', h1, h2, h3, h4, _⟩ := fitsTo_ok h hb
      exact ⟨E', h1, h2, h3, h4 n hk hu⟩

theorem leaf_ok {n : Nat} {e : Ex} {E : Env} {σ : St} {a : Act} (h : SR E σ a) (hu : ∀ j, j < n → E.U j) : ∀ {l : List (Ex × Tpl)} {z : OutT l}, leafAt n e σ l = some z → EndsIn n E l z (exOf e) a E.w := by
  intro l
  induction l with
  | nil => intro z; exact nomatch z
  | cons o l ih =>
    intro z hl
    cases l with
    | nil =>
      simp only [leafAt] at hl
      split at hl
      case isFalse => cases hl
      case isTrue he =>
        subst he
        obtain ⟨E', h1, h2, h3, h4⟩ := fitsK_ok h hu hl
        exact ⟨rfl, E', h1, h3, h2, h4⟩
    | cons o' l =>
      simp only [leafAt] at hl
      split at hl
      · rename_i x hx
        cases hl
        split at hx
        case isFalse => cases hx
        case isTrue he =>
          subst he
          obtain ⟨E', h1, h2, h3, h4⟩ := fitsK_ok h hu hx
          exact ⟨rfl, E', h1, h3, h2, h4⟩
      · obtain ⟨z', hz, rfl⟩ := Option.map_eq_some_iff.1 hl
        exact ih hz

theorem EndsIn.from {n : Nat} {E E1 : Env} (hs : Same E E1) (hk : Keep n E E1) {l : List (Ex × Tpl)} {z : OutT l} {e : Exit} {a : Act} {w : World} (h : EndsIn n E1 l z e a w) : EndsIn n E l z e a w :=
  onOut_mono (Y := True) (Z := True) (fun _ _ _ ⟨h1, E', h2, h3, h4, h5⟩ => ⟨h1, E', h2, h3, hs.trans h4, hk.trans h5⟩) h

theorem rounds_mono {P : Program} {c : Code} {Q Q' : Exit → Act → World → Prop} (hq : ∀ e a w, Q e a w → Q' e a w) : ∀ {k : Nat} {a : Act} {w : World}, Code.rounds P c Q k a w → Code.rounds P c Q' k a w := by
  intro k
  induction k with
  | zero => intro a w h; exact h.elim
  | succ k ih =>
    intro a w h
    rw [rounds_succ] at h ⊢
    refine wp_mono h fun e a w he => ?_
    cases e with
    | normal => exact ih he
    | _ => exact hq _ _ _ he

/-- One more round of a loop, or its end. -/
theorem loop_step {c : Cfg Γ} (hd : DrawOk c) {i : Nat} {body : Code} (hw : (Γ i).what = .loop body) (hkeep : (Γ i).keep = c.keep) {pl : Plan} (hp : PlanOk Γ body pl) {x : (Γ i).pre.T} {y : (Γ i).O}
    (h : (roundT c i body pl x).wp (SemR c.P Γ) (fun r => match r with | .inl x' => SemR c.P Γ i x' y | .inr y' => y' = y)) : SemR c.P Γ i x y := by
  have toLoop : SemLoop c.P c.keep body (Γ i).pre (Γ i).outs x y → SemR c.P Γ i x y := by
    intro hl
    show Sem c.P (Γ i) x y
    unfold Sem
    rw [hw, hkeep]
    exact hl
  have ofLoop : ∀ {x' : (Γ i).pre.T}, SemR c.P Γ i x' y → SemLoop c.P c.keep body (Γ i).pre (Γ i).outs x' y := by
    intro x' hl
    have hl : Sem c.P (Γ i) x' y := hl
    unfold Sem at hl
    rw [hw, hkeep] at hl
    exact hl
  obtain ⟨r, hr, ht⟩ := wp_outcome h
  have run : ∀ (k : Nat), (∀ x', r = .inl x' → ∀ (E : Env) (a : Act), SR E ((Γ i).pre.inst x') a → (∀ j, j < c.keep → E.U j) → Code.rounds c.P body (EndsIn c.keep E (Γ i).outs y) k a E.w) → (∀ y', r = .inr y' → y' = y) → SemR c.P Γ i x y := by
    intro k hk hy
    refine toLoop ⟨k + 1, fun E a hsr hu => ?_⟩
    rw [rounds_succ]
    refine xCode_ok hd body hp hsr hu ht fun e σ' E' a' hs hsame hkp hleaf => ?_
    dsimp only at hleaf
    split at hleaf
    · rename_i hn
      split at hleaf
      · rename_i s hf
        have hrs : (Sum.inl s : (Γ i).pre.T ⊕ (Γ i).O) = r := hleaf
        obtain ⟨E2, h1, h2, h3, h4⟩ := fitsK_ok hs hkp.u hf
        have := hk s hrs.symm E2 a' h3 h4.u
        rw [h1] at this
        cases e with
        | normal => exact rounds_mono (fun e a w he => he.from (hsame.trans h2) (hkp.trans h4)) this
        | exit id => cases hn
        | ret => cases hn
      · exact hleaf.elim
    · rename_i hn
      split at hleaf
      · rename_i z hz
        have hrs : (Sum.inr z : (Γ i).pre.T ⊕ (Γ i).O) = r := hleaf
        have hzy := hy z hrs.symm
        subst hzy
        have := (leaf_ok hs hkp.u hz).from hsame hkp
        cases e with
        | normal => exact absurd rfl hn
        | exit id => exact this
        | ret => exact this
      · exact hleaf.elim
  cases r with
  | inl x' =>
    obtain ⟨k, hk⟩ := ofLoop hr
    exact run k (fun x'' e => by cases e; exact hk) (fun y' e => by cases e)
  | inr y' => exact run 0 (fun x' e => by cases e) (fun y'' e => by cases e; exact hr)

end

end Go.Proofs.YtjmnjimlkljhjaaV

/- Functions. -/
set_option linter.unusedVariables false
namespace Go.Proofs.YtjmnjimlkljhjaaV
open Go

section
variable {Γ : Nat → Sig} {X : Type} {P : Program}

def resOf (w : World) (tmps : Array Value) : ResultVar → Go.Sem Value
  | .tmp t => pure (tmps.getD t undef)
  | .cell a t => do loadVar t (← asAddr (tmps.getD a undef))

theorem VRep.any {E : Env} {tm tm' : Nat → Value} {x : AV} (hx : plainSlot x = true) {v : Value} (h : VRep E tm x v) : VRep E tm' x v := (h.of1 hx).ok

/-- One result. -/
theorem res_ok {E : Env} {σ : St} {a : Act} (h : SR E σ a) {r : ResultVar} {x : AV} (hr : resAV P σ r = some x) : ∃ v, (resOf E.w a.tmps r).run P E.w = .ok v E.w ∧ plainSlot x = true ∧ VRep E (tmOf a) x v := by
  cases r with
  | tmp t =>
    simp only [resAV] at hr
    split at hr
    case isFalse => cases hr
    case isTrue hp =>
      cases hr
      exact ⟨tmOf a t, rfl, hp, h.tmp t⟩
  | cell b T =>
    simp only [resAV] at hr
    split at hr
    case h_2 => cases hr
    case h_1 id off hs =>
      obtain ⟨r0, hl, hr⟩ := Option.bind_eq_some_iff.1 hr
      split at hr
      case isFalse => cases hr
      case isTrue hp =>
        cases hr
        have hb := h.tmp b
        rw [hs] at hb
        have hg : σ.get = E.get := funext fun id => (h.get id).symm
        rw [hg] at hl
        simp only [xLoad] at hl
        split at hl
        case h_2 => cases hl
        case h_1 B l hgg =>
          obtain ⟨y, hy, rfl⟩ := Option.map_eq_some_iff.1 hl
          cases hd : dropW off l with
          | none => rw [hd] at hy; cases hy
          | some l1 =>
            rw [hd] at hy
            simp only [Option.bind_some] at hy
            obtain ⟨bb, us, hv, hh, hcs, hcell⟩ := box_cells h.mr hgg
            obtain ⟨_, hc1⟩ := hcs.drop hd
            have hb' : CRep E (.ptr id off) (tmOf a b) := hb
            generalize he : tmOf a b = w0 at hb'
            cases hb' with
            | ptr _ _ _ hu h1 hr' =>
              obtain ⟨b', hv', rfl⟩ := hr' _ _ hgg
              rw [hv] at hv'
              cases hv'
              obtain ⟨v, hlv, hvr⟩ := takeT_load (tm := tmOf a) hy hc1 (ad := ⟨bb, off, none⟩) (fun i u hu => by rw [add_lit]; rw [List.getElem?_drop] at hu; exact hcell _ _ hu)
              refine ⟨v, ?_, hp, hvr⟩
              have he' : a.tmps.getD b undef = .pointer (some ⟨bb, off, none⟩) := he
              simp [resOf, he', asAddr, hlv]


theorem ress_ok {E : Env} {σ : St} {a : Act} (h : SR E σ a) : ∀ {l : List ResultVar} {xs : List AV}, resAVs P σ l = some xs → ∃ vs : List Value, (l.mapM (resOf E.w a.tmps)).run P E.w = .ok vs E.w ∧ vs.length = xs.length ∧
    (∀ s v, vs[s]? = some v → VRep E (tmOf a) (xs.getD s .dead) v) ∧ ∀ x ∈ xs, plainSlot x = true := by
  intro l
  induction l with
  | nil => intro xs hx; cases hx; exact ⟨[], by simp, rfl, by simp, by simp⟩
  | cons r l ih =>
    intro xs hx
    simp only [resAVs] at hx
    split at hx
    case h_2 => cases hx
    case h_1 x xs' h1 h2 =>
      cases hx
      obtain ⟨v, hv, hp, hr⟩ := res_ok h h1
      obtain ⟨vs, k1, k2, k3, k4⟩ := ih h2
      refine ⟨v :: vs, by simp [List.mapM_cons, hv, k1], by simp [k2], fun s u hs => ?_, fun y hy => ?_⟩
      · cases s with
        | zero => simp at hs; subst hs; exact hr
        | succ s => simpa using k3 s u (by simpa using hs)
      · rcases List.mem_cons.1 hy with rfl | hy
        · exact hp
        · exact k4 y hy

/-- All results as one. -/
def oneV : List Value → Value
  | [v] => v
  | vs => .tuple vs.toArray

theorem results_run {E : Env} {σ : St} {a : Act} {fn : Func} {xs : List AV} {vs : List Value} (hv : (fn.results.toList.mapM (resOf E.w a.tmps)).run P E.w = .ok vs E.w) : (results fn a.tmps).run P E.w = .ok (oneV vs) E.w := by
  have hm : (fn.results.mapM (resOf E.w a.tmps)).run P E.w = .ok vs.toArray E.w := by
    rw [Array.mapM_eq_mapM_toList]
    simp [hv]
  have he : (results fn a.tmps) = (do let vs ← fn.results.mapM (resOf E.w a.tmps); pure (if h : vs.size = 1 then vs[0] else .tuple vs)) := by
    unfold results
    congr 1
  rw [he]
  simp only [Sem.run_bind, hm, Result.andThen_ok, Sem.run_pure]
  congr 1
  match vs with
  | [] => rfl
  | [v] => rfl
  | v :: v' :: vs => rfl

end

end Go.Proofs.YtjmnjimlkljhjaaV

/- Functions, from their entry to their results. -/
set_option linter.unusedVariables false
namespace Go.Proofs.YtjmnjimlkljhjaaV
open Go

section
variable {Γ : Nat → Sig} {X : Type} {P : Program}

/-- The one end of a function, and what its tree gives. -/
def oneOut : (l : List (Ex × Tpl)) → OutT l → (outTpl l).T → Prop
  | [_], y, z => y = z
  | [], _, _ => False
  | _ :: _ :: _, _, _ => False

theorem one_elim {l : List (Ex × Tpl)} {y : OutT l} {z : (outTpl l).T} (h : oneOut l y z) {F : (p : Tpl) → p.T → Prop} (hF : F (outTpl l) z) : onOut l y (fun _ p z => F p z) := by
  match l, y, z, h, hF with
  | [o], y, z, h, hF =>
    have h : y = z := h
    subst h
    exact hF

theorem ofCells_plain {fr : Bool} {t : Ty} {x : El t} : plainSlot (ofCells t (enc fr t x)) = true := by
  cases t <;> rfl

theorem instSL_plain {r : Nat → Nat} : ∀ {l : List (Nat × Tm)} (x : SL l) (acc : List AV), (∀ s, plainSlot (acc.getD s .dead) = true) → ∀ s, plainSlot ((instSL r l x acc).getD s .dead) = true := by
  intro l
  induction l with
  | nil => intro x acc h; exact h
  | cons p l ih =>
    intro x acc h
    obtain ⟨s0, t0⟩ := p
    have hset : ∀ v, plainSlot v = true → ∀ s, plainSlot ((acc.set s0 v).getD s .dead) = true := by
      intro v hv s
      rw [getD_set]
      split
      · exact hv
      · exact h s
    cases t0 with
    | hole fr t => exact ih x.2 _ (hset _ ofCells_plain)
    | _ => exact ih x _ (hset _ rfl)

theorem inst_plain {p : Tpl} (x : p.T) (s : Nat) : plainSlot ((p.inst x).tmps.getD s .dead) = true := by
  refine instSL_plain x.1 _ (fun s => ?_) s
  rw [List.getD_eq_getElem?_getD, List.getElem?_replicate]
  split <;> rfl

theorem inst_tlen {p : Tpl} (x : p.T) : (p.inst x).tmps.length = p.n := by
  show (instSL _ _ _ _).length = _
  rw [instSL_len, List.length_replicate]

theorem inst_mlen {p : Tpl} (x : p.T) : (p.inst x).mem.length = p.objs.length := instOL_len x.2

/-- The state at a function's entry. -/
theorem entry_sr {E : Env} {p : Tpl} {x : p.T} {vs : List Value} (h : Pre E p x vs) (n : Nat) :
    SR E { p.inst x with tmps := (p.inst x).tmps ++ List.replicate (n - (p.inst x).tmps.length) .dead } { tmps := vs.toArray ++ Array.replicate (n - vs.toArray.size) undef, defers := [] } := by
  refine ⟨h.mr, h.get, fun id hu => ?_, rfl, ?_, fun t => ?_⟩
  · show id < (p.inst x).mem.length
    rw [inst_mlen]
    exact (h.u id).1 hu
  · simp [inst_tlen, h.len]
  · by_cases ht : t < p.n
    · have h1 : t < (p.inst x).tmps.length := by rw [inst_tlen]; exact ht
      have h2 : t < vs.length := by rw [h.len]; exact ht
      have e1 : ((p.inst x).tmps ++ List.replicate (n - (p.inst x).tmps.length) AV.dead).getD t .dead = (p.inst x).tmps.getD t .dead := by
        rw [List.getD_eq_getElem?_getD, List.getElem?_append_left h1, ← List.getD_eq_getElem?_getD]
      have e2 : tmOf { tmps := vs.toArray ++ Array.replicate (n - vs.toArray.size) undef, defers := [] } t = vs[t] := by
        simp [tmOf, Array.getD_eq_getD_getElem?, Array.getElem?_append, h2]
      show VRep E _ (((p.inst x).tmps ++ List.replicate (n - (p.inst x).tmps.length) AV.dead).getD t .dead) _
      rw [e1, e2]
      exact (h.val t _ (List.getElem?_eq_getElem h2)).any (inst_plain x t)
    · have e1 : ((p.inst x).tmps ++ List.replicate (n - (p.inst x).tmps.length) AV.dead).getD t .dead = .dead := by
        rw [List.getD_eq_getElem?_getD, List.getElem?_append_right (by rw [inst_tlen]; omega), List.getElem?_replicate]
        split <;> rfl
      show VRep E _ (((p.inst x).tmps ++ List.replicate (n - (p.inst x).tmps.length) AV.dead).getD t .dead) _
      rw [e1]; exact trivial

theorem tup_mk {E : Env} {tm tm' : Nat → Value} {l : List AV} {vs : List Value} (hl : vs.length = l.length) (hp : ∀ s, plainSlot (l.getD s .dead) = true) (h : ∀ s v, vs[s]? = some v → VRep E tm (l.getD s .dead) v) : VRep E tm' (tupOf l) (oneV vs) := by
  have hreps : ∀ (l : List AV) (vs : List Value), vs.length = l.length → (∀ s, plainSlot (l.getD s .dead) = true) → (∀ s v, vs[s]? = some v → VRep E tm (l.getD s .dead) v) → VReps E l vs := by
    intro l
    induction l with
    | nil =>
      intro vs hl _ _
      cases vs with
      | nil => exact .nil
      | cons v vs => cases hl
    | cons x l ih =>
      intro vs hl hp h
      cases vs with
      | nil => cases hl
      | cons v vs => exact .cons x v l vs ((h 0 v rfl).of1 (hp 0)) (ih vs (by simpa using hl) (fun s => by simpa using hp (s + 1)) (fun s v hs => by simpa using h (s + 1) v (by simpa using hs)))
  match l, vs, hl with
  | [], [], _ => exact ⟨[], rfl, .nil⟩
  | [x], [v], _ => exact (h 0 v rfl).any (hp 0)
  | x :: y :: l, v :: u :: vs, hl => exact ⟨v :: u :: vs, rfl, hreps _ _ hl hp h⟩

theorem fn_ok {c : Cfg Γ} (hd : DrawOk c) {i : Nat} {f : FuncId} (hw : (Γ i).what = .fn f) {fn : Func} (hf : c.P.funcs[f]? = some fn) {code : Code} (hb : fn.body = some code) (hname : (fn.name == "runtime.NumGoroutine") = false)
    {pl : Plan} (hp : PlanOk Γ code pl) (hkeep : c.keep ≤ (Γ i).pre.objs.length) {x : (Γ i).pre.T} {y : (Γ i).O} (h : (funT c i fn code pl x).wp (SemR c.P Γ) (oneOut (Γ i).outs y)) : SemR c.P Γ i x y := by
  show Sem c.P (Γ i) x y
  unfold Sem
  rw [hw]
  refine ⟨⟨fn, hf, hname, by simp [hb]⟩, fun E vs hpre => ?_⟩
  obtain ⟨r, hone, ht⟩ := wp_outcome h
  refine one_elim (F := fun p z => Calls c.P f vs.toArray E.w fun e w' => ∃ v E', e = .returned v ∧ E'.w = w' ∧ Post E E' (Γ i).pre x p z v) hone ?_
  refine calls_of_wp hf hb ?_
  have hu0 : ∀ j, j < c.keep → E.U j := fun j hj => (hpre.u j).2 (by omega)
  refine xCode_ok hd code hp (entry_sr hpre fn.ntmps) hu0 ht fun e σ' E' a' hs hsame hk hleaf => ?_
  have main : (match resAVs c.P σ' fn.results.toList with
      | some l => match (if (outTpl (Γ i).outs).n == l.length then fitsTo c.keep (outTpl (Γ i).outs) { tmps := l, mem := σ'.mem } else none) with
        | some (x', b) => if stays c.keep (Γ i).pre.objs (outTpl (Γ i).outs).objs b.m && decide (c.keep ≤ (Γ i).pre.objs.length) then (Tree.ret x' : Tree Γ (outTpl (Γ i).outs).T) else (.stuck "s14")
        | none => (.stuck "s15")
      | none => (.stuck "s16")).wp (SemR c.P Γ) (fun x => x = r) → a'.defers = [] ∧ ∃ v, (results fn a'.tmps).run c.P E'.w = .ok v E'.w ∧ ∃ v' E2, Ending.returned v = .returned v' ∧ E2.w = E'.w ∧ Post E E2 (Γ i).pre x (outTpl (Γ i).outs) r v' := by
    intro hleaf
    split at hleaf
    case h_2 => exact hleaf.elim
    case h_1 l hl =>
      split at hleaf
      case h_2 => exact hleaf.elim
      case h_1 x' b hfit =>
        split at hfit
        case isFalse => cases hfit
        case isTrue hn =>
          split at hleaf
          case isFalse => exact hleaf.elim
          case isTrue hst =>
            have hxr : x' = r := hleaf
            subst hxr
            simp only [Bool.and_eq_true, decide_eq_true_eq] at hst
            have hn : (outTpl (Γ i).outs).n = l.length := by simpa using hn
            obtain ⟨vs', hrun, hlen, hval, hpl⟩ := ress_ok hs hl
            have hpl' : ∀ s, plainSlot (l.getD s .dead) = true := by
              intro s
              by_cases hsl : s < l.length
              · rw [List.getD_eq_getElem?_getD, List.getElem?_eq_getElem hsl]
                exact hpl _ (List.getElem_mem _)
              · rw [List.getD_eq_getElem?_getD, List.getElem?_eq_none (by omega)]; rfl
            have hsr : SR E' { tmps := l, mem := σ'.mem } { tmps := vs'.toArray, defers := [] } := by
              refine ⟨hs.mr, hs.get, hs.u, rfl, by simp [hlen], fun t => ?_⟩
              show VRep E' _ (l.getD t .dead) _
              by_cases ht : t < l.length
              · have h2 : t < vs'.length := by omega
                have e2 : tmOf { tmps := vs'.toArray, defers := [] } t = vs'[t] := by simp [tmOf, Array.getD_eq_getD_getElem?, h2]
                rw [e2]
                exact (hval t _ (List.getElem?_eq_getElem h2)).any (hpl' t)
              · rw [List.getD_eq_getElem?_getD, List.getElem?_eq_none (by omega)]; exact trivial
            obtain ⟨E2, h1, h2, h3, _, h5⟩ := fitsTo_ok hsr hfit
            refine ⟨hs.d, oneV vs', results_run (σ := σ') (xs := l) (E := E') hrun, oneV vs', E2, rfl, h1, ⟨h3.mr, hsame.trans h2, h3.get, fun id hu => by rw [← inst_mlen x']; exact h3.u id hu, ?_, fun j o o0 hg hg0 hr => ?_⟩⟩
            · refine tup_mk (tm := tmOf { tmps := vs'.toArray, defers := [] }) (by rw [inst_tlen, hlen, hn]) (inst_plain x') fun s v hsv => ?_
              have h4 := h3.tmp s
              have hsl : s < vs'.length := by
                rcases Nat.lt_or_ge s vs'.length with h | h
                · exact h
                · rw [List.getElem?_eq_none h] at hsv; cases hsv
              have e2 : tmOf { tmps := vs'.toArray, defers := [] } s = v := by
                rw [List.getElem?_eq_getElem hsl] at hsv
                cases hsv
                simp [tmOf, Array.getD_eq_getD_getElem?, hsl]
              rw [e2] at h4
              exact h4
            · have get1 : ∀ {p : Tpl} {z : p.T} {o : AO}, (p.inst z).get j = some o → (instOL id p.objs z.2)[j]? = some (some o) := by
                intro p z o hh
                have hh : (instOL id p.objs z.2).getD j none = some o := hh
                rw [List.getD_eq_getElem?_getD] at hh
                cases hq : (instOL id p.objs z.2)[j]? with
                | none => rw [hq] at hh; cases hh
                | some q => rw [hq] at hh; have : q = some o := hh; rw [this]
              obtain ⟨t1, ht1, hr1, hb1, hm1, _⟩ := instOL_kind (get1 hg)
              obtain ⟨t2, ht2, hr2, hb2, hm2, hq2⟩ := instOL_kind (get1 hg0)
              have hst1 := hst.1
              unfold stays at hst1
              have hj := List.all_eq_true.1 hst1 j (List.mem_range.2 (by
                rcases Nat.lt_or_ge j (Γ i).pre.objs.length with h | h
                · exact h
                · rw [List.getElem?_eq_none h] at ht2; cases ht2))
              rw [List.getD_eq_getElem?_getD, List.getD_eq_getElem?_getD (i := j) (l := (Γ i).pre.objs), ht1, ht2] at hj
              simp only [Option.getD_some] at hj
              have hfin : b.m.getD j none = some j ∧ j < c.keep := by
                cases o with
                | row T fr t xs => cases hr
                | rows T e t h l => cases hr
                | box T l1 =>
                  obtain ⟨_, _, rfl⟩ := hb1 _ _ rfl
                  cases o0 with
                  | row T fr t xs => obtain ⟨_, _, _, rfl⟩ := hr2 _ _ _ _ rfl; cases hj
                  | box T l2 => obtain ⟨_, _, rfl⟩ := hb2 _ _ rfl; simpa using hj
                  | map T k t l2 => obtain ⟨_, _, _, rfl⟩ := hm2 _ _ _ _ rfl; simpa using hj
                  | rows T e t h l2 => obtain ⟨_, _, _, rfl⟩ := hq2 _ _ _ _ _ rfl; cases hj
                | map T k t l1 =>
                  obtain ⟨_, _, _, rfl⟩ := hm1 _ _ _ _ rfl
                  cases o0 with
                  | row T fr t xs => obtain ⟨_, _, _, rfl⟩ := hr2 _ _ _ _ rfl; cases hj
                  | box T l2 => obtain ⟨_, _, rfl⟩ := hb2 _ _ rfl; simpa using hj
                  | map T k t l2 => obtain ⟨_, _, _, rfl⟩ := hm2 _ _ _ _ rfl; simpa using hj
                  | rows T e t h l2 => obtain ⟨_, _, _, rfl⟩ := hq2 _ _ _ _ _ rfl; cases hj
              obtain ⟨h6, o1, h7, h8⟩ := h5 j o hg hr hfin.1 (hk.u j hfin.2)
              exact h6.trans (hk.st j hfin.2 o1 h7 h8).1
  cases e with
  | exit id => exact hleaf.elim
  | normal => exact main hleaf
  | ret => exact main hleaf

end

end Go.Proofs.YtjmnjimlkljhjaaV

/- What an operation asks of memory: the objects that its operands name. -/
set_option linter.unusedVariables false
namespace Go.Proofs.YtjmnjimlkljhjaaV
open Go

def idsL (l : List AV) : List Nat := l.flatMap idsA1

/-- The two memories are one, for these. -/
def Agree (get get' : Nat → Option AO) (l : List Nat) : Prop := ∀ id ∈ l, get' id = get id

section
variable {get get' : Nat → Option AO}

theorem Agree.sub {l l' : List Nat} (h : Agree get get' l) (hs : ∀ id ∈ l', id ∈ l) : Agree get get' l' := fun id hi => h id (hs id hi)

theorem ids_cells (x : AV) : ∀ id ∈ idsL (cells x), id ∈ idsA x := by
  intro id h
  cases x <;> simp_all [idsL, cells, idsA, idsA1]

theorem decSl_local {fr : Bool} {t : Ty} {e : Nat} {x : AV} (h : Agree get get' (idsA1 x)) : decSl fr get' t e x = decSl fr get t e x := by
  cases x with
  | ref id => simp only [decSl, h id (by simp [idsA1])]
  | v x => unfold decSl; repeat' split <;> first | rfl | simp_all
  | _ => rfl

theorem decC_suffix {fr : Bool} {t : Ty} : ∀ {l : List AV} {x : El t} {r : List AV} {f : List Nat}, decC fr get t l = some (x, r, f) → ∃ p, l = p ++ r := by
  induction t with
  | int k => intro l x r f h; cases l with
    | nil => simp [decC] at h
    | cons c l => simp only [decC, Option.map_eq_some_iff] at h; obtain ⟨_, _, h⟩ := h; cases h; exact ⟨[c], rfl⟩
  | bool => intro l x r f h; cases l with
    | nil => simp [decC] at h
    | cons c l => simp only [decC, Option.map_eq_some_iff] at h; obtain ⟨_, _, h⟩ := h; cases h; exact ⟨[c], rfl⟩
  | str => intro l x r f h; cases l with
    | nil => simp [decC] at h
    | cons c l => simp only [decC, Option.map_eq_some_iff] at h; obtain ⟨_, _, h⟩ := h; cases h; exact ⟨[c], rfl⟩
  | prod a b iha ihb =>
    intro l x r f h
    simp only [decC] at h
    split at h
    case h_2 => cases h
    case h_1 x1 r1 f1 h1 =>
      split at h
      case h_2 => cases h
      case h_1 x2 r2 f2 h2 =>
        cases h
        obtain ⟨p, rfl⟩ := iha h1
        obtain ⟨q, rfl⟩ := ihb h2
        exact ⟨p ++ q, by simp⟩
  | slice e t ih => intro l x r f h; cases l with
    | nil => simp [decC] at h
    | cons c l => simp only [decC, Option.map_eq_some_iff] at h; obtain ⟨_, _, h⟩ := h; cases h; exact ⟨[c], rfl⟩
  | rose t e ih =>
    intro l x r f h
    simp only [decC] at h
    split at h
    case h_2 => cases h
    case h_1 x1 c r1 f1 h1 =>
      obtain ⟨z, _, h⟩ := Option.map_eq_some_iff.1 h
      cases h
      obtain ⟨p, rfl⟩ := ih h1
      exact ⟨p ++ [c], by simp⟩
  | arr n t ih => intro l x r f h; cases l with
    | nil => simp [decC] at h
    | cons c l => simp only [decC, Option.map_eq_some_iff] at h; obtain ⟨_, _, h⟩ := h; cases h; exact ⟨[c], rfl⟩

theorem decC_local {fr : Bool} {t : Ty} : ∀ {l : List AV}, Agree get get' (idsL l) → decC fr get' t l = decC fr get t l := by
  induction t with
  | int k => intro l h; cases l <;> rfl
  | bool => intro l h; cases l <;> rfl
  | str => intro l h; cases l <;> rfl
  | prod a b iha ihb =>
    intro l h
    simp only [decC]
    rw [iha h]
    cases h1 : decC fr get a l with
    | none => rfl
    | some p =>
      obtain ⟨x, r, f⟩ := p
      obtain ⟨p, rfl⟩ := decC_suffix h1
      simp only
      rw [ihb (h.sub fun id hi => by simp only [idsL, List.flatMap_append, List.mem_append]; exact .inr hi)]
  | slice e t ih =>
    intro l h
    cases l with
    | nil => rfl
    | cons c l =>
      simp only [decC]
      rw [decSl_local (h.sub fun id hi => by simp only [idsL, List.flatMap_cons, List.mem_append]; exact .inl hi)]
  | rose t e ih =>
    intro l h
    simp only [decC]
    rw [ih h]
    cases h1 : decC fr get t l with
    | none => rfl
    | some p =>
      obtain ⟨x, r, f⟩ := p
      obtain ⟨p, rfl⟩ := decC_suffix h1
      cases r with
      | nil => rfl
      | cons c r =>
        simp only
        rw [decSl_local (h.sub fun id hi => by simp only [idsL, List.flatMap_append, List.flatMap_cons, List.mem_append]; exact .inr (.inl hi))]
  | arr n t ih => intro l h; cases l <;> rfl

theorem dec_local {fr : Bool} {t : Ty} {x : AV} (h : Agree get get' (idsA x)) : dec fr get' t x = dec fr get t x := by
  simp only [dec]
  rw [decC_local (h.sub (ids_cells x))]

theorem decL_local {fr : Bool} {t : Ty} : ∀ {l : List (List AV)}, (∀ c ∈ l, Agree get get' (idsL c)) → decL fr get' t l = decL fr get t l := by
  intro l
  induction l with
  | nil => intro _; rfl
  | cons c l ih =>
    intro h
    simp only [decL]
    rw [decC_local (h c (by simp)), ih (fun c hc => h c (by simp [hc]))]

theorem readSl_local {t : Ty} {e : Nat} {x : AV} (h : Agree get get' (idsA x)) : readSl get' t e x = readSl get t e x := by
  have h' : ∀ fr, decSl fr get' t e x = decSl fr get t e x := by
    intro fr
    cases x with
    | ref id => exact decSl_local h
    | v x => exact decSl_local (h.sub fun id hi => by cases hi)
    | _ => rfl
  simp only [readSl, h']

theorem enc_ids {fr : Bool} : ∀ {t : Ty} (x : El t), idsL (enc fr t x) = [] := by
  intro t
  induction t with
  | prod a b iha ihb => intro x; show idsL (enc fr a x.1 ++ enc fr b x.2) = []; unfold idsL; rw [List.flatMap_append]; exact List.append_eq_nil_iff.2 ⟨iha _, ihb _⟩
  | rose t e ih => intro x; cases x with
    | node a ks => show idsL (enc fr t a ++ _) = []; unfold idsL; rw [List.flatMap_append]; exact List.append_eq_nil_iff.2 ⟨ih _, rfl⟩
  | _ => intro x; rfl

theorem takeW_mem : ∀ {l : List AV} {n : Nat} {r : List AV}, takeW n l = some r → ∀ y ∈ r, y ∈ l := by
  intro l
  induction l with
  | nil => intro n r h; cases n with
    | zero => cases h; simp
    | succ n => simp [takeW] at h
  | cons x l ih =>
    intro n r h
    cases n with
    | zero => simp only [takeW, Option.some.injEq] at h; subst h; simp
    | succ n =>
      simp only [takeW] at h
      split at h
      case isFalse => cases h
      case isTrue =>
        obtain ⟨r', h', rfl⟩ := Option.map_eq_some_iff.1 h
        intro y hy
        rcases List.mem_cons.1 hy with rfl | hy
        · simp
        · exact List.mem_cons_of_mem _ (ih h' y hy)

theorem dropW_mem : ∀ {l : List AV} {n : Nat} {r : List AV}, dropW n l = some r → ∀ y ∈ r, y ∈ l := by
  intro l
  induction l with
  | nil => intro n r h; cases n with
    | zero => cases h; simp
    | succ n => simp [dropW] at h
  | cons x l ih =>
    intro n r h
    cases n with
    | zero => simp only [dropW, Option.some.injEq] at h; subst h; simp
    | succ n =>
      simp only [dropW] at h
      split at h
      case isFalse => cases h
      case isTrue => intro y hy; exact List.mem_cons_of_mem _ (ih h y hy)

theorem splice_mem {l c r : List AV} {off : Nat} (h : splice l off c = some r) : ∀ y ∈ r, y ∈ l ∨ y ∈ c := by
  unfold splice at h
  split at h
  case h_2 => cases h
  case h_1 x y hx hy =>
    cases h
    intro z hz
    simp only [List.mem_append] at hz
    rcases hz with (hz | hz) | hz
    · exact .inl (takeW_mem hx z hz)
    · exact .inr hz
    · exact .inl (dropW_mem hy z hz)

theorem idsL_mem {l : List AV} {id : Nat} : id ∈ idsL l ↔ ∃ y ∈ l, id ∈ idsA1 y := by simp [idsL, List.mem_flatMap]

theorem splice_ids {l c r : List AV} {off : Nat} (h : splice l off c = some r) (hl : idsL l = []) : ∀ id ∈ idsL r, id ∈ idsL c := by
  intro id hi
  obtain ⟨y, hy, hid⟩ := idsL_mem.1 hi
  rcases splice_mem h y hy with h1 | h1
  · have := idsL_mem.2 ⟨y, h1, hid⟩; rw [hl] at this; cases this
  · exact idsL_mem.2 ⟨y, h1, hid⟩

theorem zeroOk_ids : ∀ {l : List AV} {cs : List Value}, zeroOk l cs = true → idsL l = [] := by
  intro l
  induction l with
  | nil => intro cs _; rfl
  | cons x l ih =>
    intro cs h
    cases x with
    | arr t n xs => simp only [zeroOk, Bool.and_eq_true] at h; show idsA1 _ ++ idsL l = []; rw [ih h.2]; rfl
    | v x => cases cs with
      | nil => simp [zeroOk] at h
      | cons c cs => simp only [zeroOk, Bool.and_eq_true] at h; show idsA1 _ ++ idsL l = []; rw [ih h.2]; rfl
    | kb x => cases cs with
      | nil => simp [zeroOk] at h
      | cons c cs => simp only [zeroOk, Bool.and_eq_true] at h; show idsA1 _ ++ idsL l = []; rw [ih h.2]; rfl
    | _ => simp [zeroOk] at h

theorem zeroL_ids {P : Program} {kt : KT} {T : Nat} {l : List AV} (h : zeroL P kt T = some l) : idsL l = [] := by
  unfold zeroL at h
  split at h
  case h_2 => cases h
  case h_1 i hi =>
    split at h
    case h_2 => cases h
    case h_1 z hz =>
      split at h
      case h_2 => cases h
      case h_1 l' hl =>
        split at h
        case isFalse => cases h
        case isTrue hk => cases h; exact zeroOk_ids hk

variable {P : Program} {kt : KT} {nid : Nat}

theorem aliveP_local {x : AV} (h : Agree get get' (idsA x)) : aliveP get' x = aliveP get x := by
  cases x with
  | ptr id off => simp only [aliveP, h id (by simp [idsA, idsA1])]
  | eptr id i off => simp only [aliveP, h id (by simp [idsA, idsA1])]
  | aptr id a b c => simp only [aliveP, h id (by simp [idsA, idsA1])]
  | _ => rfl

theorem xIndexAddr_local {T : Nat} {x i : AV} (h : Agree get get' (idsA x)) : xIndexAddr P kt get' T x i = xIndexAddr P kt get T x i := by
  simp only [xIndexAddr, aliveP_local h]
  cases x with
  | ref id => simp only [h id (by simp [idsA, idsA1])]
  | ptr id off => simp only [h id (by simp [idsA, idsA1])]
  | cptr l => cases l with
    | nil => rfl
    | cons y l => cases y <;> rfl
  | _ => rfl

theorem xLen_local {T : Nat} {x : AV} (h : Agree get get' (idsA x)) : xLen P get' T x = xLen P get T x := by
  unfold xLen
  cases P.underlying T with
  | none => rfl
  | some u =>
    cases u with
    | slice e => cases x with
      | ref id => simp only [h id (by simp [idsA, idsA1])]
      | v y => cases y with
        | slice p n c => cases p <;> cases n <;> cases c <;> rfl
        | _ => rfl
      | _ => rfl
    | map a b => cases x with
      | mp id => simp only [h id (by simp [idsA, idsA1])]
      | _ => rfl
    | string => cases x with
      | v y => cases y <;> rfl
      | _ => rfl
    | _ => cases x <;> rfl

theorem xAppend_local {T : Nat} {x y : AV} (hx : Agree get get' (idsA x)) (hy : Agree get get' (idsA y)) : xAppend P kt get' nid T x y = xAppend P kt get nid T x y := by
  simp only [xAppend, readSl_local hy]
  cases x with
  | ref id => simp only [readSl_local hx]
  | v z => cases z with
    | slice p n c => cases p <;> cases n <;> cases c <;> rfl
    | _ => rfl
  | _ => rfl

theorem xSlice_local {T : Nat} {x : AV} {lo hi : Option AV} (h : Agree get get' (idsA x)) : xSlice P get' nid T x lo hi = xSlice P get nid T x lo hi := by
  unfold xSlice
  cases P.underlying T with
  | none => rfl
  | some u =>
    cases u with
    | slice e =>
      cases lo with
      | none => cases hi with
        | none => cases x <;> rfl
        | some y => cases y with
          | v z => cases z with
            | int k n => cases x with
              | ref id => simp only [h id (by simp [idsA, idsA1])]
              | _ => rfl
            | _ => cases x <;> rfl
          | _ => cases x <;> rfl
      | some y0 => cases hi with
        | none => cases y0 with
          | v z => cases z <;> cases x <;> rfl
          | _ => cases x <;> rfl
        | some y => cases y0 with
          | v z => cases z <;> cases x <;> rfl
          | _ => cases x <;> rfl
    | _ => rfl

theorem xLoad_local {T : Nat} {x : AV} (h : Agree get get' (idsA x)) : xLoad P get' T x = xLoad P get T x := by
  cases x with
  | ptr id off => simp only [xLoad, h id (by simp [idsA, idsA1])]
  | eptr id i off => simp only [xLoad, h id (by simp [idsA, idsA1])]
  | aptr id a b c => simp only [xLoad, h id (by simp [idsA, idsA1])]
  | _ => rfl

theorem xStore_local {T : Nat} {a x : AV} (ha : Agree get get' (idsA a)) (hx : Agree get get' (idsA x)) : xStore P get' T a x = xStore P get T a x := by
  simp only [xStore]
  split
  case isFalse => rfl
  case isTrue =>
    cases a with
    | ptr id off => simp only [ha id (by simp [idsA, idsA1])]
    | eptr id i off =>
      simp only [ha id (by simp [idsA, idsA1])]
      cases hg : get id with
      | none => rfl
      | some o =>
        cases o with
        | row B fr t xs =>
          simp only
          cases hs : splice (enc fr t (xs.getD i (dflt t))) off (cells x) with
          | none => rfl
          | some c =>
            simp only
            rw [decC_local (hx.sub fun id hi => ids_cells x id (splice_ids hs (enc_ids _) id hi))]
        | _ => rfl
    | aptr id off i k =>
      simp only [ha id (by simp [idsA, idsA1])]
      cases hg : get id with
      | none => rfl
      | some o =>
        cases o with
        | box B l =>
          simp only
          cases hd : dropW off l with
          | none => rfl
          | some l1 =>
            cases l1 with
            | nil => rfl
            | cons y l2 =>
              cases y with
              | arr t n xs =>
                simp only
                cases hs : splice (enc false t (xs.getD i (dflt t))) k (cells x) with
                | none => rfl
                | some c =>
                  simp only
                  rw [decC_local (hx.sub fun id hi => ids_cells x id (splice_ids hs (enc_ids _) id hi))]
              | _ => rfl
        | _ => rfl
    | _ => rfl

theorem xLookup_local {T : Nat} {m k : AV} {ok : Bool} (hm : Agree get get' (idsA m)) (hk : Agree get get' (idsA k)) : xLookup P kt get' T m k ok = xLookup P kt get T m k ok := by
  unfold xLookup
  cases P.underlying T with
  | none => rfl
  | some u =>
    cases u with
    | map a b => cases m with
      | mp id => simp only [hm id (by simp [idsA, idsA1]), dec_local hk]
      | _ => rfl
    | _ => rfl

theorem xUpdate_local {T : Nat} {m k x : AV} (hm : Agree get get' (idsA m)) (hk : Agree get get' (idsA k)) (hx : Agree get get' (idsA x)) : xUpdate P get' T m k x = xUpdate P get T m k x := by
  unfold xUpdate
  cases P.underlying T with
  | none => rfl
  | some u =>
    cases u with
    | map a b => cases m with
      | mp id => simp only [hm id (by simp [idsA, idsA1]), dec_local hk, dec_local hx]
      | _ => rfl
    | _ => rfl

theorem xBinAgg_local {op : BinOp} {T : Nat} {x y : AV} (hx : Agree get get' (idsA x)) (hy : Agree get get' (idsA y)) : xBinAgg P kt get' op T x y = xBinAgg P kt get op T x y := by
  simp only [xBinAgg, dec_local hx, dec_local hy]

theorem xConvert_local {s d : Nat} {x : AV} (hx : Agree get get' (idsA x)) : xConvert P get' s d x = xConvert P get s d x := by
  unfold xConvert
  cases P.underlying s with
  | none => rfl
  | some u =>
    cases P.underlying d with
    | none => cases u <;> cases x <;> rfl
    | some u' =>
      cases u with
      | slice e => cases u' with
        | string => simp only [readSl_local hx]
        | _ => rfl
      | int k => cases u' <;> first | rfl | (cases x <;> first | rfl | (rename_i z; cases z <;> rfl))
      | string => cases u' <;> first | rfl | (cases x <;> first | rfl | (rename_i z; cases z <;> rfl))
      | _ => rfl

theorem foldl_set_mem {α : Type} : ∀ (ps : List (Nat × α)) (L : List α) (c : α), c ∈ ps.foldl (fun L p => L.set p.1 p.2) L → c ∈ L ∨ ∃ p ∈ ps, p.2 = c := by
  intro ps
  induction ps with
  | nil => intro L c h; exact .inl h
  | cons p ps ih =>
    intro L c h
    rcases ih _ c h with h1 | ⟨q, hq, e⟩
    · rcases List.mem_or_eq_of_mem_set h1 with h2 | h2
      · exact .inl h2
      · exact .inr ⟨p, by simp, h2.symm⟩
    · exact .inr ⟨q, by simp [hq], e⟩

theorem foldl_cells (ps : List (Nat × AV)) (L : List (List AV)) : ps.foldl (fun L p => L.set p.1 (cells p.2)) L = (ps.map fun p => (p.1, cells p.2)).foldl (fun L p => L.set p.1 p.2) L := by
  induction ps generalizing L with
  | nil => rfl
  | cons p ps ih => exact ih _

theorem xBuildSlice_local {T len : Nat} {ps : List (Nat × AV)} (h : ∀ p ∈ ps, Agree get get' (idsA p.2)) : xBuildSlice P kt get' nid T len ps = xBuildSlice P kt get nid T len ps := by
  simp only [xBuildSlice]
  cases P.underlying T with
  | none => rfl
  | some u =>
    cases u with
    | slice e =>
      simp only
      cases kt e with
      | none => rfl
      | some t =>
        cases szT P e with
        | none => rfl
        | some s =>
          cases hz : zeroL P kt e with
          | none => rfl
          | some z =>
            simp only
            have hl : ∀ fr, decL fr get' t (ps.foldl (fun L p => L.set p.1 (cells p.2)) (List.replicate len z)) = decL fr get t (ps.foldl (fun L p => L.set p.1 (cells p.2)) (List.replicate len z)) := by
              intro fr
              refine decL_local fun c hc => ?_
              rw [foldl_cells] at hc
              rcases foldl_set_mem _ _ _ hc with h1 | ⟨p, hp, rfl⟩
              · rw [(List.mem_replicate.1 h1).2]
                intro id hi
                rw [zeroL_ids hz] at hi; cases hi
              · obtain ⟨q, hq, rfl⟩ := List.mem_map.1 hp
                exact (h q hq).sub (ids_cells q.2)
            rw [hl true, hl false]
    | _ => rfl

/-- The same shapes, for these. -/
def ShAgree (get get' : Nat → Option AO) (l : List Nat) : Prop := ∀ id ∈ l, shpOf (get' id) = shpOf (get id)

theorem xRowsAddr_shape {T id : Nat} {i : AV} (h : shpOf (get' id) = shpOf (get id)) : xRowsAddr P get' T id i = xRowsAddr P get T id i := by
  unfold xRowsAddr
  split
  · rename_i B k n hu
    cases h1 : get id with
    | none =>
      rw [h1] at h
      cases h2 : get' id with
      | none => rfl
      | some o' => rw [h2] at h; cases o' <;> first | rfl | cases h
    | some o =>
      rw [h1] at h
      cases h2 : get' id with
      | none => rw [h2] at h; cases o <;> first | rfl | cases h
      | some o' =>
        rw [h2] at h
        cases o <;> cases o' <;> first | rfl | cases h | skip
        simp only [shpOf, Shp.rows.injEq] at h
        obtain ⟨rfl, rfl, rfl, hl⟩ := h
        simp only [hl]
  · rfl

theorem xIndexAddr_shape {T id : Nat} {i : AV} (h : shpOf (get' id) = shpOf (get id)) : xIndexAddr P kt get' T (.ref id) i = xIndexAddr P kt get T (.ref id) i := by
  have e : ∀ (e : Nat) (t : Ty) (n : Int), (match get' id with
      | some (.row T' fr t' xs) => if T' = e ∧ t' = t then some (⟨[decide (0 ≤ n), decide (n < (xs.length : Int))], .eptr id n.toNat 0, []⟩ : Res) else none
      | _ => none) = (match get id with
      | some (.row T' fr t' xs) => if T' = e ∧ t' = t then some (⟨[decide (0 ≤ n), decide (n < (xs.length : Int))], .eptr id n.toNat 0, []⟩ : Res) else none
      | _ => none) := by
    intro e t n
    cases h1 : get id with
    | none =>
      rw [h1] at h
      cases h2 : get' id with
      | none => rfl
      | some o' => rw [h2] at h; cases o' <;> first | rfl | cases h
    | some o =>
      rw [h1] at h
      cases h2 : get' id with
      | none => rw [h2] at h; cases o <;> first | rfl | cases h
      | some o' =>
        rw [h2] at h
        cases o <;> cases o' <;> first | rfl | cases h | skip
        simp only [shpOf, Shp.row.injEq] at h
        obtain ⟨rfl, rfl, hl⟩ := h
        simp only [hl]
  unfold xIndexAddr
  split
  · split
    · split
      · exact e _ _ _
      · rfl
    · rfl
  · simp only [aliveP, Bool.false_eq_true, if_false]
  · rfl

theorem aStep_local {ev ev' raw raw' : Operand → AV} {op : Op} (h : ∀ x ∈ op.operands.toList, ev' x = ev x ∧ raw' x = raw x) (hr : Agree get get' (rdIds ev op)) (hs : ShAgree get get' (shIds ev op)) : aStep P kt get' nid ev' raw' op = aStep P kt get nid ev raw op := by
  have h1 : ∀ x, x ∈ op.operands.toList → ev' x = ev x := fun x hx => (h x hx).1
  have h2 : ∀ x, x ∈ op.operands.toList → raw' x = raw x := fun x hx => (h x hx).2
  have h3 : (rdIds ev op = op.operands.toList.flatMap fun x => idsA (ev x)) → ∀ x, x ∈ op.operands.toList → Agree get get' (idsA (ev x)) := fun e x hx id hi => hr id (by rw [e, List.mem_flatMap]; exact ⟨x, hx, hi⟩)
  clear h
  have hparts : ∀ (ps : Array (Nat × Operand)), (∀ x, x ∈ ps.toList.map (·.2) → ev' x = ev x) → (ps.toList.map fun p => (p.1, ev' p.2)) = ps.toList.map fun p => (p.1, ev p.2) := fun ps hp =>
    List.map_congr_left fun p hq => by rw [hp p.2 (List.mem_map.2 ⟨p, hq, rfl⟩)]
  cases op with
  | move x => simp only [aStep, h1 x (by simp [Op.operands])]
  | assign x => simp only [aStep, h1 x (by simp [Op.operands])]
  | pick c a b =>
    cases c with
    | tmp tc => simp only [aStep, h1 a (by simp [Op.operands]), h1 b (by simp [Op.operands]), h2 a (by simp [Op.operands]), h2 b (by simp [Op.operands]), h2 (.tmp tc) (by simp [Op.operands])]
    | _ => rfl
  | alloc T => rfl
  | box T x => simp only [aStep, h1 x (by simp [Op.operands])]
  | build T ps => simp only [aStep]; rw [hparts ps fun x hx => h1 x (by simpa [Op.operands] using hx)]
  | buildSlice T len ps =>
    simp only [aStep]
    rw [hparts ps fun x hx => h1 x (by simpa [Op.operands] using hx)]
    refine xBuildSlice_local fun p hp => ?_
    obtain ⟨q, hq, rfl⟩ := List.mem_map.1 hp
    exact h3 rfl q.2 (by simp only [Op.operands, List.mem_map]; exact ⟨q, hq, rfl⟩)
  | load T a =>
    have ha := h3 rfl a (by simp [Op.operands])
    simp only [aStep, h1 a (by simp [Op.operands])]
    cases hv : ev a with
    | rptr id i => rw [hv] at ha; simp only [xRowsLoad, ha id (by simp [idsA, idsA1])]
    | _ => rw [hv] at ha; exact xLoad_local ha
  | store T a x =>
    have ha := h3 rfl a (by simp [Op.operands])
    have hx := h3 rfl x (by simp [Op.operands])
    simp only [aStep, h1 a (by simp [Op.operands]), h1 x (by simp [Op.operands])]
    cases hv : ev a with
    | rptr id i =>
      rw [hv] at ha
      simp only
      cases hv2 : ev x with
      | ref r =>
        rw [hv2] at hx
        simp only [xRowsStore, ha id (by simp [idsA, idsA1])]
        cases get id with
        | none => rfl
        | some o => cases o with
          | rows B e t h xss => simp only [hx r (by simp [idsA, idsA1])]
          | _ => rfl
      | _ => rfl
    | _ => rw [hv] at ha; exact xStore_local ha hx
  | nilCheck x => simp only [aStep, h1 x (by simp [Op.operands]), aliveP_local (h3 rfl x (by simp [Op.operands]))]
  | binOp op T x y z =>
    have hx := h3 rfl x (by simp [Op.operands])
    simp only [aStep, h1 x (by simp [Op.operands]), h1 y (by simp [Op.operands])]
    cases he : ev x with
    | agg l => rw [he] at hx; exact xBinAgg_local hx (h3 rfl y (by simp [Op.operands]))
    | _ => rfl
  | unOp op T x => simp only [aStep, h1 x (by simp [Op.operands])]
  | convert s d x => simp only [aStep, h1 x (by simp [Op.operands])]; exact xConvert_local (h3 rfl x (by simp [Op.operands]))
  | makeFunc f first caps =>
    cases f with
    | func f =>
      have e : caps.toList.map ev' = caps.toList.map ev := List.map_congr_left fun x hx => h1 x (by simp [Op.operands]; exact .inr (by simpa using hx))
      simp only [aStep, e]
    | _ => rfl
  | makeMap T r => cases r <;> rfl
  | makeSlice T l c => simp only [aStep, h1 l (by simp [Op.operands]), h1 c (by simp [Op.operands])]
  | slice T x lo hi m =>
    cases m with
    | some m => rfl
    | none =>
      have e1 : lo.map ev' = lo.map ev := by cases lo with
        | none => rfl
        | some y => simp only [Option.map_some, h1 y (by simp [Op.operands])]
      have e2 : hi.map ev' = hi.map ev := by cases hi with
        | none => rfl
        | some y => simp only [Option.map_some, h1 y (by simp [Op.operands])]
      simp only [aStep, h1 x (by simp [Op.operands]), e1, e2]
      exact xSlice_local (h3 rfl x (by simp [Op.operands]))
  | fieldAddr S x f => simp only [aStep, h1 x (by simp [Op.operands]), aliveP_local (h3 rfl x (by simp [Op.operands]))]
  | field S x f => simp only [aStep, h1 x (by simp [Op.operands])]
  | indexAddr T x i =>
    simp only [aStep, h1 x (by simp [Op.operands]), h1 i (by simp [Op.operands])]
    simp only [rdIds, shIds] at hr hs
    cases hv : ev x with
    | mp id => rw [hv] at hs; exact xRowsAddr_shape (hs id (by simp))
    | ref id => rw [hv] at hs; exact xIndexAddr_shape (hs id (by simp))
    | _ => rw [hv] at hr; exact xIndexAddr_local hr
  | index T x i => simp only [aStep, h1 x (by simp [Op.operands]), h1 i (by simp [Op.operands])]
  | lookup T m k ok => simp only [aStep, h1 m (by simp [Op.operands]), h1 k (by simp [Op.operands])]; exact xLookup_local (h3 rfl m (by simp [Op.operands])) (h3 rfl k (by simp [Op.operands]))
  | mapUpdate T m k x => simp only [aStep, h1 m (by simp [Op.operands]), h1 k (by simp [Op.operands]), h1 x (by simp [Op.operands])]; exact xUpdate_local (h3 rfl m (by simp [Op.operands])) (h3 rfl k (by simp [Op.operands])) (h3 rfl x (by simp [Op.operands]))
  | insert T m k x => simp only [aStep, h1 m (by simp [Op.operands]), h1 k (by simp [Op.operands]), h1 x (by simp [Op.operands])]; exact xUpdate_local (h3 rfl m (by simp [Op.operands])) (h3 rfl k (by simp [Op.operands])) (h3 rfl x (by simp [Op.operands]))
  | extract x i => simp only [aStep, h1 x (by simp [Op.operands])]
  | call cl =>
    obtain ⟨callee, args, argTypes⟩ := cl
    cases callee with
    | builtin b =>
      have ha : ∀ x ∈ args.toList, x ∈ (Op.call { callee := Callee.builtin b, args := args, argTypes := argTypes }).operands.toList := fun x hx => by
        simp [Op.operands, Call.operands]; simpa using hx
      have g1 := fun x hx => h1 x (ha x hx)
      have g3 := fun x hx => h3 rfl x (ha x hx)
      simp only [aStep]
      generalize args.toList = al at g1 g3
      generalize argTypes.toList = tl
      split
      · rename_i x T _
        have hx := g3 x (by simp)
        rw [g1 x (by simp)]
        split
        · unfold xRowsLen
          cases P.underlying T with
          | none => rfl
          | some u =>
            cases u with
            | slice e => cases hv : ev x with
              | mp id => rw [hv] at hx; simp only [hx id (by simp [idsA, idsA1])]
              | _ => rfl
            | _ => rfl
        · exact xLen_local hx
      · split
        · rw [g1 _ (by simp), g1 _ (by simp)]; exact xAppend_local (g3 _ (by simp)) (g3 _ (by simp))
        · rfl
      · rw [g1 _ (by simp), g1 _ (by simp)]
      · rw [g1 _ (by simp), g1 _ (by simp)]
      · rfl
    | _ => rfl
  | _ => rfl

end

end Go.Proofs.YtjmnjimlkljhjaaV

/- What a call's contract asks of memory. -/
set_option linter.unusedVariables false
namespace Go.Proofs.YtjmnjimlkljhjaaV
open Go

section
variable {get get' : Nat → Option AO}

theorem decSl_keep {fr : Bool} {t : Ty} {e : Nat} {x : AV} {y : List (El t) × List Nat} (h : decSl fr get t e x = some y) (ha : Agree get get' y.2) : decSl fr get' t e x = some y := by
  cases x with
  | ref id =>
    rw [decSl_local (get := get)]
    · exact h
    · intro i hi
      simp only [idsA1, List.mem_singleton] at hi
      subst hi
      refine ha i ?_
      simp only [decSl] at h
      split at h
      · split at h
        · split at h
          · cases h; simp
          · cases h
        · cases h
      · cases h
  | v x => rw [decSl_local (get := get)]; exact h; intro i hi; cases hi
  | sl a b c d => exact h
  | _ => simp [decSl] at h

theorem decC_keep {fr : Bool} {t : Ty} : ∀ {l : List AV} {y : El t × List AV × List Nat}, decC fr get t l = some y → Agree get get' y.2.2 → decC fr get' t l = some y := by
  induction t with
  | int k => intro l y h _; cases l <;> exact h
  | bool => intro l y h _; cases l <;> exact h
  | str => intro l y h _; cases l <;> exact h
  | prod a b iha ihb =>
    intro l y h ha
    simp only [decC] at h ⊢
    split at h
    case h_2 => cases h
    case h_1 x1 r1 f1 h1 =>
      split at h
      case h_2 => cases h
      case h_1 x2 r2 f2 h2 =>
        cases h
        rw [iha h1 (ha.sub (by simp; intro i hi; exact .inl hi))]
        simp only
        rw [ihb h2 (ha.sub (by simp; intro i hi; exact .inr hi))]
  | slice e t ih =>
    intro l y h ha
    cases l with
    | nil => simp [decC] at h
    | cons c l =>
      simp only [decC] at h ⊢
      obtain ⟨z, hz, rfl⟩ := Option.map_eq_some_iff.1 h
      rw [decSl_keep hz ha]; rfl
  | rose t e ih =>
    intro l y h ha
    simp only [decC] at h ⊢
    split at h
    case h_2 => cases h
    case h_1 x1 c r1 f1 h1 =>
      obtain ⟨z, hz, rfl⟩ := Option.map_eq_some_iff.1 h
      rw [ih h1 (ha.sub (by simp; intro i hi; exact .inl hi))]
      simp only
      rw [decSl_keep hz (ha.sub (by simp; intro i hi; exact .inr hi))]; rfl
  | arr n t ih => intro l y h _; cases l <;> exact h

theorem decCell_keep {fr : Bool} {t : Ty} {c : AV} {y : El t × List Nat} (h : decCell fr get t c = some y) (ha : Agree get get' y.2) : decCell fr get' t c = some y := by
  unfold decCell at h ⊢
  split at h
  case h_2 => cases h
  case h_1 x f h1 => cases h; rw [decC_keep h1 ha]

theorem dec_keep {fr : Bool} {t : Ty} {c : AV} {y : El t × List Nat} (h : dec fr get t c = some y) (ha : Agree get get' y.2) : dec fr get' t c = some y := by
  unfold dec at h ⊢
  split at h
  case h_2 => cases h
  case h_1 x f h1 =>
    split at h
    case isFalse => cases h
    case isTrue he => cases h; rw [decC_keep h1 ha]; simp only [he, if_true]

theorem fnFit_le : ∀ {l : List AV} {q : List (Nat × Nat)} {b b' : Bd}, fnFit b l q = some b' → b.le b' := by
  intro l
  induction l with
  | nil => intro q b b' h; cases q with
    | nil => cases h; exact Bd.le_refl _
    | cons p q => simp [fnFit] at h
  | cons x l ih =>
    intro q b b' h
    cases q with
    | nil => cases x <;> simp [fnFit] at h
    | cons p q =>
      obtain ⟨j, off'⟩ := p
      cases x with
      | ptr id off =>
        simp only [fnFit] at h
        split at h
        case isFalse => cases h
        case isTrue e =>
          split at h
          case h_2 => cases h
          case h_1 b1 hb => exact Bd.le_trans (Bd.bind_ok hb).1 (ih h)
      | _ => simp [fnFit] at h

theorem tmFit_le {b b' : Bd} {c : AV} {t : Tm} (h : tmFit b c t = some b') : b.le b' := by
  unfold tmFit at h
  split at h
  · split at h
    · cases h; exact Bd.le_refl _
    · cases h
  · exact (Bd.bind_ok h).1
  · split at h
    · exact (Bd.bind_ok h).1
    · cases h
  · exact (Bd.bind_ok h).1
  · split at h
    · exact fnFit_le h
    · cases h
  · cases h

theorem Bd.le_f (b : Bd) (f : List Nat) : b.le { b with f := b.f ++ f } := ⟨rfl, fun _ _ h => h, fun i hi => by simp [hi]⟩

theorem fitTL_keep : ∀ {l : List Tm} {cs : List AV} {x : TL l} {b b' : Bd}, fitTL get b l cs = some (x, b') → b.le b' ∧ (Agree get get' b'.f → fitTL get' b l cs = some (x, b')) := by
  intro l
  induction l with
  | nil => intro cs x b b' h; cases cs with
    | nil => simp only [fitTL, Option.some.injEq, Prod.mk.injEq] at h; obtain ⟨_, rfl⟩ := h; exact ⟨Bd.le_refl _, fun _ => rfl⟩
    | cons c cs => simp only [fitTL, Option.some.injEq, Prod.mk.injEq] at h; obtain ⟨_, rfl⟩ := h; exact ⟨Bd.le_refl _, fun _ => rfl⟩
  | cons t l ih =>
    intro cs x b b' h
    cases cs with
    | nil => cases t <;> simp [fitTL] at h
    | cons c cs =>
      cases t with
      | hole fr t =>
        simp only [fitTL] at h ⊢
        split at h
        case h_2 => cases h
        case h_1 x1 f1 h1 =>
          split at h
          case h_2 => cases h
          case h_1 y b1 h2 =>
            cases h
            obtain ⟨k1, k2⟩ := ih h2
            refine ⟨Bd.le_trans (Bd.le_f b f1) k1, fun ha => ?_⟩
            rw [decCell_keep h1 (ha.sub fun i hi => k1.2.2 i (by simp; exact .inr hi))]
            simp only
            rw [k2 ha]
      | _ =>
        simp only [fitTL] at h ⊢
        split at h
        case h_2 => cases h
        case h_1 b1 h1 =>
          obtain ⟨k1, k2⟩ := ih h
          exact ⟨Bd.le_trans (tmFit_le h1) k1, k2⟩

theorem fitSL_keep {tm : Nat → AV} : ∀ {l : List (Nat × Tm)} {x : SL l} {b b' : Bd}, fitSL get tm b l = some (x, b') → b.le b' ∧ (Agree get get' b'.f → fitSL get' tm b l = some (x, b')) := by
  intro l
  induction l with
  | nil => intro x b b' h; simp only [fitSL, Option.some.injEq, Prod.mk.injEq] at h; obtain ⟨_, rfl⟩ := h; exact ⟨Bd.le_refl _, fun _ => rfl⟩
  | cons t l ih =>
    intro x b b' h
    obtain ⟨s, t⟩ := t
    cases t with
    | hole fr t =>
      simp only [fitSL] at h ⊢
      split at h
      case h_2 => cases h
      case h_1 x1 f1 h1 =>
        split at h
        case h_2 => cases h
        case h_1 y b1 h2 =>
          cases h
          obtain ⟨k1, k2⟩ := ih h2
          refine ⟨Bd.le_trans (Bd.le_f b f1) k1, fun ha => ?_⟩
          rw [dec_keep h1 (ha.sub fun i hi => k1.2.2 i (by simp; exact .inr hi))]
          simp only
          rw [k2 ha]
    | _ =>
      simp only [fitSL] at h ⊢
      split at h
      case h_2 => cases h
      case h_1 b1 h1 =>
        obtain ⟨k1, k2⟩ := ih h
        exact ⟨Bd.le_trans (tmFit_le h1) k1, k2⟩

theorem mem_bound {m : List (Option Nat)} {j id : Nat} (h : m.getD j none = some id) : id ∈ m.filterMap (fun x => x) := by
  rw [List.mem_filterMap]
  refine ⟨some id, ?_, rfl⟩
  have hj := getD_lt h
  rw [List.getD_eq_getElem?_getD, List.getElem?_eq_getElem hj] at h
  have : m[j] = some id := h
  rw [← this]
  exact List.getElem_mem _

theorem at_bound {b b' : Bd} {j : Nat} (hle : b.le b') (ha : Agree get get' (b'.m.filterMap (fun x => x))) : ((b.m.getD j none).bind get') = ((b.m.getD j none).bind get) := by
  cases hm : b.m.getD j none with
  | none => rfl
  | some id => exact ha id (mem_bound (hle.2.1 _ _ hm))

theorem fitOL_keep : ∀ {l : List OTm} {j : Nat} {x : OL l} {b b' : Bd}, fitOL get b j l = some (x, b') → b.le b' ∧ (Agree get get' (b'.m.filterMap (fun x => x)) → Agree get get' b'.f → fitOL get' b j l = some (x, b')) := by
  intro l
  induction l with
  | nil => intro j x b b' h; simp only [fitOL, Option.some.injEq, Prod.mk.injEq] at h; obtain ⟨_, rfl⟩ := h; exact ⟨Bd.le_refl _, fun _ _ => rfl⟩
  | cons t l ih =>
    intro j x b b' h
    cases t with
    | gone => simp only [fitOL] at h ⊢; exact ih h
    | row T fr t =>
      simp only [fitOL] at h
      split at h
      case h_2 => cases h
      case h_1 T' fr' t' xs hg =>
        split at h
        case isFalse => cases h
        case isTrue e1 =>
          split at h
          case isFalse => cases h
          case isTrue e2 =>
            split at h
            case h_2 => cases h
            case h_1 y b1 h2 =>
              cases h
              obtain ⟨k1, k2⟩ := ih h2
              refine ⟨k1, fun hm hf => ?_⟩
              simp only [fitOL]
              rw [at_bound k1 hm, hg]
              simp only
              rw [dif_pos e1, if_pos e2, k2 hm hf]
    | box T q =>
      simp only [fitOL] at h
      split at h
      case h_2 => cases h
      case h_1 T' cs hg =>
        split at h
        case isFalse => cases h
        case isTrue e1 =>
          split at h
          case h_2 => cases h
          case h_1 y1 b1 h1 =>
            split at h
            case h_2 => cases h
            case h_1 y b2 h2 =>
              cases h
              obtain ⟨k1, k2⟩ := ih h2
              obtain ⟨k3, k4⟩ := fitTL_keep (get' := get') h1
              refine ⟨Bd.le_trans k3 k1, fun hm hf => ?_⟩
              simp only [fitOL]
              rw [at_bound (Bd.le_trans k3 k1) hm, hg]
              simp only
              rw [if_pos e1, k4 (hf.sub fun i hi => k1.2.2 i hi)]
              simp only
              rw [k2 hm hf]
    | map T kt vt =>
      simp only [fitOL] at h
      split at h
      case h_2 => cases h
      case h_1 T' kt' vt' kvs hg =>
        split at h
        case isFalse => cases h
        case isTrue e1 =>
          split at h
          case isFalse => cases h
          case isTrue e2 =>
            split at h
            case isFalse => cases h
            case isTrue e3 =>
              split at h
              case h_2 => cases h
              case h_1 y b1 h2 =>
                cases h
                obtain ⟨k1, k2⟩ := ih h2
                refine ⟨k1, fun hm hf => ?_⟩
                simp only [fitOL]
                rw [at_bound k1 hm, hg]
                simp only
                rw [dif_pos e1, dif_pos e2, if_pos e3, k2 hm hf]
    | rows T e t =>
      simp only [fitOL] at h
      split at h
      case h_2 => cases h
      case h_1 T' e' t' xss hg =>
        split at h
        case isFalse => cases h
        case isTrue e1 =>
          split at h
          case isFalse => cases h
          case isTrue e2 =>
            split at h
            case h_2 => cases h
            case h_1 y b1 h2 =>
              cases h
              obtain ⟨k1, k2⟩ := ih h2
              refine ⟨k1, fun hm hf => ?_⟩
              simp only [fitOL]
              rw [at_bound k1 hm, hg]
              simp only
              rw [dif_pos e1, if_pos e2, k2 hm hf]

theorem fits0_keep {p : Tpl} {tmps : List AV} {m m' : List (Option AO)} {x : p.T} {bd : Bd} {k : Nat} (h : fits0 k p ⟨tmps, m⟩ = some (x, bd)) (ha : Agree (St.get ⟨tmps, m⟩) (St.get ⟨tmps, m'⟩) (callIds bd)) :
    fits0 k p ⟨tmps, m'⟩ = some (x, bd) ∧ bd.m.length = p.objs.length := by
  have ha1 : Agree (St.get ⟨tmps, m⟩) (St.get ⟨tmps, m'⟩) (bd.m.filterMap (fun x => x)) := ha.sub fun i hi => by simp only [callIds, List.mem_append]; exact .inl (.inl hi)
  have ha2 : Agree (St.get ⟨tmps, m⟩) (St.get ⟨tmps, m'⟩) bd.f := ha.sub fun i hi => by simp only [callIds, List.mem_append]; exact .inl (.inr hi)
  unfold fits0 at h ⊢
  split at h
  case isFalse => cases h
  case isTrue hn =>
    rw [if_pos hn]
    split at h
    case h_2 => cases h
    case h_1 x1 b1 h1 =>
      split at h
      case h_2 => cases h
      case h_1 y b2 h2 =>
        split at h
        case isFalse => cases h
        case isTrue hnd =>
          cases h
          obtain ⟨k1, k2⟩ := fitSL_keep (get' := St.get ⟨tmps, m'⟩) h1
          obtain ⟨k3, k4⟩ := fitOL_keep (get' := St.get ⟨tmps, m'⟩) h2
          rw [k2 (ha2.sub fun i hi => k3.2.2 i hi)]
          simp only
          rw [k4 ha1 ha2]
          simp only
          rw [if_pos hnd]
          exact ⟨rfl, by rw [← k3.1, ← k1.1]; simp [m0]⟩

theorem afterCall_keep {pre : Tpl} {bd : Bd} {p : Tpl} {x : p.T} {nid : Nat} (hl : bd.m.length = pre.objs.length) (ha : Agree get get' (callIds bd)) : afterCall get' pre bd p x nid = afterCall get pre bd p x nid := by
  have hat : ∀ j, pre.objs.getD j .gone ≠ .gone → get' ((bd.m.getD j none).getD 0) = get ((bd.m.getD j none).getD 0) := by
    intro j hj
    have hjl : j < bd.m.length := by
      rw [hl]
      rcases Nat.lt_or_ge j pre.objs.length with h | h
      · exact h
      · rw [List.getD_eq_getElem?_getD, List.getElem?_eq_none h] at hj; exact absurd rfl hj
    refine ha _ ?_
    cases hm : bd.m.getD j none with
    | some id => simp only [callIds, List.mem_append]; exact .inl (.inl (mem_bound hm))
    | none =>
      have : bd.m.all Option.isSome = false := by
        rw [List.all_eq_false]
        rw [List.getD_eq_getElem?_getD, List.getElem?_eq_getElem hjl] at hm
        exact ⟨bd.m[j], List.getElem_mem _, by rw [show bd.m[j] = none from hm]; simp⟩
      simp [callIds, this]
  have hb : ∀ l, backOk get' pre p bd.m l = backOk get pre p bd.m l := by
    intro l
    unfold backOk
    congr 1
    funext j
    have hj := hat j
    split
    · rename_i h1 h2; rw [hj (by rw [h1]; simp)]
    · rename_i h1 h2; rw [hj (by rw [h1]; simp)]
    · rfl
  unfold afterCall
  simp only [hb]

end

end Go.Proofs.YtjmnjimlkljhjaaV

/- One operation of a region whose order is open. -/
set_option linter.unusedVariables false
namespace Go.Proofs.YtjmnjimlkljhjaaV
open Go

section
variable {Γ : Nat → Sig} {X : Type}

/-- A wanted operation: what it gives, what becomes of objects, what it asked of them beyond its operands. -/
inductive Did (c : Cfg Γ) (σ : St) (nid : Nat) (o : Oper) : AV → List (Nat × Option AO) → List Nat → Prop
  | op (r : Res) (hop : ∀ f args tys, o.op ≠ .call { callee := .value f, args := args, argTypes := tys }) (hr : aStep c.P c.kt σ.get nid (evG none σ) (evO σ) o.op = some r) (hc : ∀ b ∈ r.conds, b = true) : Did c σ nid o r.val r.eff []
  | call (f : Operand) (args : Array Operand) (tys : Array TypeId) (f' : Nat) (caps : List AV) (i : Nat) (s : (Γ i).pre.T) (bd : Bd) (y : (Γ i).O) (v : AV) (eff : List (Nat × Option AO))
      (hop : o.op = .call { callee := .value f, args := args, argTypes := tys }) (hf : evG none σ f = .fn f' caps) (hna : caps.all notArr = true)
      (hq : (isFn (Γ i) f' && tplOk false (Γ i).pre && (args.toList.map (evG none σ) ++ caps).length == (Γ i).pre.n) = true)
      (hfit : fits0 0 (Γ i).pre { tmps := args.toList.map (evG none σ) ++ caps, mem := σ.mem } = some (s, bd)) (hR : SemR c.P Γ i s y)
      (hout : onOut (Γ i).outs y fun _ p x => afterCall σ.get (Γ i).pre bd p x nid = some (v, eff)) : Did c σ nid o v eff (callIds bd)

theorem onOut_ex {A : Type} : ∀ {l : List (Ex × Tpl)} {y : OutT l} {G : A → Ex → (p : Tpl) → p.T → Prop}, (onOut l y fun e p z => ∃ a, G a e p z) → ∃ a, onOut l y (G a) := by
  intro l
  induction l with
  | nil => intro y; exact nomatch y
  | cons o l ih =>
    intro y G h
    cases l with
    | nil => exact h
    | cons o' l =>
      cases y with
      | inl x => exact h
      | inr z => exact ih h

theorem onOut_two {l : List (Ex × Tpl)} {y : OutT l} {F : Ex → (p : Tpl) → p.T → Prop} {A : Prop} (h : onOut l y fun e p z => F e p z ∧ A) : onOut l y F ∧ A := by
  induction l with
  | nil => exact nomatch y
  | cons o l ih =>
    cases l with
    | nil => exact h
    | cons o' l =>
      cases y with
      | inl x => exact h
      | inr z => exact ih h

theorem xOp_did {c : Cfg Γ} {σ : St} {nid : Nat} {o : Oper} {K : Kt Γ X} {Q : X → Prop} (hw : (xOp c σ nid o K).wp (SemR c.P Γ) Q) :
    ∃ v eff mr σ', Did c σ nid o v eff mr ∧ putT { σ with mem := applyE σ.mem eff } o.dst v = some σ' ∧ (K σ' mr (eff.map (·.1))).wp (SemR c.P Γ) Q := by
  unfold xOp at hw
  split at hw
  · rename_i f args tys hop
    split at hw
    case h_2 => exact hw.elim
    case h_1 f' caps hfv =>
      split at hw
      case isFalse => exact hw.elim
      case isTrue hna =>
        unfold xCall at hw
        obtain ⟨i, t, hti, htw⟩ := findSome_wp hw
        unfold xCallAt at hti
        split at hti
        case h_2 => cases hti
        case h_1 s bd hfit =>
          cases hti
          split at hfit
          case isFalse => cases hfit
          case isTrue hq =>
            obtain ⟨y, hR, hrest⟩ := htw
            rw [onOut_map (fun t : Tree Γ X => t.wp (SemR c.P Γ) Q)] at hrest
            have h1 : onOut (Γ i).outs y fun _ p x => ∃ a : AV × List (Nat × Option AO), afterCall σ.get (Γ i).pre bd p x nid = some (a.1, a.2) ∧
                ∃ σ', putT { σ with mem := applyE σ.mem a.2 } o.dst a.1 = some σ' ∧ (K σ' (callIds bd) (a.2.map (·.1))).wp (SemR c.P Γ) Q := by
              refine onOut_mono (Y := True) (Z := True) (fun _ p x h => ?_) hrest
              split at h
              case h_2 => exact h.elim
              case h_1 v eff haf =>
                split at h
                case h_2 => exact h.elim
                case h_1 σ' hput => exact ⟨(v, eff), haf, σ', hput, h⟩
            obtain ⟨⟨v, eff⟩, h2⟩ := onOut_ex h1
            obtain ⟨h3, σ', h4, h5⟩ := onOut_two h2
            exact ⟨v, eff, callIds bd, σ', .call f args tys f' caps i s bd y v eff hop hfv hna hq hfit hR h3, h4, h5⟩
  · rename_i hop
    split at hw
    case h_2 => exact hw.elim
    case h_1 r hr =>
      split at hw
      case h_2 => exact hw.elim
      case h_1 σ' hput =>
        obtain ⟨hcs, hk⟩ := chks_wp hw
        exact ⟨r.val, r.eff, [], σ', .op r (fun f args tys => hop f args tys) hr hcs, hput, hk⟩

/-- Where things go on from a step. -/
def From (E : Env) (σ' : St) (nid : Nat) (KK : Act → World → Prop) : Prop :=
  ∀ E' a', SR E' σ' a' → Same E E' → Mv E E' → (∀ id, E'.U id → E.U id ∨ (nid ≤ id ∧ id < nid + 4)) → KK a' E'.w

theorem did_ok {c : Cfg Γ} {E : Env} {σ : St} {a : Act} (h : SR E σ a) {nid : Nat} (hf : ∀ k, k < 4 → ¬ E.U (nid + k)) (hl : nid + 4 ≤ σ.mem.length) {o : Oper} {v : AV} {eff : List (Nat × Option AO)} {mr : List Nat} (hd : Did c σ nid o v eff mr)
    {σ' : St} (hput : putT { σ with mem := applyE σ.mem eff } o.dst v = some σ') {KK : Act → World → Prop} (hK : From E σ' nid KK) (Qx : Exit → Act → World → Prop) : o.wp c.P a E.w KK Qx := by
  have hg : σ.get = E.get := funext fun id => (h.get id).symm
  unfold Oper.wp
  cases hd with
  | op r hop hr hc =>
    rw [hg] at hr
    obtain ⟨E2, nx, u, hrun, hnv, hval, hst⟩ := aStep_ok h.mr (hn := by have := hf 0 (by omega); simpa using this) (evG_ok h (g := none) (by simp)) (evO_ok h) (eval_tmp a) hr hc
    obtain ⟨hsr, hml⟩ := put_ok h hst.step hl hval hput
    have := hK E2 _ hsr hst.step.same hst.mv hst.step.U
    rw [hrun]
    cases nx with
    | value v' => cases hnv; exact this
    | skip => cases hnv; exact this
    | _ => cases hnv
  | call f args tys f' caps i s bd y v eff hop hfv hna hq hfit hR hout =>
    have hfe := evG_ok h (g := none) (by simp) f
    rw [hfv] at hfe
    have hfe : CRep E (.fn f' caps) (a.eval f) := hfe
    generalize hval : a.eval f = fv at hfe
    cases hfe with
    | fn _ _ us hcs =>
      obtain ⟨hul, huv⟩ := hcs.at (tm := tmOf a) hna
      have hall : ∀ s v, (args.toList.map a.eval ++ us)[s]? = some v → VRep E (tmOf a) ((args.toList.map (evG none σ) ++ caps).getD s .dead) v := by
        intro s v hs
        by_cases hsl : s < args.toList.length
        · rw [List.getElem?_append_left (by simpa using hsl)] at hs
          rw [List.getD_eq_getElem?_getD, List.getElem?_append_left (by simpa using hsl), List.getElem?_map, List.getElem?_eq_getElem hsl]
          rw [List.getElem?_map, List.getElem?_eq_getElem hsl] at hs
          cases hs
          exact evG_ok h (g := none) (by simp) _
        · rw [List.getElem?_append_right (by simpa using hsl)] at hs
          rw [List.getD_eq_getElem?_getD, List.getElem?_append_right (by simpa using hsl), ← List.getD_eq_getElem?_getD]
          simp only [List.length_map] at hs ⊢
          exact huv _ _ hs
      have ht : xCallAt (Γ := Γ) f' i (args.toList.map (evG none σ) ++ caps) σ nid o.dst (fun σ2 _ _ => Tree.ret σ2) = some (.act i s fun y => onOut _ y fun _ p x =>
          match afterCall σ.get (Γ i).pre bd p x nid with
          | some (v, eff) => match putT { σ with mem := applyE σ.mem eff } o.dst v with
            | some σ' => .ret σ'
            | none => .stuck "the place of a call"
          | none => .stuck "back from a call") := by
        unfold xCallAt
        rw [if_pos hq, hfit]
        rfl
      obtain ⟨⟨fn, h1, h2, h3⟩, hcall⟩ := xCallAt_ok h (vs := args.toList.map a.eval ++ us) (by simp [hul]) hall hf hl ht (Q := fun x => x = σ') (KK := KK)
        ⟨y, hR, by
          rw [onOut_map (fun t : Tree Γ St => t.wp (SemR c.P Γ) fun x => x = σ')]
          refine onOut_mono (Y := True) (Z := True) (fun _ p x hx => ?_) hout
          rw [hx]
          simp only [hput]
          rfl⟩
        (fun σ2 _ _ E' a' hsr hs hmv hU hml hk => by
          have hk : σ2 = σ' := hk
          subst hk
          exact hK E' a' hsr hs hmv hU)
      have hrun : (execOp a.eval o).run c.P E.w = .ok (.enter f' (args.toList.map a.eval ++ us).toArray) E.w := by
        have hargs : (args.map a.eval) ++ us.toArray = (args.toList.map a.eval ++ us).toArray := by apply Array.ext'; simp
        simp only [execOp, hop, resolve, hval, Deferred.ofValue, Sem.run_bind, Sem.run_pure, Result.andThen_ok, invoke, callFunc, run_program, h1, h2, h3, Bool.false_eq_true, if_false, Array.empty_append, hargs]
      rw [hrun, Oper.upon_enter]
      refine hcall.mono fun e w' ⟨v, he, hk⟩ => ?_
      subst he
      exact hk

theorem evG_of {σ σ' : St} {x : Operand} (h : evO σ' x = evO σ x) : evG none σ' x = evG none σ x := by
  unfold evG; rw [h]

theorem did_keep {c : Cfg Γ} {σ σ' : St} {nid : Nat} {o : Oper} {v : AV} {eff : List (Nat × Option AO)} {mr : List Nat} (hd : Did c σ nid o v eff mr) (he : ∀ x ∈ o.op.operands.toList, evO σ' x = evO σ x)
    (ha : Agree σ.get σ'.get (rdIds (evG none σ) o.op ++ mr)) (hs : ShAgree σ.get σ'.get (shIds (evG none σ) o.op)) : Did c σ' nid o v eff mr := by
  cases hd with
  | op r hop hr hc =>
    refine .op r hop ?_ hc
    rw [← hr]
    exact aStep_local (fun x hx => ⟨evG_of (he x hx), he x hx⟩) (ha.sub fun id hi => List.mem_append_left _ hi) hs
  | call f args tys f' caps i s bd y v eff hop hfv hna hq hfit hR hout =>
    have hmem : f ∈ o.op.operands.toList ∧ ∀ x ∈ args.toList, x ∈ o.op.operands.toList := by
      rw [hop]
      simp only [Op.operands, Call.operands]
      refine ⟨by simp, fun x hx => ?_⟩
      simp only [Array.toList_append, List.mem_append]
      exact .inr hx
    have hf' : evG none σ' f = .fn f' caps := by rw [evG_of (he f hmem.1), hfv]
    have hargs : args.toList.map (evG none σ') = args.toList.map (evG none σ) := List.map_congr_left fun x hx => evG_of (he x (hmem.2 x hx))
    have hag : Agree (St.get ⟨args.toList.map (evG none σ) ++ caps, σ.mem⟩) (St.get ⟨args.toList.map (evG none σ) ++ caps, σ'.mem⟩) (callIds bd) := fun id hi => ha id (List.mem_append_right _ hi)
    obtain ⟨hfit', hlen⟩ := fits0_keep hfit hag
    refine .call f args tys f' caps i s bd y v eff hop hf' hna (by rw [hargs]; exact hq) (by rw [hargs]; exact hfit') hR ?_
    refine onOut_mono (Y := True) (Z := True) (fun _ p x hx => ?_) hout
    rw [← hx]
    exact afterCall_keep hlen fun id hi => ha id (List.mem_append_right _ hi)

/-- What is changed in its contents alone keeps its shape. -/
theorem did_soft {c : Cfg Γ} {σ : St} {nid : Nat} {o : Oper} {v : AV} {eff : List (Nat × Option AO)} {mr : List Nat} (hd : Did c σ nid o v eff mr) : ∀ p ∈ eff, p.1 ∈ swIds (evG none σ) o.op → shpOf p.2 = shpOf (σ.get p.1) := by
  cases hd with
  | call f args tys f' caps i s bd y v eff hop hfv hna hq hfit hR hout =>
    intro p hp hm
    rw [hop] at hm
    cases hm
  | op r hop hr hc =>
    intro p hp hm
    cases h0 : o.op with
    | load T a =>
      rw [h0] at hr hm
      simp only [aStep] at hr
      simp only [swIds] at hm
      split at hr
      · rename_i id i hq
        rw [hq] at hm
        have hm : p.1 = id := by simpa using hm
        unfold xRowsLoad at hr
        split at hr
        case h_2 => cases hr
        case h_1 e' B e t xss hu hg =>
          split at hr
          case isFalse => cases hr
          case isTrue hq2 =>
            cases hr
            simp only [List.mem_cons, List.not_mem_nil, or_false] at hp
            rcases hp with rfl | rfl
            · dsimp only at hm ⊢
              rw [hg]; rfl
            · exact absurd hm.symm hq2.2.2.2
      · rename_i hq
        split at hm
        · rename_i id i hq2; exact absurd hq2 (hq _ _)
        · cases hm
    | store T a x =>
      rw [h0] at hr hm
      simp only [aStep] at hr
      simp only [swIds] at hm
      split at hr
      · rename_i id i hq
        rw [hq] at hm
        have hm : p.1 = id := by simpa using hm
        unfold xRowsStore at hr
        split at hr
        case h_2 => cases hr
        case h_1 r0 B e t h xss hg =>
          split at hr
          case h_2 => cases hr
          case h_1 e' fr t' ys hg2 =>
            split at hr
            case isFalse => cases hr
            case isTrue ht =>
              subst ht
              split at hr
              case isFalse => cases hr
              case isTrue hq2 =>
                cases hr
                simp only [List.mem_cons, List.not_mem_nil, or_false] at hp
                rcases hp with rfl | rfl
                · dsimp only at hm ⊢
                  rw [hg]
                  simp [shpOf]
                · dsimp only at hm
                  rw [hm, hg] at hg2; cases hg2
      · rename_i hq
        split at hm
        · rename_i id i hq2; exact absurd hq2 (hq _ _)
        · rename_i id i off hq2
          have hm : p.1 = id := by simpa using hm
          rw [hq2] at hr
          unfold xStore at hr
          split at hr
          case isFalse => cases hr
          case isTrue =>
            dsimp only at hr
            split at hr
            case h_2 => cases hr
            case h_1 B fr t xs hg =>
              split at hr
              case h_2 => cases hr
              case h_1 c0 hs =>
                split at hr
                case h_2 => cases hr
                case h_1 y f hdec =>
                  split at hr
                  case isTrue => cases hr
                  case isFalse hnf =>
                    cases hr
                    rcases List.mem_cons.1 hp with rfl | hp
                    · dsimp only at hm ⊢
                      rw [hg]
                      simp [shpOf]
                    · obtain ⟨q, hq3, rfl⟩ := List.mem_map.1 hp
                      dsimp only at hm
                      subst hm
                      exact absurd (by simpa using hq3) hnf
        · cases hm
    | _ => rw [h0] at hm; cases hm

/-- .. under its guard. -/
inductive DidD (c : Cfg Γ) (all : List Oper) (σ : St) (nid : Nat) (o : Oper) : AV → List (Nat × Option AO) → List Nat → Prop
  | skip (hw : xWant all σ o = some false) : DidD c all σ nid o und [] []
  | plain (v : AV) (eff : List (Nat × Option AO)) (mr : List Nat) (hw : xWant all σ o = some true) (hd : Did c σ nid o v eff mr) (hn : o.dst = none ∨ notOpt v = true) : DidD c all σ nid o v eff mr
  | known (b : Bool) (eff : List (Nat × Option AO)) (mr : List Nat) (hw : xWant all σ o = some true) (hd : Did c σ nid o (.v (.bool b)) eff mr) : DidD c all σ nid o (.kb b) eff mr

def putD (σ : St) (d : Option Nat) (v : AV) (eff : List (Nat × Option AO)) : St :=
  { tmps := match d with
      | none => σ.tmps
      | some d => σ.tmps.set d v, mem := applyE σ.mem eff }

def dOk (σ : St) : Option Nat → Prop
  | none => True
  | some d => d < σ.tmps.length

theorem putT_putD {σ σ' : St} {d : Option Nat} {v : AV} {eff : List (Nat × Option AO)} (h : putT { σ with mem := applyE σ.mem eff } d v = some σ') : σ' = putD σ d v eff ∧ dOk σ d := by
  unfold putT at h
  split at h
  · cases h; exact ⟨rfl, trivial⟩
  · split at h
    case isFalse => cases h
    case isTrue hq =>
      cases h
      simp only [Bool.and_eq_true, decide_eq_true_eq] at hq
      exact ⟨rfl, hq.2⟩

def NoOpts (σ : St) : Prop := ∀ x ∈ σ.tmps, notOpt x = true

theorem noOpt_on {d : Nat} {x : AV} (h : notOpt x = true) : noOptOn d [x] = true := by
  cases x <;> first | rfl | simp [notOpt] at h

theorem putD_putT {σ : St} {d : Option Nat} {v : AV} {eff : List (Nat × Option AO)} (hσ : NoOpts σ) (hv : d = none ∨ notOpt v = true) (hd : dOk σ d) : putT { σ with mem := applyE σ.mem eff } d v = some (putD σ d v eff) := by
  unfold putT
  cases d with
  | none => rfl
  | some d =>
    have h1 : noOptOn d σ.tmps = true := by
      simp only [noOptOn, List.all_eq_true]
      intro x hx
      have := noOpt_on (d := d) (hσ x hx)
      simpa [noOptOn] using this
    have h2 : d < σ.tmps.length := hd
    simp only [h1, noOpt_on (hv.resolve_left (by simp)), h2, decide_true, Bool.and_self, if_true]
    rfl

theorem DidD.notOpt {c : Cfg Γ} {all : List Oper} {σ : St} {nid : Nat} {o : Oper} {v : AV} {eff : List (Nat × Option AO)} {mr : List Nat} (h : DidD c all σ nid o v eff mr) : o.dst = none ∨ notOpt v = true := by
  cases h with
  | skip => exact .inr rfl
  | plain v eff mr hw hd hn => exact hn
  | known => exact .inr rfl

theorem kb_ok {E : Env} {σ : St} {a : Act} (h : SR E σ a) {d : Nat} {b : Bool} (hs : σ.tmps.getD d .dead = .v (.bool b)) : SR E { σ with tmps := σ.tmps.set d (.kb b) } a := by
  refine ⟨h.mr, h.get, h.u, h.d, by simpa using h.len, fun t => ?_⟩
  show VRep E _ ((σ.tmps.set d (.kb b)).getD t .dead) _
  rw [getD_set]
  split
  · rename_i e
    obtain ⟨rfl, _⟩ := e
    have h1 := h.tmp d
    rw [hs] at h1
    rw [h1.isv]
    exact CRep.kb b
  · exact h.tmp t

theorem xWant_ok {ops : Array Oper} {E : Env} {σ : St} {a : Act} (h : SR E σ a) {o : Oper} {b : Bool} (hw : xWant ops.toList σ o = some b) : Region.wanted o (yielded ops a.tmps) = b := by
  unfold xWant at hw
  split at hw
  · rename_i hg; cases hw; simp [Region.wanted, hg]
  · rename_i j w hg
    split at hw
    case h_2 => cases hw
    case h_1 tc htc =>
      have htc' : (ops[j]?).bind (·.dst) = some tc := by rw [Array.getElem?_toList] at htc; exact htc
      rw [wanted_at (a := a) hg htc']
      have h1 := h.tmp tc
      split at hw
      · rename_i b0 hb
        rw [hb] at h1
        have e := h1.iskb
        cases hw
        rw [e]
      · rename_i x hx
        split at hw
        case isFalse => cases hw
        case isTrue hu =>
          cases hw
          unfold isUnd at hu
          split at hu
          case h_2 => cases hu
          case h_1 arr hx =>
            rw [hx] at h1
            have e := h1.isv
            rw [e]

theorem didD_ok {c : Cfg Γ} {ops : Array Oper} {E : Env} {σ : St} {a : Act} (h : SR E σ a) (hno : NoOpts σ) {nid : Nat} (hf : ∀ k, k < 4 → ¬ E.U (nid + k)) (hl : nid + 4 ≤ σ.mem.length) {i : Nat} {o : Oper} (ho : ops[i]? = some o)
    {v : AV} {eff : List (Nat × Option AO)} {mr : List Nat} (hd : DidD c ops.toList σ nid o v eff mr) (hdst : dOk σ o.dst) {KK : Act → World → Prop} (hK : From E (putD σ o.dst v eff) nid KK) (Qx : Exit → Act → World → Prop) : wpOp c.P ops Qx i KK a E.w := by
  cases hd with
  | skip hw =>
    refine wpOp_no ho (xWant_ok h hw) ?_
    obtain ⟨hsr, hml⟩ := put_ok h (.refl h.mr nid) hl (x := und) (v := undef) (.mkv _) (putD_putT (eff := []) hno (.inr rfl) hdst)
    exact hK E _ hsr (.refl E) (.refl E) fun id hu => .inl hu
  | plain v eff mr hw hd hn => exact wpOp_yes ho (xWant_ok h hw) (did_ok h hf hl hd (putD_putT hno hn hdst) hK Qx)
  | known b eff mr hw hd =>
    refine wpOp_yes ho (xWant_ok h hw) (did_ok h hf hl hd (putD_putT hno (.inr rfl) hdst) (fun E' a' hsr hs hmv hU => ?_) Qx)
    cases hod : o.dst with
    | none =>
      rw [hod] at hK hsr
      exact hK E' a' hsr hs hmv hU
    | some d =>
      rw [hod] at hK hsr hdst
      have hdl : d < σ.tmps.length := hdst
      refine hK E' a' ?_ hs hmv hU
      have := kb_ok hsr (d := d) (b := b) (by simp [putD, List.getD_eq_getElem?_getD, hdl])
      simpa [putD] using this

theorem xOneD_did {c : Cfg Γ} {all : List Oper} {σ : St} {nid i : Nat} {o : Oper} {K : Kt Γ X} {Q : X → Prop} (hw : (xOneD c all σ nid i o K).wp (SemR c.P Γ) Q) :
    ∃ v eff mr, DidD c all σ nid o v eff mr ∧ dOk σ o.dst ∧ (K (putD σ o.dst v eff) mr (eff.map (·.1))).wp (SemR c.P Γ) Q := by
  unfold xOneD at hw
  split at hw
  case h_3 => exact hw.elim
  case h_2 hwant =>
    unfold xSkip at hw
    split at hw
    case h_2 => exact hw.elim
    case h_1 σ' hp =>
      obtain ⟨rfl, hd⟩ := putT_putD (eff := []) hp
      exact ⟨und, [], [], .skip hwant, hd, hw⟩
  case h_1 hwant =>
    obtain ⟨v, eff, mr, σ', hd, hput, hk⟩ := xOp_did hw
    obtain ⟨rfl, hdst⟩ := putT_putD hput
    have hk : (if okD o.dst (putD σ o.dst v eff) then (if guardSrc all i then xSplit o.dst (fun σ' => K σ' mr (eff.map (·.1))) (putD σ o.dst v eff) else K (putD σ o.dst v eff) mr (eff.map (·.1))) else Tree.stuck o.pos).wp (SemR c.P Γ) Q := hk
    split at hk
    case isFalse => exact hk.elim
    case isTrue hok =>
      cases hod : o.dst with
      | none =>
        rw [hod] at hk
        have hk : (K (putD σ none v eff) mr (eff.map (·.1))).wp (SemR c.P Γ) Q := by
          split at hk
          · exact hk
          · exact hk
        exact ⟨v, eff, mr, .plain v eff mr hwant hd (.inl hod), trivial, hk⟩
      | some d =>
        rw [hod] at hk hdst hok
        have hdl : d < σ.tmps.length := hdst
        have hat : (putD σ (some d) v eff).tmps.getD d .dead = v := by simp [putD, List.getD_eq_getElem?_getD, hdl]
        have hn : notOpt v = true := by rw [← hat]; exact hok
        split at hk
        · unfold xSplit at hk
          dsimp only at hk
          split at hk
          · rename_i b hb
            rw [hat] at hb
            subst hb
            refine ⟨.kb b, eff, mr, .known b eff mr hwant hd, hdst, ?_⟩
            have e : ∀ b', ({ putD σ (some d) (.v (.bool b)) eff with tmps := (putD σ (some d) (.v (.bool b)) eff).tmps.set d (.kb b') } : St) = putD σ (some d) (.kb b') eff := by
              intro b'
              simp [putD]
            simp only [e] at hk
            have hk : if b then (K (putD σ (some d) (.kb true) eff) mr (eff.map (·.1))).wp (SemR c.P Γ) Q else (K (putD σ (some d) (.kb false) eff) mr (eff.map (·.1))).wp (SemR c.P Γ) Q := hk
            cases b with
            | true => simpa using hk
            | false => simpa using hk
          · exact ⟨v, eff, mr, .plain v eff mr hwant hd (.inr hn), hdst, hk⟩
        · exact ⟨v, eff, mr, .plain v eff mr hwant hd (.inr hn), hdst, hk⟩

end

end Go.Proofs.YtjmnjimlkljhjaaV

/- Regions whose order is open. -/
set_option linter.unusedVariables false
namespace Go.Proofs.YtjmnjimlkljhjaaV
open Go

/-! ### the state behind some of the operations -/
abbrev Rr := AV × List (Nat × Option AO) × List Nat

def r0 : Rr := (.dead, [], [])

def dstAt (ops : List Oper) (k : Nat) : Option Nat := (ops[k]?).bind (·.dst)

/-- The state when those of the first n are done that are in L. -/
def stL (ops : List Oper) (r : Nat → Rr) (σ : St) (L : Nat → Bool) : Nat → St
  | 0 => σ
  | k + 1 => if L k then putD (stL ops r σ L k) (dstAt ops k) (r k).1 (r k).2.1 else stL ops r σ L k

def mwAt (r : Nat → Rr) (k : Nat) : List Nat := (r k).2.1.map (·.1)

section
variable {ops : List Oper} {r : Nat → Rr} {σ : St}

theorem stL_tlen {L : Nat → Bool} : ∀ n, (stL ops r σ L n).tmps.length = σ.tmps.length := by
  intro n
  induction n with
  | zero => rfl
  | succ n ih =>
    simp only [stL]
    split
    · simp only [putD]
      split
      · exact ih
      · rw [List.length_set, ih]
    · exact ih

theorem stL_mlen {L : Nat → Bool} : ∀ n, (stL ops r σ L n).mem.length = σ.mem.length := by
  intro n
  induction n with
  | zero => rfl
  | succ n ih =>
    simp only [stL]
    split
    · simp only [putD, applyE_len]; exact ih
    · exact ih

theorem stL_tmp {L L' : Nat → Bool} {t : Nat} : ∀ n, (∀ k, k < n → dstAt ops k = some t → L k = L' k) → (stL ops r σ L n).tmps.getD t .dead = (stL ops r σ L' n).tmps.getD t .dead := by
  intro n
  induction n with
  | zero => intro _; rfl
  | succ n ih =>
    intro h
    have ih := ih fun k hk => h k (by omega)
    have hput : ∀ L : Nat → Bool, (putD (stL ops r σ L n) (dstAt ops n) (r n).1 (r n).2.1).tmps.getD t .dead = if dstAt ops n = some t ∧ t < σ.tmps.length then (r n).1 else (stL ops r σ L n).tmps.getD t .dead := by
      intro L
      simp only [putD]
      cases hd : dstAt ops n with
      | none => simp
      | some d =>
        simp only
        rw [getD_set, stL_tlen]
        by_cases e : d = t
        · subst e; simp
        · simp [e]
    simp only [stL]
    by_cases hd : dstAt ops n = some t
    · rw [h n (by omega) hd]
      split
      · rw [hput, hput, ih]
      · exact ih
    · have e1 : ∀ L : Nat → Bool, (if L n = true then putD (stL ops r σ L n) (dstAt ops n) (r n).1 (r n).2.1 else stL ops r σ L n).tmps.getD t .dead = (stL ops r σ L n).tmps.getD t .dead := by
        intro L
        split
        · rw [hput, if_neg (fun e => hd e.1)]
        · rfl
      rw [e1, e1, ih]

theorem applyE_at {id : Nat} : ∀ {l : List (Nat × Option AO)} {m m' : List (Option AO)}, m.length = m'.length → m.getD id none = m'.getD id none → (applyE m l).getD id none = (applyE m' l).getD id none := by
  intro l
  induction l with
  | nil => intro m m' _ h; exact h
  | cons p l ih =>
    intro m m' hl h
    obtain ⟨i, o⟩ := p
    refine ih (by simp [hl]) ?_
    rw [getD_set, getD_set, hl, h]

theorem applyE_not {id : Nat} : ∀ {l : List (Nat × Option AO)} {m : List (Option AO)}, id ∉ l.map (·.1) → (applyE m l).getD id none = m.getD id none := by
  intro l
  induction l with
  | nil => intro m _; rfl
  | cons p l ih =>
    intro m h
    obtain ⟨i, o⟩ := p
    simp only [List.map_cons, List.mem_cons, not_or] at h
    show (applyE (m.set i o) l).getD id none = _
    rw [ih h.2, getD_set, if_neg (fun e => h.1 e.1.symm)]

theorem stL_mem {L L' : Nat → Bool} {id : Nat} : ∀ n, (∀ k, k < n → id ∈ mwAt r k → L k = L' k) → (stL ops r σ L n).get id = (stL ops r σ L' n).get id := by
  intro n
  induction n with
  | zero => intro _; rfl
  | succ n ih =>
    intro h
    have ih := ih fun k hk => h k (by omega)
    simp only [stL]
    by_cases hd : id ∈ mwAt r n
    · rw [h n (by omega) hd]
      split
      · exact applyE_at (by rw [stL_mlen, stL_mlen]) ih
      · exact ih
    · have e1 : ∀ L : Nat → Bool, (if L n = true then putD (stL ops r σ L n) (dstAt ops n) (r n).1 (r n).2.1 else stL ops r σ L n).get id = (stL ops r σ L n).get id := by
        intro L
        split
        · exact applyE_not hd
        · rfl
      rw [e1, e1, ih]

theorem stL_upto {i : Nat} : ∀ m, i ≤ m → stL ops r σ (fun k => decide (k < i)) m = stL ops r σ (fun _ => true) i := by
  have base : ∀ m, m ≤ i → stL ops r σ (fun k => decide (k < i)) m = stL ops r σ (fun _ => true) m := by
    intro m
    induction m with
    | zero => intro _; rfl
    | succ m ih =>
      intro h
      simp only [stL]
      rw [ih (by omega)]
      simp [show m < i by omega]
  intro m
  induction m with
  | zero => intro h; obtain rfl : i = 0 := by omega
            rfl
  | succ m ih =>
    intro h
    by_cases e : i = m + 1
    · subst e; exact base _ (Nat.le_refl _)
    · simp only [stL]
      rw [if_neg (by simp; omega)]
      exact ih (by omega)

theorem applyE_set : ∀ (l : List (Nat × Option AO)) (m : List (Option AO)) (i : Nat) (o : Option AO), i ∉ l.map (·.1) → applyE (m.set i o) l = (applyE m l).set i o := by
  intro l
  induction l with
  | nil => intro m i o _; rfl
  | cons p l ih =>
    intro m i o h
    obtain ⟨j, q⟩ := p
    simp only [List.map_cons, List.mem_cons, not_or] at h
    show applyE ((m.set i o).set j q) l = (applyE (m.set j q) l).set i o
    rw [List.set_comm _ _ h.1, ih _ _ _ h.2]

theorem applyE_comm : ∀ (l l' : List (Nat × Option AO)) (m : List (Option AO)), (∀ i ∈ l.map (·.1), i ∉ l'.map (·.1)) → applyE (applyE m l) l' = applyE (applyE m l') l := by
  intro l
  induction l with
  | nil => intro l' m _; rfl
  | cons p l ih =>
    intro l' m h
    obtain ⟨j, q⟩ := p
    show applyE (applyE (m.set j q) l) l' = applyE ((applyE m l').set j q) l
    rw [ih l' _ (fun i hi => h i (by simp only [List.map_cons, List.mem_cons]; exact .inr hi)), applyE_set l' m j q (h j (by simp))]

theorem putD_comm {σ : St} {d d' : Option Nat} {v v' : AV} {e e' : List (Nat × Option AO)} (hd : ∀ t, d = some t → d' ≠ some t) (he : ∀ i ∈ e.map (·.1), i ∉ e'.map (·.1)) : putD (putD σ d v e) d' v' e' = putD (putD σ d' v' e') d v e := by
  simp only [putD, applyE_comm e e' _ he]
  congr 1
  cases d with
  | none => cases d' <;> rfl
  | some t =>
    cases d' with
    | none => rfl
    | some t' => exact List.set_comm _ _ (fun e => hd t rfl (by rw [e]))

/-- One more is done. -/
theorem stL_add {L : Nat → Bool} {i : Nat} (hi : L i = false) (hd : ∀ k, i < k → L k = true → ∀ t, dstAt ops i = some t → dstAt ops k ≠ some t) (hm : ∀ k, i < k → L k = true → ∀ id ∈ mwAt r i, id ∉ mwAt r k) :
    ∀ m, i < m → stL ops r σ (fun k => L k || decide (k = i)) m = putD (stL ops r σ L m) (dstAt ops i) (r i).1 (r i).2.1 := by
  have base : ∀ m, m ≤ i → stL ops r σ (fun k => L k || decide (k = i)) m = stL ops r σ L m := by
    intro m
    induction m with
    | zero => intro _; rfl
    | succ m ih =>
      intro h
      simp only [stL]
      rw [ih (by omega)]
      simp [show m ≠ i by omega]
  intro m
  induction m with
  | zero => intro h; omega
  | succ m ih =>
    intro h
    by_cases e : i = m
    · subst e
      simp only [stL]
      rw [base i (Nat.le_refl _)]
      simp [hi]
    · have hlt : i < m := by omega
      simp only [stL]
      rw [ih hlt]
      by_cases hL : L m = true
      · simp only [hL, Bool.true_or, if_true]
        exact putD_comm (hd m hlt hL) (hm m hlt hL)
      · have hL : L m = false := by simpa using hL
        simp [hL, show m ≠ i by omega]

end

section
variable {Γ : Nat → Sig} {X : Type}

/-- What the tree of a drawn region says: each operation in the text's order, and which ones do not touch each other. -/
structure Run (c : Cfg Γ) (ops : List Oper) (T : List Nat) (base : Nat) (r : Nat → Rr) (σ : St) : Prop where
  did : ∀ i o, ops[i]? = some o → DidD c ops (stL ops r σ (fun _ => true) i) (base + 4 * i) o (r i).1 (r i).2.1 (r i).2.2 ∧ dOk σ o.dst
  ind : ∀ i o k o', ops[i]? = some o → ops[k]? = some o' → k < i → (T.getD i 0).testBit k = true ∨
    indep (fpOf ops (stL ops r σ (fun _ => true) k) o' (r k).2.2 (mwAt r k)) (fpOf ops (stL ops r σ (fun _ => true) i) o (r i).2.2 (mwAt r i)) = true
  soft : ∀ i o k o', ops[i]? = some o → ops[k]? = some o' → k ≤ i →
    softOk (fpOf ops (stL ops r σ (fun _ => true) k) o' (r k).2.2 (mwAt r k)) (fpOf ops (stL ops r σ (fun _ => true) i) o (r i).2.2 (mwAt r i)) = true

theorem dOk_putD {σ : St} {d d' : Option Nat} {v : AV} {e : List (Nat × Option AO)} : dOk (putD σ d v e) d' ↔ dOk σ d' := by
  cases d' with
  | none => exact Iff.rfl
  | some t => cases d <;> simp [dOk, putD]

theorem dOk_stL {ops : List Oper} {r : Nat → Rr} {σ : St} {L : Nat → Bool} {n : Nat} {d : Option Nat} : dOk (stL ops r σ L n) d ↔ dOk σ d := by
  cases d with
  | none => exact Iff.rfl
  | some t => simp only [dOk, stL_tlen]

theorem run_of {c : Cfg Γ} {ops : List Oper} {T : List Nat} {base : Nat} {K : St → Tree Γ X} {Q : X → Prop} {σ : St} : ∀ (l : List Oper) (n : Nat) (rs : List Rr) (fps : List (Nat × FP)), rs.length = n → n + l.length = ops.length → (∀ k, l[k]? = ops[n + k]?) →
    (∀ i o, i < n → ops[i]? = some o → DidD c ops (stL ops (fun k => rs.getD k r0) σ (fun _ => true) i) (base + 4 * i) o (rs.getD i r0).1 (rs.getD i r0).2.1 (rs.getD i r0).2.2 ∧ dOk σ o.dst) →
    (∀ i o k o', i < n → ops[i]? = some o → ops[k]? = some o' → k < i → (T.getD i 0).testBit k = true ∨
      indep (fpOf ops (stL ops (fun k => rs.getD k r0) σ (fun _ => true) k) o' (rs.getD k r0).2.2 (mwAt (fun k => rs.getD k r0) k)) (fpOf ops (stL ops (fun k => rs.getD k r0) σ (fun _ => true) i) o (rs.getD i r0).2.2 (mwAt (fun k => rs.getD k r0) i)) = true) →
    (∀ i o k o', i < n → ops[i]? = some o → ops[k]? = some o' → k ≤ i → softOk (fpOf ops (stL ops (fun k => rs.getD k r0) σ (fun _ => true) k) o' (rs.getD k r0).2.2 (mwAt (fun k => rs.getD k r0) k)) (fpOf ops (stL ops (fun k => rs.getD k r0) σ (fun _ => true) i) o (rs.getD i r0).2.2 (mwAt (fun k => rs.getD k r0) i)) = true) →
    (∀ k o', k < n → ops[k]? = some o' → (k, fpOf ops (stL ops (fun k => rs.getD k r0) σ (fun _ => true) k) o' (rs.getD k r0).2.2 (mwAt (fun k => rs.getD k r0) k)) ∈ fps) →
    (xOpsD c ops T K base (numbered n l) fps (stL ops (fun k => rs.getD k r0) σ (fun _ => true) n)).wp (SemR c.P Γ) Q →
    ∃ r, Run c ops T base r σ ∧ (K (stL ops r σ (fun _ => true) ops.length)).wp (SemR c.P Γ) Q := by
  intro l
  induction l with
  | nil =>
    intro n rs fps hrs hn hl hdid hind hsoft hfps hw
    have hn : n = ops.length := by simpa using hn
    refine ⟨fun k => rs.getD k r0, ⟨fun i o ho => hdid i o ?_ ho, fun i o k o' ho ho' hk => hind i o k o' ?_ ho ho' hk, fun i o k o' ho ho' hk => hsoft i o k o' ?_ ho ho' hk⟩, ?_⟩
    · rw [hn]; exact (List.getElem?_eq_some_iff.1 ho).1
    · rw [hn]; exact (List.getElem?_eq_some_iff.1 ho).1
    · rw [hn]; exact (List.getElem?_eq_some_iff.1 ho).1
    · rw [← hn]; exact hw
  | cons o l ih =>
    intro n rs fps hrs hn hl hdid hind hsoft hfps hw
    rw [List.length_cons] at hn
    have ho : ops[n]? = some o := by have := hl 0; simpa using this.symm
    simp only [numbered, xOpsD] at hw
    obtain ⟨v, eff, mr, hd, hdo, hk⟩ := xOneD_did hw
    have hk : (if fpsOk T n fps (fpOf ops (stL ops (fun k => rs.getD k r0) σ (fun _ => true) n) o mr (eff.map (·.1))) = true then
        xOpsD c ops T K base (numbered (n + 1) l) ((n, fpOf ops (stL ops (fun k => rs.getD k r0) σ (fun _ => true) n) o mr (eff.map (·.1))) :: fps) (putD (stL ops (fun k => rs.getD k r0) σ (fun _ => true) n) o.dst v eff) else Tree.stuck o.pos).wp (SemR c.P Γ) Q := hk
    split at hk
    case isFalse => exact hk.elim
    case isTrue hfp =>
      -- the longer list says the same of what is behind
      have hat : ∀ k, k < n → (rs ++ [(v, eff, mr)]).getD k r0 = rs.getD k r0 := by
        intro k hk
        rw [List.getD_eq_getElem?_getD, List.getElem?_append_left (by omega), ← List.getD_eq_getElem?_getD]
      have hatn : (rs ++ [(v, eff, mr)]).getD n r0 = (v, eff, mr) := by
        rw [List.getD_eq_getElem?_getD, List.getElem?_append_right (by omega)]; simp [hrs]
      have hst : ∀ k, k ≤ n → stL ops (fun k => (rs ++ [(v, eff, mr)]).getD k r0) σ (fun _ => true) k = stL ops (fun k => rs.getD k r0) σ (fun _ => true) k := by
        intro k
        induction k with
        | zero => intro _; rfl
        | succ k ihk =>
          intro hk
          simp only [stL, if_true]
          rw [ihk (by omega), hat k (by omega)]
      have hmw : ∀ k, k < n → mwAt (fun k => (rs ++ [(v, eff, mr)]).getD k r0) k = mwAt (fun k => rs.getD k r0) k := by
        intro k hk
        simp only [mwAt, hat k hk]
      have hmwn : mwAt (fun k => (rs ++ [(v, eff, mr)]).getD k r0) n = eff.map (·.1) := by simp only [mwAt, hatn]
      refine ih (n + 1) (rs ++ [(v, eff, mr)]) ((n, fpOf ops (stL ops (fun k => rs.getD k r0) σ (fun _ => true) n) o mr (eff.map (·.1))) :: fps) (by simp [hrs]) (by omega) (fun k => ?_) (fun i o1 hi ho1 => ?_) (fun i o1 k o2 hi ho1 ho2 hki => ?_) (fun i o1 k o2 hi ho1 ho2 hki => ?_) (fun k o2 hk2 ho2 => ?_) ?_
      · have h1 := hl (k + 1)
        have e : n + (k + 1) = n + 1 + k := by omega
        rw [e] at h1
        simpa using h1
      · by_cases e : i = n
        · subst e
          rw [ho] at ho1; cases ho1
          rw [hst i (Nat.le_refl _), hatn]
          exact ⟨hd, dOk_stL.1 hdo⟩
        · rw [hst i (by omega), hat i (by omega)]
          exact hdid i o1 (by omega) ho1
      · by_cases e : i = n
        · subst e
          rw [ho] at ho1; cases ho1
          rw [hst i (Nat.le_refl _), hst k (by omega), hatn, hat k hki, hmw k hki, hmwn]
          unfold fpsOk at hfp
          simp only [Bool.and_eq_true] at hfp
          have := List.all_eq_true.1 hfp.2 _ (hfps k o2 hki ho2)
          simp only [Bool.and_eq_true, Bool.or_eq_true] at this
          exact this.1
        · rw [hst i (by omega), hst k (by omega), hat i (by omega), hat k (by omega), hmw k (by omega), hmw i (by omega)]
          exact hind i o1 k o2 (by omega) ho1 ho2 hki
      · by_cases e : i = n
        · subst e
          rw [ho] at ho1; cases ho1
          unfold fpsOk at hfp
          simp only [Bool.and_eq_true] at hfp
          by_cases e2 : k = i
          · subst e2
            rw [ho] at ho2; cases ho2
            rw [hst k (Nat.le_refl _), hatn, hmwn]
            exact hfp.1
          · have hki' : k < i := by omega
            rw [hst i (Nat.le_refl _), hst k (by omega), hatn, hat k hki', hmw k hki', hmwn]
            have := List.all_eq_true.1 hfp.2 _ (hfps k o2 hki' ho2)
            simp only [Bool.and_eq_true, Bool.or_eq_true] at this
            exact this.2
        · rw [hst i (by omega), hst k (by omega), hat i (by omega), hat k (by omega), hmw k (by omega), hmw i (by omega)]
          exact hsoft i o1 k o2 (by omega) ho1 ho2 hki
      · by_cases e : k = n
        · subst e
          rw [ho] at ho2; cases ho2
          rw [hst k (Nat.le_refl _), hatn, hmwn]
          exact List.mem_cons_self ..
        · rw [hst k (by omega), hat k (by omega), hmw k (by omega)]
          exact List.mem_cons_of_mem _ (hfps k o2 (by omega) ho2)
      · have e : stL ops (fun k => (rs ++ [(v, eff, mr)]).getD k r0) σ (fun _ => true) (n + 1) = putD (stL ops (fun k => rs.getD k r0) σ (fun _ => true) n) o.dst v eff := by
          simp only [stL, if_true]
          rw [hst n (Nat.le_refl _), hatn]
          simp [dstAt, ho]
        rw [e]
        exact hk

end

end Go.Proofs.YtjmnjimlkljhjaaV

/- Regions whose order is open: whichever the order, the same comes of it. -/
set_option linter.unusedVariables false
namespace Go.Proofs.YtjmnjimlkljhjaaV
open Go

section
variable {Γ : Nat → Sig} {X : Type}

theorem numbered_mem {α : Type} : ∀ (l : List α) (n k : Nat) (x : α), l[k]? = some x → (n + k, x) ∈ numbered n l := by
  intro l
  induction l with
  | nil => intro n k x h; simp at h
  | cons y l ih =>
    intro n k x h
    cases k with
    | zero => simp at h; subst h; simp [numbered]
    | succ k =>
      have := ih (n + 1) k x (by simpa using h)
      rw [show n + 1 + k = n + (k + 1) by omega] at this
      exact List.mem_cons_of_mem _ this

theorem befOk_spec {ops : List Oper} {T : List Nat} (h : befOk ops T = true) {i : Nat} {o : Oper} (ho : ops[i]? = some o) :
    (∀ e ∈ o.after.toList, Region.binds .any e = true → e.on < i) ∧ ∀ k, k < ops.length → (T.getD i 0).testBit k = true → ∃ e ∈ o.after.toList, Region.binds .any e = true ∧ (e.on = k ∨ (T.getD e.on 0).testBit k = true) := by
  have hm := numbered_mem ops 0 i o ho
  rw [Nat.zero_add] at hm
  have h1 := List.all_eq_true.1 h _ hm
  simp only [Bool.and_eq_true, List.all_eq_true, Bool.or_eq_true, Bool.not_eq_true', decide_eq_true_eq, List.any_eq_true, beq_iff_eq, List.mem_range] at h1
  refine ⟨fun e he hb => (h1.1 e he).resolve_left (by simp [hb]), fun k hk hbit => ?_⟩
  rcases h1.2 k hk with h2 | ⟨e, he, hb, h3⟩
  · rw [hbit] at h2; cases h2
  · exact ⟨e, he, hb, h3⟩

theorem meets_spec {a b : List Nat} (h : meets a b = false) : ∀ x ∈ a, x ∉ b := by
  intro x hx hb
  have : meets a b = true := by
    simp only [meets, List.any_eq_true]
    exact ⟨x, hx, by simpa using hb⟩
  rw [h] at this; cases this

theorem dstIn_spec {d : Option Nat} {l : List Nat} (h : dstIn d l = false) : ∀ t, d = some t → t ∉ l := by
  intro t ht
  subst ht
  simpa [dstIn] using h

theorem indep_spec {x y : FP} (h : indep x y = true) : (∀ d, x.dst = some d → d ∉ y.tr ∧ y.dst ≠ some d) ∧ (∀ d, y.dst = some d → d ∉ x.tr) ∧ (∀ id ∈ x.mw ++ x.sw, id ∉ y.mr ∧ id ∉ y.mw ++ y.sw) ∧ (∀ id ∈ y.mw ++ y.sw, id ∉ x.mr) := by
  simp only [indep, Bool.and_eq_true, Bool.not_eq_true'] at h
  obtain ⟨⟨⟨h1, h2⟩, h3⟩, h4⟩ := h
  refine ⟨fun d hd => ?_, dstIn_spec h2, fun id hid => ?_, meets_spec h4⟩
  · have := dstIn_spec h1 d hd
    simp only [List.mem_append, not_or] at this
    exact ⟨this.1, fun e => this.2 (by rw [e]; simp)⟩
  · have := meets_spec h3 id hid
    rw [List.mem_append, not_or] at this
    exact this

/-- All that is written is written one way or the other. -/
theorem mw_sub {all : List Oper} {σ : St} {o : Oper} {mr mw : List Nat} : ∀ id ∈ mw, id ∈ (fpOf all σ o mr mw).mw ++ (fpOf all σ o mr mw).sw := by
  intro id hid
  simp only [fpOf, List.mem_append, List.mem_filter, Bool.not_eq_true']
  by_cases h : id ∈ swIds (evG none σ) o.op
  · exact .inr h
  · exact .inl ⟨hid, by simpa using h⟩

theorem applyE_shape {id : Nat} {s : Shp} : ∀ {l : List (Nat × Option AO)} {m : List (Option AO)}, (∀ p ∈ l, p.1 = id → shpOf p.2 = s) → shpOf (m.getD id none) = s → shpOf ((applyE m l).getD id none) = s := by
  intro l
  induction l with
  | nil => intro m _ h; exact h
  | cons p l ih =>
    intro m hp h
    obtain ⟨i, o⟩ := p
    refine ih (fun q hq => hp q (List.mem_cons_of_mem _ hq)) ?_
    rw [getD_set]
    split
    · rename_i e; exact hp (i, o) (List.mem_cons_self ..) e.1
    · exact h

theorem didD_keep {c : Cfg Γ} {all : List Oper} {σ σ' : St} {nid : Nat} {o : Oper} {v : AV} {eff : List (Nat × Option AO)} {mr : List Nat} (hd : DidD c all σ nid o v eff mr)
    (ht : ∀ t ∈ tmpsOf o all, σ'.tmps.getD t .dead = σ.tmps.getD t .dead) (ha : Agree σ.get σ'.get (rdIds (evG none σ) o.op ++ mr)) (hs : ShAgree σ.get σ'.get (shIds (evG none σ) o.op)) : DidD c all σ' nid o v eff mr := by
  have he : ∀ x ∈ o.op.operands.toList, evO σ' x = evO σ x := by
    intro x hx
    cases x with
    | tmp t => exact ht t (List.mem_append_left _ (List.mem_filterMap.2 ⟨.tmp t, hx, rfl⟩))
    | _ => rfl
  have hw : xWant all σ' o = xWant all σ o := by
    unfold xWant
    cases hg : o.guard with
    | none => rfl
    | some p =>
      obtain ⟨j, w⟩ := p
      simp only
      cases htc : (all[j]?).bind (·.dst) with
      | none => rfl
      | some tc =>
        simp only
        rw [ht tc]
        refine List.mem_append_right _ ?_
        rw [hg]
        simp [htc]
  cases hd with
  | skip h => exact .skip (hw.trans h)
  | plain v eff mr h hd hn => exact .plain v eff mr (hw.trans h) (did_keep hd he ha hs) hn
  | known b eff mr h hd => exact .known b eff mr (hw.trans h) (did_keep hd he ha hs)

theorem didD_soft {c : Cfg Γ} {all : List Oper} {σ : St} {nid : Nat} {o : Oper} {v : AV} {eff : List (Nat × Option AO)} {mr : List Nat} (hd : DidD c all σ nid o v eff mr) : ∀ p ∈ eff, p.1 ∈ swIds (evG none σ) o.op → shpOf p.2 = shpOf (σ.get p.1) := by
  cases hd with
  | skip h => intro p hp; cases hp
  | plain v eff mr h hd hn => exact did_soft hd
  | known b eff mr h hd => exact did_soft hd

theorem stL_congr {ops : List Oper} {r : Nat → Rr} {σ : St} {L L' : Nat → Bool} : ∀ n, (∀ k, k < n → L k = L' k) → stL ops r σ L n = stL ops r σ L' n := by
  intro n
  induction n with
  | zero => intro _; rfl
  | succ n ih =>
    intro h
    simp only [stL]
    rw [ih fun k hk => h k (by omega), h n (by omega)]

theorem noOpts_putD {σ : St} {d : Option Nat} {v : AV} {e : List (Nat × Option AO)} (h : NoOpts σ) (hv : d = none ∨ notOpt v = true) : NoOpts (putD σ d v e) := by
  intro x hx
  cases d with
  | none => exact h x hx
  | some t =>
    rcases List.mem_or_eq_of_mem_set (show x ∈ σ.tmps.set t v from hx) with h1 | h1
    · exact h x h1
    · rw [h1]; exact hv.resolve_left (by simp)

theorem noOpts_stL {c : Cfg Γ} {ops : List Oper} {T : List Nat} {base : Nat} {r : Nat → Rr} {σ : St} (R : Run c ops T base r σ) (h : NoOpts σ) {L : Nat → Bool} : ∀ n, NoOpts (stL ops r σ L n) := by
  intro n
  induction n with
  | zero => exact h
  | succ n ih =>
    simp only [stL]
    split
    · refine noOpts_putD ih ?_
      cases ho : ops[n]? with
      | none => exact .inl (by simp [dstAt, ho])
      | some o =>
        have := (R.did n o ho).1.notOpt
        rcases this with h1 | h1
        · exact .inl (by simp [dstAt, ho, h1])
        · exact .inr h1
    · exact ih

section
variable {c : Cfg Γ} {ops : List Oper} {base : Nat} {r : Nat → Rr} {σ : St} {L : Nat → Bool}

/-- What may be done out of the text's order does not touch the rest. -/
theorem run_apart {T : List Nat} (R : Run c ops T base r σ) (hb : befOk ops T = true) (hcl : ∀ i, L i = true → ∀ k, k < ops.length → (T.getD i 0).testBit k = true → L k = true)
    {i : Nat} {o : Oper} (ho : ops[i]? = some o) (hL : L i = false) (hr : ∀ e ∈ o.after.toList, Region.binds .any e = true → L e.on = true) {k : Nat} (hk : (k < i ∧ L k = false) ∨ (i < k ∧ k < ops.length ∧ L k = true)) :
    (∀ t, dstAt ops k = some t → t ∉ tmpsOf o ops ∧ o.dst ≠ some t) ∧ ∀ id ∈ mwAt r k, id ∉ (rdIds (evG none (stL ops r σ (fun _ => true) i)) o.op ++ (r i).2.2) ∧ id ∉ mwAt r i := by
  have hil : i < ops.length := (List.getElem?_eq_some_iff.1 ho).1
  have hkl : k < ops.length := by omega
  have hok : ops[k]? = some ops[k] := List.getElem?_eq_getElem hkl
  have hdk : dstAt ops k = (ops[k]).dst := by simp [dstAt, hok]
  rcases hk with ⟨hki, hLk⟩ | ⟨hik, _, hLk⟩
  · rcases R.ind i o k _ ho hok hki with h1 | h1
    · exfalso
      obtain ⟨e, he, hbd, h2⟩ := (befOk_spec hb ho).2 k hkl h1
      have h3 := hr e he hbd
      rcases h2 with h2 | h2
      · rw [h2] at h3; rw [h3] at hLk; cases hLk
      · have := hcl _ h3 k hkl h2; rw [this] at hLk; cases hLk
    · obtain ⟨h2, h3, h4, h5⟩ := indep_spec h1
      exact ⟨fun t ht => h2 t (by rw [← ht, hdk]; rfl), fun id hid => ⟨(h4 id (mw_sub id hid)).1, fun h => (h4 id (mw_sub id hid)).2 (mw_sub id h)⟩⟩
  · rcases R.ind k _ i o hok ho hik with h1 | h1
    · exfalso
      have := hcl k hLk i hil h1
      rw [this] at hL; cases hL
    · obtain ⟨h2, h3, h4, h5⟩ := indep_spec h1
      refine ⟨fun t ht => ⟨h3 t (by rw [← ht, hdk]; rfl), fun e => ?_⟩, fun id hid => ⟨h5 id (mw_sub id hid), fun h => (h4 id (mw_sub id h)).2 (mw_sub id hid)⟩⟩
      exact (h2 t e).2 (by rw [← ht, hdk]; rfl)

/-- Shapes that are asked for stand all the while. -/
theorem run_shape {T : List Nat} (R : Run c ops T base r σ) {i : Nat} {o : Oper} (ho : ops[i]? = some o) {id : Nat} (hid : id ∈ shIds (evG none (stL ops r σ (fun _ => true) i)) o.op) :
    ∀ m, m ≤ ops.length → ∀ L : Nat → Bool, shpOf ((stL ops r σ L m).get id) = shpOf (σ.get id) := by
  intro m
  induction m with
  | zero => intro _ L; rfl
  | succ m ih =>
    intro hm L
    have ih := ih (by omega)
    simp only [stL]
    split
    case isFalse => exact ih L
    case isTrue hL =>
      refine applyE_shape (fun p hp hpid => ?_) (ih L)
      cases hom : ops[m]? with
      | none => have := List.getElem?_eq_none_iff.1 hom; omega
      | some om =>
        have hd := (R.did m om hom).1
        have hsoft : p.1 ∉ (fpOf ops (stL ops r σ (fun _ => true) m) om (r m).2.2 (mwAt r m)).mw := by
          intro hmw
          rw [hpid] at hmw
          rcases Nat.le_total m i with h | h
          · have := R.soft i o m om ho hom h
            simp only [softOk, Bool.and_eq_true, Bool.not_eq_true'] at this
            exact meets_spec this.1 id hmw hid
          · have := R.soft m om i o hom ho h
            simp only [softOk, Bool.and_eq_true, Bool.not_eq_true'] at this
            exact meets_spec this.2 id hmw hid
        have hin : p.1 ∈ swIds (evG none (stL ops r σ (fun _ => true) m)) om.op := by
          have hpm : p.1 ∈ mwAt r m := List.mem_map.2 ⟨p, hp, rfl⟩
          have := mw_sub (all := ops) (σ := stL ops r σ (fun _ => true) m) (o := om) (mr := (r m).2.2) p.1 hpm
          rcases List.mem_append.1 this with h | h
          · exact absurd h hsoft
          · exact h
        have := didD_soft hd p hp hin
        rw [this, hpid]
        exact ih _

theorem run_did {T : List Nat} (R : Run c ops T base r σ) (hb : befOk ops T = true) (hcl : ∀ i, L i = true → ∀ k, k < ops.length → (T.getD i 0).testBit k = true → L k = true)
    {i : Nat} {o : Oper} (ho : ops[i]? = some o) (hL : L i = false) (hr : ∀ e ∈ o.after.toList, Region.binds .any e = true → L e.on = true) :
    DidD c ops (stL ops r σ L ops.length) (base + 4 * i) o (r i).1 (r i).2.1 (r i).2.2 ∧ stL ops r σ (fun k => L k || decide (k = i)) ops.length = putD (stL ops r σ L ops.length) o.dst (r i).1 (r i).2.1 := by
  have hil : i < ops.length := (List.getElem?_eq_some_iff.1 ho).1
  have hap := fun k hk => run_apart R hb hcl ho hL hr (k := k) hk
  have hdi : dstAt ops i = o.dst := by simp [dstAt, ho]
  have same : ∀ k, k < ops.length → ((k < i ∧ L k = false) ∨ (i < k ∧ k < ops.length ∧ L k = true) → False) → L k = decide (k < i) := by
    intro k hk h
    by_cases e : k = i
    · subst e; simp [hL]
    · by_cases hlt : k < i
      · cases hLk : L k with
        | true => simp [hlt]
        | false => exact (h (.inl ⟨hlt, hLk⟩)).elim
      · cases hLk : L k with
        | true => exact (h (.inr ⟨by omega, hk, hLk⟩)).elim
        | false => simp [hlt]
  constructor
  · refine didD_keep (R.did i o ho).1 (fun t ht => ?_) (fun id hid => ?_) (fun id hid => ?_)
    · rw [← stL_upto (i := i) ops.length (by omega)]
      exact stL_tmp ops.length fun k hk hd => same k hk fun h => ((hap k h).1 t hd).1 ht
    · rw [← stL_upto (i := i) ops.length (by omega)]
      exact stL_mem ops.length fun k hk hd => same k hk fun h => ((hap k h).2 id hd).1 hid
    · rw [run_shape R ho hid _ (Nat.le_refl _), run_shape R ho hid _ (by omega)]
  · rw [← hdi]
    have hout : ∀ k, ops.length ≤ k → dstAt ops k = none := fun k hk => by simp [dstAt, List.getElem?_eq_none hk]
    have e : stL ops r σ (fun k => L k || decide (k = i)) ops.length = stL ops r σ (fun k => (L k && decide (k < ops.length)) || decide (k = i)) ops.length := stL_congr _ fun k hk => by simp [hk]
    have e2 : stL ops r σ L ops.length = stL ops r σ (fun k => L k && decide (k < ops.length)) ops.length := stL_congr _ fun k hk => by simp [hk]
    rw [e, e2]
    refine stL_add (by simp [hL]) (fun k hk hLk t ht hkt => ?_) (fun k hk hLk id hid hkid => ?_) _ hil
    · simp only [Bool.and_eq_true, decide_eq_true_eq] at hLk
      exact ((hap k (.inr ⟨hk, hLk.2, hLk.1⟩)).1 t hkt).2 (by rw [← hdi]; exact ht)
    · simp only [Bool.and_eq_true, decide_eq_true_eq] at hLk
      exact ((hap k (.inr ⟨hk, hLk.2, hLk.1⟩)).2 id hkid).2 hid

end

theorem countP_set : ∀ {l : List Bool} {i : Nat}, l[i]? = some false → (l.set i true).countP (fun b => !b) + 1 = l.countP (fun b => !b) := by
  intro l
  induction l with
  | nil => intro i h; simp at h
  | cons b l ih =>
    intro i h
    cases i with
    | zero => simp at h; subst h; simp
    | succ i =>
      have := ih (i := i) (by simpa using h)
      cases b <;> simp <;> omega

/-- Whatever the order. -/
theorem any_ok {c : Cfg Γ} {ops : Array Oper} {T : List Nat} {base : Nat} {r : Nat → Rr} {σ : St} (R : Run c ops.toList T base r σ) (hb : befOk ops.toList T = true) (hno : NoOpts σ) (hmem : σ.mem.length = base + 4 * ops.size)
    {E0 : Env} {Q : Exit → Act → World → Prop} (hK : ∀ E' a', SR E' (stL ops.toList r σ (fun _ => true) ops.size) a' → Same E0 E' → Mv E0 E' → Q .normal a' E'.w) : ∀ (fuel : Nat) (listed : Array Bool) {E : Env} {a : Act}, listed.size = ops.size → listed.toList.countP (fun b => !b) ≤ fuel →
    (∀ i, listed.getD i false = true → ∀ k, k < ops.size → (T.getD i 0).testBit k = true → listed.getD k false = true) → SR E (stL ops.toList r σ (fun k => listed.getD k false) ops.size) a →
    (∀ id, E.U id → id < base ∨ ∃ k, listed.getD k false = true ∧ base + 4 * k ≤ id ∧ id < base + 4 * k + 4) → Same E0 E → Mv E0 E → wpAny c.P .any ops Q fuel listed a E.w := by
  have hlen : ops.toList.length = ops.size := Array.length_toList
  have done : ∀ (listed : Array Bool), listed.size = ops.size → Region.ready .any ops listed = [] → ∀ k, k < ops.size → listed.getD k false = true := by
    intro listed hsz hr k
    induction k using Nat.strongRecOn with
    | _ k ih =>
      intro hk
      cases hl : listed.getD k false with
      | true => rfl
      | false =>
        exfalso
        have ho : ops[k]? = some ops[k] := by simp [hk]
        have hmem : k ∈ Region.ready .any ops listed := by
          rw [mem_ready]
          refine ⟨?_, ops[k], ho, fun e he hbd => ?_⟩
          · have hkl : k < listed.size := by omega
            simp [Array.getD_eq_getD_getElem?, hkl] at hl ⊢
            exact hl
          · have := (befOk_spec hb (i := k) (o := ops[k]) (by rw [Array.getElem?_toList]; exact ho)).1 e (by simpa using he) hbd
            exact ih e.on this (by omega)
        rw [hr] at hmem
        cases hmem
  have fin : ∀ {listed : Array Bool} {E : Env} {a : Act}, (∀ k, k < ops.size → listed.getD k false = true) → SR E (stL ops.toList r σ (fun k => listed.getD k false) ops.size) a → Same E0 E → Mv E0 E → Q .normal a E.w := by
    intro listed E a hall h hs hmv
    refine hK E a ?_ hs hmv
    rw [stL_congr (L' := fun k => listed.getD k false) ops.size fun k hk => (hall k hk).symm]
    exact h
  intro fuel
  induction fuel with
  | zero =>
    intro listed E a hsz hct hcl h hU hs hmv
    have hall : ∀ k, k < ops.size → listed.getD k false = true := by
      intro k hk
      have h0 := Nat.le_zero.1 hct
      rw [List.countP_eq_zero] at h0
      have hkl : k < listed.size := by omega
      have := h0 listed[k] (by simp)
      simp [Array.getD_eq_getD_getElem?, hkl] at this ⊢
      exact this
    refine ⟨?_, fin hall h hs hmv⟩
    cases hr : Region.ready .any ops listed with
    | nil => rfl
    | cons k l =>
      have hk : k ∈ Region.ready .any ops listed := by rw [hr]; exact List.mem_cons_self ..
      rw [mem_ready] at hk
      obtain ⟨h1, o, ho, _⟩ := hk
      have hkl : k < ops.size := (Array.getElem?_eq_some_iff.1 ho).1
      have := hall k hkl
      have hkl' : k < listed.size := by omega
      simp [Array.getD_eq_getD_getElem?, hkl'] at this h1
      rw [h1] at this; cases this
  | succ fuel ih =>
    intro listed E a hsz hct hcl h hU hs hmv
    refine ⟨fun hr => fin (done listed hsz hr) h hs hmv, fun i hi => ?_⟩
    rw [mem_ready] at hi
    obtain ⟨h1, o, ho, hr⟩ := hi
    have hil : i < ops.size := (Array.getElem?_eq_some_iff.1 ho).1
    have hil' : i < listed.size := by omega
    have hLi : listed.getD i false = false := by
      simp [Array.getD_eq_getD_getElem?, hil'] at h1 ⊢
      exact h1
    have ho' : ops.toList[i]? = some o := by rw [Array.getElem?_toList]; exact ho
    have hcl' : ∀ i, listed.getD i false = true → ∀ k, k < ops.toList.length → (T.getD i 0).testBit k = true → listed.getD k false = true := by rw [hlen]; exact hcl
    obtain ⟨hd, hadd⟩ := run_did (L := fun k => listed.getD k false) R hb hcl' ho' hLi fun e he hbd => hr e (by simpa using he) hbd
    rw [hlen] at hd hadd
    have hLs : ∀ k, (listed.setIfInBounds i true).getD k false = (listed.getD k false || decide (k = i)) := by
      intro k
      by_cases e : k = i
      · subst e
        simp [Array.getD_eq_getD_getElem?, hil']
      · rw [getD_set_ne false (fun h => e h.symm)]
        simp [e]
    refine didD_ok h (noOpts_stL R hno _) (nid := base + 4 * i) (fun k hk hu => ?_) ?_ ho hd (dOk_stL.2 (R.did i o ho').2) (fun E' a' hsr hsame hmv' hU' => ?_) Q
    · rcases hU _ hu with h2 | ⟨k', h2, h3, h4⟩
      · omega
      · have : k' = i := by omega
        subst this
        rw [hLi] at h2; cases h2
    · rw [stL_mlen, hmem]; omega
    · refine ih (listed.setIfInBounds i true) (by simp [hsz]) ?_ (fun i' hi' k hk hbit => ?_) ?_ (fun id hu => ?_) (hs.trans hsame) (hmv.trans hmv')
      · have := countP_set (l := listed.toList) (i := i) (by
          rw [Array.getElem?_toList]
          simp [Array.getD_eq_getD_getElem?, hil'] at hLi
          simp [hil', hLi])
        rw [Array.toList_setIfInBounds]
        omega
      · rw [hLs] at hi' ⊢
        rw [Bool.or_eq_true] at hi' ⊢
        rcases hi' with h2 | h2
        · exact .inl (hcl i' h2 k hk hbit)
        · have : i' = i := by simpa using h2
          subst this
          obtain ⟨e, he, hbd, h3⟩ := (befOk_spec hb ho').2 k (by omega) hbit
          have h4 := hr e (by simpa using he) hbd
          rcases h3 with h3 | h3
          · rw [← h3]; exact .inl h4
          · exact .inl (hcl _ h4 k hk h3)
      · rw [stL_congr (L' := fun k => listed.getD k false || decide (k = i)) ops.size fun k hk => hLs k, hadd]
        exact hsr
      · rcases hU' id hu with h2 | h2
        · rcases hU id h2 with h3 | ⟨k, h3, h4⟩
          · exact .inl h3
          · exact .inr ⟨k, by rw [hLs, h3]; rfl, h4⟩
        · exact .inr ⟨i, by rw [hLs]; simp, h2⟩

theorem drawn_world {E : Env} {σ : St} {a : Act} (h : SR E σ a) : SR { E with w := { E.w with drawn := E.w.drawn + 1 } } σ a ∧ Mv E { E with w := { E.w with drawn := E.w.drawn + 1 } } := by
  have mv : Mv E { E with w := { E.w with drawn := E.w.drawn + 1 } } := ⟨Nat.le_refl _, fun fr k hk _ => ⟨rfl, hk⟩, fun id hu => ⟨hu, by
    cases hg : E.get id with
    | none => exact .inl rfl
    | some o => exact .inr ⟨rfl, o, o, rfl, rfl, like_refl o⟩⟩⟩
  refine ⟨⟨⟨⟨h.mr.ext.os, h.mr.ext.tape, h.mr.ext.output, h.mr.ext.size, h.mr.ext.block⟩, h.mr.gsep, h.mr.osep, h.mr.used, h.mr.own, h.mr.disj, fun id o ho => (h.mr.objs id o ho).move mv fun _ _ => rfl⟩, h.get, h.u, h.d, h.len, fun t => (h.tmp t).move mv⟩, mv⟩

/-- Drawn regions are as they are told, where the program's follows the language's rules for orders. -/
theorem draw_ok {c : Cfg Γ} (hm : c.P.follows .mixedOrders = true) : DrawOk c := by
  intro X E σ a ops rid K Q Qx h hw hK
  refine wp_region_any hm ?_
  unfold xRegion at hw
  simp only [if_true] at hw
  split at hw
  case isFalse => exact hw.elim
  case isTrue hb =>
    obtain ⟨h1, mv1⟩ := drawn_world (grow_ok (unOpt_ok h) (4 * ops.toList.length))
    have hno : NoOpts { tmps := σ.tmps.map unOpt, mem := σ.mem ++ List.replicate (4 * ops.toList.length) none } := by
      intro x hx
      obtain ⟨y, _, rfl⟩ := List.mem_map.1 hx
      cases y <;> rfl
    obtain ⟨r, R, hk⟩ := run_of ops.toList 0 [] [] rfl (by simp) (fun k => by simp) (by simp) (by simp) (by simp) (by simp) hw
    have hlen : ops.toList.length = ops.size := Array.length_toList
    refine any_ok R hb hno (by simp) (E0 := E) (fun E' a' hsr hs hmv => hK _ E' a' hsr hs hmv (by rw [hlen] at hk; exact hk)) ops.size (Array.replicate ops.size false) (E := { E with w := { E.w with drawn := E.w.drawn + 1 } }) (by simp) (by simp [List.countP_replicate]) (fun i hi => ?_) ?_ (fun id hu => ?_) ⟨rfl, rfl, rfl⟩ mv1
    · simp [Array.getD_eq_getD_getElem?, Array.getElem?_replicate] at hi
      split at hi <;> simp at hi
    · have e : ∀ n, stL ops.toList r { tmps := σ.tmps.map unOpt, mem := σ.mem ++ List.replicate (4 * ops.toList.length) none } (fun k => (Array.replicate ops.size false).getD k false) n = { tmps := σ.tmps.map unOpt, mem := σ.mem ++ List.replicate (4 * ops.toList.length) none } := by
        intro n
        induction n with
        | zero => rfl
        | succ n ih =>
          have hz : (Array.replicate ops.size false).getD n false = false := by
            simp [Array.getD_eq_getD_getElem?, Array.getElem?_replicate]
            split <;> rfl
          simp only [stL, hz]
          exact ih
      rw [e]
      exact h1
    · exact .inl (h.u id hu)

end

end Go.Proofs.YtjmnjimlkljhjaaV

/- Functions and loops by their trees: what a seat's program lays. -/
set_option linter.unusedVariables false
namespace Go.Proofs.YtjmnjimlkljhjaaV
open Go

section
variable {Γ : Nat → Sig}

/-- The contracts of a code's loops speak of these. -/
def Heads (Γ : Nat → Sig) (c : Code) : Nat → List Nat → Prop
  | _, [] => True
  | k, i :: l => (Γ i).what = .loop (loopAt c k) ∧ Heads Γ c (k + 1) l

theorem heads_at {c : Code} : ∀ {l : List Nat} {k j i : Nat}, Heads Γ c k l → l[j]? = some i → (Γ i).what = .loop (loopAt c (k + j)) := by
  intro l
  induction l with
  | nil => intro k j i _ h; simp at h
  | cons x l ih =>
    intro k j i h hj
    cases j with
    | zero => simp at hj; subst hj; exact h.1
    | succ j =>
      have := ih h.2 (by simpa using hj)
      rw [show k + 1 + j = k + (j + 1) by omega] at this
      exact this

theorem mkPlan_ok : ∀ (c : Code) (l : List Nat), (∀ (k : Nat) (b : Code) (i : Nat), (loopsOf c)[k]? = some b → l[k]? = some i → (Γ i).what = .loop b) → PlanOk Γ c (mkPlan c l).1 ∧ (mkPlan c l).2 = l.drop (loopsOf c).length := by
  intro c
  induction c with
  | seq x y ihx ihy =>
    intro l h
    have hx := ihx l fun k b i hk hi => h k b i (by
      show (loopsOf x ++ loopsOf y)[k]? = some b
      rw [List.getElem?_append_left (List.getElem?_eq_some_iff.1 hk).1]; exact hk) hi
    have hy := ihy (mkPlan x l).2 fun k b i hk hi => h ((loopsOf x).length + k) b i (by
      show (loopsOf x ++ loopsOf y)[_]? = some b
      rw [List.getElem?_append_right (by omega)]; simpa using hk) (by rw [hx.2, List.getElem?_drop] at hi; exact hi)
    refine ⟨⟨hx.1, hy.1⟩, ?_⟩
    show (mkPlan y (mkPlan x l).2).2 = l.drop (loopsOf x ++ loopsOf y).length
    rw [hy.2, hx.2, List.drop_drop, List.length_append]
  | cond b x y ihx ihy =>
    intro l h
    have hx := ihx l fun k b i hk hi => h k b i (by
      show (loopsOf x ++ loopsOf y)[k]? = some b
      rw [List.getElem?_append_left (List.getElem?_eq_some_iff.1 hk).1]; exact hk) hi
    have hy := ihy (mkPlan x l).2 fun k b i hk hi => h ((loopsOf x).length + k) b i (by
      show (loopsOf x ++ loopsOf y)[_]? = some b
      rw [List.getElem?_append_right (by omega)]; simpa using hk) (by rw [hx.2, List.getElem?_drop] at hi; exact hi)
    refine ⟨⟨hx.1, hy.1⟩, ?_⟩
    show (mkPlan y (mkPlan x l).2).2 = l.drop (loopsOf x ++ loopsOf y).length
    rw [hy.2, hx.2, List.drop_drop, List.length_append]
  | block id x ih =>
    intro l h
    exact ih l h
  | loop b ih =>
    intro l h
    cases l with
    | nil => exact ⟨trivial, rfl⟩
    | cons i l => exact ⟨h 0 b i rfl rfl, rfl⟩
  | _ => intro l h; exact ⟨trivial, rfl⟩

theorem plan_ok {c : Code} {l : List Nat} (h : Heads Γ c 0 l) : PlanOk Γ c (plan c l) := by
  refine (mkPlan_ok c l fun k b i hk hi => ?_).1
  have := heads_at h hi
  rw [Nat.zero_add] at this
  rw [this]
  simp [loopAt, List.getD_eq_getElem?_getD, hk]

/-- A function by its tree. -/
theorem fn_rule {c : Cfg Γ} {P : Program} (hP : c.P = P) (hm : P.follows .mixedOrders = true) {i : Nat} {f : FuncId} (hw : (Γ i).what = .fn f) {fn : Func} (hf : P.funcs[f]? = some fn) {code : Code} (hb : fn.body = some code) (hname : (fn.name == "runtime.NumGoroutine") = false)
    {l : List Nat} (hp : Heads Γ code 0 l) (hkeep : (decide (c.keep ≤ (Γ i).pre.objs.length)) = true) {x : (Γ i).pre.T} {t : Tree Γ (outTpl (Γ i).outs).T} (ht : funT c i fn code (plan code l) x = t) {y : (Γ i).O}
    (h : t.wp (SemR P Γ) (oneOut (Γ i).outs y)) : SemR P Γ i x y := by
  subst hP
  exact fn_ok (draw_ok hm) hw hf hb hname (plan_ok hp) (of_decide_eq_true hkeep) (by rw [ht]; exact h)

theorem Tree.wp_mono {X : Type} {R : Spec Γ} {Q Q' : X → Prop} (hq : ∀ x, Q x → Q' x) : ∀ {t : Tree Γ X}, t.wp R Q → t.wp R Q' := by
  intro t
  induction t with
  | ret x => intro h; exact hq x h
  | stuck w => intro h; exact h.elim
  | ite b t e iht ihe =>
    intro h
    cases b with
    | true => exact iht (show t.wp R Q from h)
    | false => exact ihe (show e.wp R Q from h)
  | chk b t ih => intro h; exact ⟨h.1, ih h.2⟩
  | act i s k ih => intro h; obtain ⟨y, hy, hk⟩ := h; exact ⟨y, hy, ih y hk⟩

/-- What a round must come to. -/
def LoopP {A B : Type} (R : A → B → Prop) (y : B) : A ⊕ B → Prop
  | .inl x => R x y
  | .inr z => z = y

/-- A loop by its round's tree. -/
theorem loop_rule {c : Cfg Γ} {P : Program} (hP : c.P = P) (hm : P.follows .mixedOrders = true) {i : Nat} {body : Code} (hw : (Γ i).what = .loop body) (hkeep : (Γ i).keep = c.keep) {l : List Nat} (hp : Heads Γ body 0 l) {x : (Γ i).pre.T} {t : Tree Γ ((Γ i).pre.T ⊕ (Γ i).O)}
    (ht : roundT c i body (plan body l) x = t) {y : (Γ i).O} (h : t.wp (SemR P Γ) (LoopP (SemR P Γ i) y)) : SemR P Γ i x y := by
  subst hP
  refine loop_step (draw_ok hm) hw hkeep (plan_ok hp) ?_
  rw [ht]
  refine Tree.wp_mono (fun r hr => ?_) h
  cases r with
  | inl x' => exact hr
  | inr y' => exact hr

end

end Go.Proofs.YtjmnjimlkljhjaaV

/- Trees at given inputs: by evaluation. -/
set_option linter.unusedVariables false
namespace Go.Proofs.YtjmnjimlkljhjaaV
open Go

section
variable {Γ : Nat → Sig}

abbrev RecT (Γ : Nat → Sig) := (i : Nat) → (Γ i).pre.T → Option (Γ i).O

def evalT (rec : RecT Γ) {X : Type} : Tree Γ X → Option X
  | .ret x => some x
  | .stuck _ => none
  | .ite b t e => bif b then evalT rec t else evalT rec e
  | .chk b t => bif b then evalT rec t else none
  | .act i s k => match rec i s with
    | some y => evalT rec (k y)
    | none => none

def RecOk (R : Spec Γ) (rec : RecT Γ) : Prop := ∀ i s y, rec i s = some y → R i s y

theorem evalT_ok {R : Spec Γ} {rec : RecT Γ} (hr : RecOk R rec) {X : Type} {Q : X → Prop} : ∀ {t : Tree Γ X} {x : X}, evalT rec t = some x → Q x → t.wp R Q := by
  intro t
  induction t with
  | ret x => intro y h hq; cases h; exact hq
  | stuck w => intro y h; cases h
  | ite b t e iht ihe =>
    intro y h hq
    cases b with
    | true => exact iht h hq
    | false => exact ihe h hq
  | chk b t ih =>
    intro y h hq
    cases b with
    | true => exact ⟨rfl, ih h hq⟩
    | false => cases h
  | act i s k ih =>
    intro y h hq
    simp only [evalT] at h
    split at h
    · rename_i z hz
      exact ⟨z, hr i s z hz, ih z h hq⟩
    · cases h

/-- A loop's: once more, or out. -/
def evalL (rec : RecT Γ) {A B : Type} (f : A → Option B) (t : Tree Γ (A ⊕ B)) : Option B :=
  match evalT rec t with
  | some (.inl s) => f s
  | some (.inr y) => some y
  | none => none

theorem evalL_ok {R : Spec Γ} {rec : RecT Γ} (hr : RecOk R rec) {A B : Type} {f : A → Option B} {r : A → B → Prop} (hf : ∀ s y, f s = some y → r s y) {t : Tree Γ (A ⊕ B)} {y : B} (h : evalL rec f t = some y) : t.wp R (LoopP r y) := by
  unfold evalL at h
  split at h
  · rename_i s hs
    exact evalT_ok hr hs (hf s y h)
  · rename_i z hz
    cases h
    exact evalT_ok hr hz rfl
  · cases h

structure Entry (Γ : Nat → Sig) where
  i : Nat
  f : RecT Γ → (Γ i).pre.T → Option (Γ i).O

def Entry.Ok (R : Spec Γ) (e : Entry Γ) : Prop := ∀ rec, RecOk R rec → ∀ s y, e.f rec s = some y → R e.i s y

def look (rec : RecT Γ) : List (Entry Γ) → RecT Γ
  | [], _, _ => none
  | e :: l, i, s => if h : e.i = i then (by subst h; exact e.f rec s) else look rec l i s

theorem look_ok {R : Spec Γ} {rec : RecT Γ} (hr : RecOk R rec) : ∀ {l : List (Entry Γ)}, (∀ e ∈ l, e.Ok R) → RecOk R (look rec l) := by
  intro l
  induction l with
  | nil => intro _ i s y h; cases h
  | cons e l ih =>
    intro ho i s y h
    simp only [look] at h
    split at h
    · rename_i e1
      subst e1
      exact ho e (by simp) rec hr s y h
    · exact ih (fun e he => ho e (by simp [he])) i s y h

def run (l : List (Entry Γ)) : Nat → RecT Γ
  | 0 => fun _ _ => none
  | n + 1 => look (run l n) l

theorem run_ok {R : Spec Γ} {l : List (Entry Γ)} (ho : ∀ e ∈ l, e.Ok R) : ∀ n, RecOk R (run l n) := by
  intro n
  induction n with
  | zero => intro i s y h; cases h
  | succ n ih => exact look_ok ih ho

end

end Go.Proofs.YtjmnjimlkljhjaaV
