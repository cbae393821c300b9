/- The statement LeastTells: for every input the call returns true, and its arguments read behind it as they read before. -/
import Derived.Test.YtjmnjimlkljhjaaRows
import Derived.Test.YtjmnjimlkljhjaaPC2
import Derived.ProofKit
import Derived.ChangeOld
set_option linter.unusedVariables false
namespace Go.Proofs.Ytjmnjimlkljhjaa.leastTells
open Go.ChangeShapes Go.WideShapes Go.ChangeAt Go.RowKit
open Go.Proofs.YtjmnjimlkljhjaaV
theorem own : ownKnob Try.prog.godebug = none := by kernel_rfl
theorem laidOut : laidOutB Try.prog = true := by kernel_rfl
set_option maxRecDepth 100000 in
theorem lifted (os : Os) (started : os.Started) (H : Type) (enc : TypeId × Value → H) :
    ReturnsInHanded {} Try.checked os 8 .any (Rows.leastTellsSpec.pre6 enc Try.prog Try.f8 Rows.leastTellsRow.domain false) (Rows.leastTellsSpec.post enc Try.prog Try.f8 false true false false) := by
  refine returnsInHanded_of_change_sized (C := Try.checked) own started (by kernel_rfl) Try.func8
    (ChangeSpec.witness6 (enc := enc) (C := Try.checked) false ⟨#[], #[.agg #[.slice none 0 0, .slice none 0 0]], []⟩ 8 (by kernel_rfl) (by kernel_rfl) (by kernel_rfl) (by kernel_rfl)) ?_
  intro W base args ds gs before hval0 hW hcnd hsz0 _
  have hval : ∀ (j : Nat) t v, Try.f8.params[j]? = some t → args[j]? = some v → Value.okWide Try.prog W .any base t v := hval0
  have hW' := hW
  obtain ⟨p, q, hA0, hV, rfl, hfz, hnd⟩ := hW
  have hA : DataW.TrodAll enc Try.prog W 0 (fun _ => true) true Try.f8.params.toList args.toList ds p := hA0
  rw [Try.params8] at hA hval
  obtain ⟨v0, vs0, d0, ds0, p0, q0, hargs, rfl, rfl, h0, r0⟩ := trodAll_cons hA
  obtain ⟨rfl, rfl, rfl⟩ := trodAll_nil r0
  obtain rfl : args = #[v0] := by cases args; simp_all
  obtain ⟨rfl, rfl⟩ := trodVars_none hV
  obtain ⟨x0, e0, f0, l0⟩ := open_arg (n := 12) (t := tD) (by kernel_rfl) (hval 0 _ v0 rfl rfl) h0
  obtain ⟨m0, a0⟩ := x0
  have hs := s800 m0 a0 (wf_tyD f0)
  refine (row_run (P := Try.prog) (f := 8) (pre := sig800.pre) rfl (x := (((m0, a0), ()), ())) hs (vs := [v0]) rfl (fun s v hv => ?_)).mono fun e W' ⟨he, bel⟩ => ?_
  · match s, hv with
    | 0, hv => cases hv; exact e0
    | s + 1, hv => simp at hv
  · subst he
    exact ⟨_, rfl, _, _, _, [], _, [], hW', trodAll_mk1 (shut_bool Try.underlying4 _), (trodAll_cons_mk (Below.trod laidOut (by kernel_rfl) (of_decide_eq_true (by kernel_rfl)) h0 bel l0) trodAll_mk0), rfl, bel.frame _, fun h => by cases h⟩
theorem over : Rows.leastTellsRow.holds Try.pinned (OpenSpec.ofChange Rows.leastTellsSpec) :=
  OpenClaim.holds_of_wide 8 Try.f8 rfl rfl rfl rfl rfl rfl rfl ⟨rfl, rfl, rfl, rfl, rfl⟩ rfl rfl rfl rfl rfl (by kernel_rfl) Try.func8 (by kernel_rfl)
    (of_decide_eq_true (by kernel_rfl)) (by unfold Func.isWrapper; first | (rw [if_pos (by decide +kernel)]; kernel_rfl) | (rw [if_neg (by decide +kernel)]; exact ⟨rfl, rfl⟩))
    (fun os started H enc _ => lifted os started H enc)
theorem proved : Rows.LeastTellsSaid := over
#print axioms proved
end Go.Proofs.Ytjmnjimlkljhjaa.leastTells
namespace Go.Proofs.Ytjmnjimlkljhjaa
/-- The row, under a short name, for the claim. -/
theorem leastTells_holds : Rows.LeastTellsSaid := leastTells.proved
end Go.Proofs.Ytjmnjimlkljhjaa
