/-
  No cell of these rows narrows 'for every input' (looked for: loops, veiled, ifaces, maps, wideKeys, modest, calm, conditions, laid).
  DERIVED. THE GIVEN ROWS OF THIS SEAT. 7 by the template 'for every input the law returns true; each argument reads behind the call as it read before'; 0 by the template 'total and deterministic' (their statements: YtjmnjimlkljhjaaTotals.lean).
  GIVEN WITH THE SEED: the statements are not yours to turn. If you find one false, say at which input.
  Laid BY PROGRAM, IN A SANDBOX (cutbox-rows.mjs): the forced cells as the released guide's own fill.sh prints them over the translation 6d075e6d2b8de473… (all of the seat's roots in one cut). By AI agents, Wed Nov 11 2026. No macro, syntax, notation, axiom, sorry.
-/
import Derived.Test.YtjmnjimlkljhjaaChecked
import GoSem.Claim
import GoSem.ClaimJoined
import GoSem.ClaimMapViews
import Derived.JoinedTies
import Derived.KernelRfl
namespace Go.Proofs.Ytjmnjimlkljhjaa
/- THE CELL 'sum', in the pinned program and in every row, IS THE sha256 OF THE DUMP (.gsa) THAT YtjmnjimlkljhjaaProg.lean LOADS. Nothing in Lean hashes anything: it is a label: what it is worth is what the hold of that sum in a sandbox is worth. -/
noncomputable def Try.pinned : Pinned := { name := "ytjmnjimlkljhjaa", sum := "6d075e6d2b8de4735177bd6d4f1f7d9a461816e14a22524a5d9879586cbbe232", checked := Try.checked }
namespace Rows
def none {H : Type} : Left H := { results := [], args := [] }

/-- 'quincunxlaw05.LeastClasses': WHATEVER THE INPUT: true; the input reads as it did. -/
def leastClassesSpec : ChangeSpec := { name := "leastClasses", fn := fun _ => fun
  | [d] => { results := [.lit (.bool true)], args := [d] }
  | _ => none }
def leastClassesRow : OpenClaim := { program := "ytjmnjimlkljhjaa", sum := "6d075e6d2b8de4735177bd6d4f1f7d9a461816e14a22524a5d9879586cbbe232", func := "quincunx/quincunxlaw05.LeastClasses", spec := "leastClasses", unfollowed := true, recurses := true, plainKeys := false, apart := false }
def LeastClassesSaid : Prop := leastClassesRow.holds Try.pinned (OpenSpec.ofChange leastClassesSpec)

/-- ITS FALSE NEIGHBOUR: 'it returns false'. Refute it at one input. -/
def leastClassesWrong : ChangeSpec := { name := "leastClasses", fn := fun _ => fun
  | [d] => { results := [.lit (.bool false)], args := [d] }
  | _ => none }
def LeastClassesWrongFalsely : Prop := leastClassesRow.holds Try.pinned (OpenSpec.ofChange leastClassesWrong)

/-- 'quincunxlaw05.LeastBuilds': WHATEVER THE INPUT: true; the input reads as it did. -/
def leastBuildsSpec : ChangeSpec := { name := "leastBuilds", fn := fun _ => fun
  | [d] => { results := [.lit (.bool true)], args := [d] }
  | _ => none }
def leastBuildsRow : OpenClaim := { program := "ytjmnjimlkljhjaa", sum := "6d075e6d2b8de4735177bd6d4f1f7d9a461816e14a22524a5d9879586cbbe232", func := "quincunx/quincunxlaw05.LeastBuilds", spec := "leastBuilds", unfollowed := true, recurses := true, plainKeys := false, apart := false }
def LeastBuildsSaid : Prop := leastBuildsRow.holds Try.pinned (OpenSpec.ofChange leastBuildsSpec)

/-- ITS FALSE NEIGHBOUR: 'it returns false'. Refute it at one input. -/
def leastBuildsWrong : ChangeSpec := { name := "leastBuilds", fn := fun _ => fun
  | [d] => { results := [.lit (.bool false)], args := [d] }
  | _ => none }
def LeastBuildsWrongFalsely : Prop := leastBuildsRow.holds Try.pinned (OpenSpec.ofChange leastBuildsWrong)

/-- 'quincunxlaw05.LeastApart': WHATEVER THE INPUT: true; the input reads as it did. -/
def leastApartSpec : ChangeSpec := { name := "leastApart", fn := fun _ => fun
  | [d1, d2] => { results := [.lit (.bool true)], args := [d1, d2] }
  | _ => none }
def leastApartRow : OpenClaim := { program := "ytjmnjimlkljhjaa", sum := "6d075e6d2b8de4735177bd6d4f1f7d9a461816e14a22524a5d9879586cbbe232", func := "quincunx/quincunxlaw05.LeastApart", spec := "leastApart", unfollowed := true, recurses := true, plainKeys := false, apart := false }
def LeastApartSaid : Prop := leastApartRow.holds Try.pinned (OpenSpec.ofChange leastApartSpec)

/-- ITS FALSE NEIGHBOUR: 'it returns false'. Refute it at one input. -/
def leastApartWrong : ChangeSpec := { name := "leastApart", fn := fun _ => fun
  | [d1, d2] => { results := [.lit (.bool false)], args := [d1, d2] }
  | _ => none }
def LeastApartWrongFalsely : Prop := leastApartRow.holds Try.pinned (OpenSpec.ofChange leastApartWrong)

/-- 'quincunxlaw05.LeastSame': WHATEVER THE INPUT: true; the input reads as it did. -/
def leastSameSpec : ChangeSpec := { name := "leastSame", fn := fun _ => fun
  | [d1, d2] => { results := [.lit (.bool true)], args := [d1, d2] }
  | _ => none }
def leastSameRow : OpenClaim := { program := "ytjmnjimlkljhjaa", sum := "6d075e6d2b8de4735177bd6d4f1f7d9a461816e14a22524a5d9879586cbbe232", func := "quincunx/quincunxlaw05.LeastSame", spec := "leastSame", unfollowed := true, recurses := true, plainKeys := false, apart := false }
def LeastSameSaid : Prop := leastSameRow.holds Try.pinned (OpenSpec.ofChange leastSameSpec)

/-- ITS FALSE NEIGHBOUR: 'it returns false'. Refute it at one input. -/
def leastSameWrong : ChangeSpec := { name := "leastSame", fn := fun _ => fun
  | [d1, d2] => { results := [.lit (.bool false)], args := [d1, d2] }
  | _ => none }
def LeastSameWrongFalsely : Prop := leastSameRow.holds Try.pinned (OpenSpec.ofChange leastSameWrong)

/-- 'quincunxlaw05.LeastOne': WHATEVER THE INPUT: true; the input reads as it did. -/
def leastOneSpec : ChangeSpec := { name := "leastOne", fn := fun _ => fun
  | [d1, d2] => { results := [.lit (.bool true)], args := [d1, d2] }
  | _ => none }
def leastOneRow : OpenClaim := { program := "ytjmnjimlkljhjaa", sum := "6d075e6d2b8de4735177bd6d4f1f7d9a461816e14a22524a5d9879586cbbe232", func := "quincunx/quincunxlaw05.LeastOne", spec := "leastOne", unfollowed := true, recurses := true, plainKeys := false, apart := false }
def LeastOneSaid : Prop := leastOneRow.holds Try.pinned (OpenSpec.ofChange leastOneSpec)

/-- ITS FALSE NEIGHBOUR: 'it returns false'. Refute it at one input. -/
def leastOneWrong : ChangeSpec := { name := "leastOne", fn := fun _ => fun
  | [d1, d2] => { results := [.lit (.bool false)], args := [d1, d2] }
  | _ => none }
def LeastOneWrongFalsely : Prop := leastOneRow.holds Try.pinned (OpenSpec.ofChange leastOneWrong)

/-- 'quincunxlaw05.LeastTells': WHATEVER THE INPUT: true; the input reads as it did. -/
def leastTellsSpec : ChangeSpec := { name := "leastTells", fn := fun _ => fun
  | [d] => { results := [.lit (.bool true)], args := [d] }
  | _ => none }
def leastTellsRow : OpenClaim := { program := "ytjmnjimlkljhjaa", sum := "6d075e6d2b8de4735177bd6d4f1f7d9a461816e14a22524a5d9879586cbbe232", func := "quincunx/quincunxlaw05.LeastTells", spec := "leastTells", unfollowed := true, recurses := true, plainKeys := false, apart := false }
def LeastTellsSaid : Prop := leastTellsRow.holds Try.pinned (OpenSpec.ofChange leastTellsSpec)

/-- ITS FALSE NEIGHBOUR: 'it returns false'. Refute it at one input. -/
def leastTellsWrong : ChangeSpec := { name := "leastTells", fn := fun _ => fun
  | [d] => { results := [.lit (.bool false)], args := [d] }
  | _ => none }
def LeastTellsWrongFalsely : Prop := leastTellsRow.holds Try.pinned (OpenSpec.ofChange leastTellsWrong)

/-- 'quincunxlaw05.LeastTurns': WHATEVER THE INPUT: true; the input reads as it did. -/
def leastTurnsSpec : ChangeSpec := { name := "leastTurns", fn := fun _ => fun
  | [d1, d2] => { results := [.lit (.bool true)], args := [d1, d2] }
  | _ => none }
def leastTurnsRow : OpenClaim := { program := "ytjmnjimlkljhjaa", sum := "6d075e6d2b8de4735177bd6d4f1f7d9a461816e14a22524a5d9879586cbbe232", func := "quincunx/quincunxlaw05.LeastTurns", spec := "leastTurns", unfollowed := true, recurses := true, plainKeys := false, apart := false }
def LeastTurnsSaid : Prop := leastTurnsRow.holds Try.pinned (OpenSpec.ofChange leastTurnsSpec)

/-- ITS FALSE NEIGHBOUR: 'it returns false'. Refute it at one input. -/
def leastTurnsWrong : ChangeSpec := { name := "leastTurns", fn := fun _ => fun
  | [d1, d2] => { results := [.lit (.bool false)], args := [d1, d2] }
  | _ => none }
def LeastTurnsWrongFalsely : Prop := leastTurnsRow.holds Try.pinned (OpenSpec.ofChange leastTurnsWrong)

/- THE SECOND FORM. 'bulk': how many values and letters a reading holds, each counted each time it is reached (what is shared counts as often as it is met; a slice's spare places count too). A statement '..UptoSaid' is the law's where the arguments, and the package variables that the reading takes, are together of bulk at most 1048576: NARROWER than '..Said'. Prove '..Said' where nothing that the law and all that it calls make is longer than what came in: it says more and counts as full. Else prove '..UptoSaid'. A law counts once. -/
mutual
def uptoBulk {H : Type} : DataW H → Nat
  | .lit (.string bytes) => bytes.length + 1
  | .lit _ => 1
  | .nil => 1
  | .ptr d => uptoBulk d + 1
  | .slice elems spare => uptoBulkAll elems + uptoBulkAll spare + 1
  | .agg parts => uptoBulkAll parts + 1
  | .iface _ d => uptoBulk d + 1
  | .map entries => uptoBulkEntries entries + 1
  | .held _ => 1
def uptoBulkAll {H : Type} : List (DataW H) → Nat
  | [] => 0
  | d :: r => uptoBulk d + uptoBulkAll r
def uptoBulkEntries {H : Type} : List (Lit × DataW H) → Nat
  | [] => 0
  | x :: r => uptoBulkEntry x + uptoBulkEntries r
def uptoBulkEntry {H : Type} : Lit × DataW H → Nat
  | (.string bytes, d) => bytes.length + uptoBulk d + 1
  | (_, d) => uptoBulk d + 1
 end
def uptoSmall : (H : Type) → List (DataW H) → Bool := fun _ ds => decide (uptoBulkAll ds ≤ 1048576)
def OpenSpec.upto (s : _root_.Go.ChangeSpec) : _root_.Go.OpenSpec := { _root_.Go.OpenSpec.ofChange s with cond := some uptoSmall }

/-- 'quincunxlaw05.LeastClasses', WHERE WHAT IT READS IS OF BULK AT MOST 1048576: true; the input reads as it did. -/
def leastClassesUptoRow : OpenClaim := { program := "ytjmnjimlkljhjaa", sum := "6d075e6d2b8de4735177bd6d4f1f7d9a461816e14a22524a5d9879586cbbe232", func := "quincunx/quincunxlaw05.LeastClasses", spec := "leastClasses", unfollowed := true, recurses := true, plainKeys := false, apart := false, narrowed := true }
def LeastClassesUptoSaid : Prop := leastClassesUptoRow.holds Try.pinned (OpenSpec.upto leastClassesSpec)

/-- 'quincunxlaw05.LeastBuilds', WHERE WHAT IT READS IS OF BULK AT MOST 1048576: true; the input reads as it did. -/
def leastBuildsUptoRow : OpenClaim := { program := "ytjmnjimlkljhjaa", sum := "6d075e6d2b8de4735177bd6d4f1f7d9a461816e14a22524a5d9879586cbbe232", func := "quincunx/quincunxlaw05.LeastBuilds", spec := "leastBuilds", unfollowed := true, recurses := true, plainKeys := false, apart := false, narrowed := true }
def LeastBuildsUptoSaid : Prop := leastBuildsUptoRow.holds Try.pinned (OpenSpec.upto leastBuildsSpec)

/-- 'quincunxlaw05.LeastApart', WHERE WHAT IT READS IS OF BULK AT MOST 1048576: true; the input reads as it did. -/
def leastApartUptoRow : OpenClaim := { program := "ytjmnjimlkljhjaa", sum := "6d075e6d2b8de4735177bd6d4f1f7d9a461816e14a22524a5d9879586cbbe232", func := "quincunx/quincunxlaw05.LeastApart", spec := "leastApart", unfollowed := true, recurses := true, plainKeys := false, apart := false, narrowed := true }
def LeastApartUptoSaid : Prop := leastApartUptoRow.holds Try.pinned (OpenSpec.upto leastApartSpec)

/-- 'quincunxlaw05.LeastSame', WHERE WHAT IT READS IS OF BULK AT MOST 1048576: true; the input reads as it did. -/
def leastSameUptoRow : OpenClaim := { program := "ytjmnjimlkljhjaa", sum := "6d075e6d2b8de4735177bd6d4f1f7d9a461816e14a22524a5d9879586cbbe232", func := "quincunx/quincunxlaw05.LeastSame", spec := "leastSame", unfollowed := true, recurses := true, plainKeys := false, apart := false, narrowed := true }
def LeastSameUptoSaid : Prop := leastSameUptoRow.holds Try.pinned (OpenSpec.upto leastSameSpec)

/-- 'quincunxlaw05.LeastOne', WHERE WHAT IT READS IS OF BULK AT MOST 1048576: true; the input reads as it did. -/
def leastOneUptoRow : OpenClaim := { program := "ytjmnjimlkljhjaa", sum := "6d075e6d2b8de4735177bd6d4f1f7d9a461816e14a22524a5d9879586cbbe232", func := "quincunx/quincunxlaw05.LeastOne", spec := "leastOne", unfollowed := true, recurses := true, plainKeys := false, apart := false, narrowed := true }
def LeastOneUptoSaid : Prop := leastOneUptoRow.holds Try.pinned (OpenSpec.upto leastOneSpec)

/-- 'quincunxlaw05.LeastTells', WHERE WHAT IT READS IS OF BULK AT MOST 1048576: true; the input reads as it did. -/
def leastTellsUptoRow : OpenClaim := { program := "ytjmnjimlkljhjaa", sum := "6d075e6d2b8de4735177bd6d4f1f7d9a461816e14a22524a5d9879586cbbe232", func := "quincunx/quincunxlaw05.LeastTells", spec := "leastTells", unfollowed := true, recurses := true, plainKeys := false, apart := false, narrowed := true }
def LeastTellsUptoSaid : Prop := leastTellsUptoRow.holds Try.pinned (OpenSpec.upto leastTellsSpec)

/-- 'quincunxlaw05.LeastTurns', WHERE WHAT IT READS IS OF BULK AT MOST 1048576: true; the input reads as it did. -/
def leastTurnsUptoRow : OpenClaim := { program := "ytjmnjimlkljhjaa", sum := "6d075e6d2b8de4735177bd6d4f1f7d9a461816e14a22524a5d9879586cbbe232", func := "quincunx/quincunxlaw05.LeastTurns", spec := "leastTurns", unfollowed := true, recurses := true, plainKeys := false, apart := false, narrowed := true }
def LeastTurnsUptoSaid : Prop := leastTurnsUptoRow.holds Try.pinned (OpenSpec.upto leastTurnsSpec)

end Rows
end Go.Proofs.Ytjmnjimlkljhjaa
