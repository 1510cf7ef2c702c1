/-
  No cell of these rows narrows 'for every input' (looked for: loops, veiled, ifaces, maps, wideKeys, modest, calm, conditions, laid).
  DERIVED. THE GIVEN ROWS OF THIS SEAT. 7 by the template 'for every input the law returns true; each argument reads behind the call as it read before'; 0 by the template 'total and deterministic' (their statements: YtlgjakpoaelehaaGreatTotals.lean).
  GIVEN WITH THE SEED: the statements are not yours to turn. If you find one false, say at which input.
  Laid BY PROGRAM, IN A SANDBOX (cutbox-rows.mjs): the forced cells as the released guide's own fill.sh prints them over the translation 0528b1126eb5fdc0… (all of the seat's roots in one cut). By AI agents, Wed Nov 11 2026. No macro, syntax, notation, axiom, sorry.
-/
import Derived.Test.YtlgjakpoaelehaaGreatChecked
import GoSem.Claim
import GoSem.ClaimJoined
import GoSem.ClaimMapViews
import Derived.JoinedTies
import Derived.KernelRfl
namespace Go.Proofs.YtlgjakpoaelehaaGreat
/- THE CELL 'sum', in the pinned program and in every row, IS THE sha256 OF THE DUMP (.gsa) THAT YtlgjakpoaelehaaGreatProg.lean LOADS. Nothing in Lean hashes anything: it is a label: what it is worth is what the hold of that sum in a sandbox is worth. -/
noncomputable def Tryz.pinned : Pinned := { name := "ytlgjakpoaelehaagreat", sum := "0528b1126eb5fdc0e094aabe23fe2b33d65833c287f9d5abf79bb3192da3e80d", checked := Tryz.checked }
namespace Rows
def none {H : Type} : Left H := { results := [], args := [] }

/-- 'amblelaw08.GaitFinds': WHATEVER THE INPUT: true; the input reads as it did. -/
def gaitFindsSpec : ChangeSpec := { name := "gaitFinds", fn := fun _ => fun
  | [d] => { results := [.lit (.bool true)], args := [d] }
  | _ => none }
def gaitFindsRow : OpenClaim := { program := "ytlgjakpoaelehaagreat", sum := "0528b1126eb5fdc0e094aabe23fe2b33d65833c287f9d5abf79bb3192da3e80d", func := "amble/amblelaw08.GaitFinds", spec := "gaitFinds", unfollowed := true, recurses := true, plainKeys := false, apart := false }
def GaitFindsSaid : Prop := gaitFindsRow.holds Tryz.pinned (OpenSpec.ofChange gaitFindsSpec)

/-- ITS FALSE NEIGHBOUR: 'it returns false'. Refute it at one input. -/
def gaitFindsWrong : ChangeSpec := { name := "gaitFinds", fn := fun _ => fun
  | [d] => { results := [.lit (.bool false)], args := [d] }
  | _ => none }
def GaitFindsWrongFalsely : Prop := gaitFindsRow.holds Tryz.pinned (OpenSpec.ofChange gaitFindsWrong)

/-- 'amblelaw08.GaitMore': WHATEVER THE INPUT: true; the input reads as it did. -/
def gaitMoreSpec : ChangeSpec := { name := "gaitMore", fn := fun _ => fun
  | [d1, d2, d3] => { results := [.lit (.bool true)], args := [d1, d2, d3] }
  | _ => none }
def gaitMoreRow : OpenClaim := { program := "ytlgjakpoaelehaagreat", sum := "0528b1126eb5fdc0e094aabe23fe2b33d65833c287f9d5abf79bb3192da3e80d", func := "amble/amblelaw08.GaitMore", spec := "gaitMore", unfollowed := true, recurses := true, plainKeys := false, apart := false }
def GaitMoreSaid : Prop := gaitMoreRow.holds Tryz.pinned (OpenSpec.ofChange gaitMoreSpec)

/-- ITS FALSE NEIGHBOUR: 'it returns false'. Refute it at one input. -/
def gaitMoreWrong : ChangeSpec := { name := "gaitMore", fn := fun _ => fun
  | [d1, d2, d3] => { results := [.lit (.bool false)], args := [d1, d2, d3] }
  | _ => none }
def GaitMoreWrongFalsely : Prop := gaitMoreRow.holds Tryz.pinned (OpenSpec.ofChange gaitMoreWrong)

/-- 'amblelaw08.GaitProofs': WHATEVER THE INPUT: true; the input reads as it did. -/
def gaitProofsSpec : ChangeSpec := { name := "gaitProofs", fn := fun _ => fun
  | [d1, d2] => { results := [.lit (.bool true)], args := [d1, d2] }
  | _ => none }
def gaitProofsRow : OpenClaim := { program := "ytlgjakpoaelehaagreat", sum := "0528b1126eb5fdc0e094aabe23fe2b33d65833c287f9d5abf79bb3192da3e80d", func := "amble/amblelaw08.GaitProofs", spec := "gaitProofs", unfollowed := true, recurses := true, plainKeys := false, apart := false }
def GaitProofsSaid : Prop := gaitProofsRow.holds Tryz.pinned (OpenSpec.ofChange gaitProofsSpec)

/-- ITS FALSE NEIGHBOUR: 'it returns false'. Refute it at one input. -/
def gaitProofsWrong : ChangeSpec := { name := "gaitProofs", fn := fun _ => fun
  | [d1, d2] => { results := [.lit (.bool false)], args := [d1, d2] }
  | _ => none }
def GaitProofsWrongFalsely : Prop := gaitProofsRow.holds Tryz.pinned (OpenSpec.ofChange gaitProofsWrong)

/-- 'amblelaw08.GaitMoves': WHATEVER THE INPUT: true; the input reads as it did. -/
def gaitMovesSpec : ChangeSpec := { name := "gaitMoves", fn := fun _ => fun
  | [d1, d2, d3] => { results := [.lit (.bool true)], args := [d1, d2, d3] }
  | _ => none }
def gaitMovesRow : OpenClaim := { program := "ytlgjakpoaelehaagreat", sum := "0528b1126eb5fdc0e094aabe23fe2b33d65833c287f9d5abf79bb3192da3e80d", func := "amble/amblelaw08.GaitMoves", spec := "gaitMoves", unfollowed := true, recurses := true, plainKeys := false, apart := false }
def GaitMovesSaid : Prop := gaitMovesRow.holds Tryz.pinned (OpenSpec.ofChange gaitMovesSpec)

/-- ITS FALSE NEIGHBOUR: 'it returns false'. Refute it at one input. -/
def gaitMovesWrong : ChangeSpec := { name := "gaitMoves", fn := fun _ => fun
  | [d1, d2, d3] => { results := [.lit (.bool false)], args := [d1, d2, d3] }
  | _ => none }
def GaitMovesWrongFalsely : Prop := gaitMovesRow.holds Tryz.pinned (OpenSpec.ofChange gaitMovesWrong)

/-- 'amblelaw08.GaitWords': WHATEVER THE INPUT: true; the input reads as it did. -/
def gaitWordsSpec : ChangeSpec := { name := "gaitWords", fn := fun _ => fun
  | [d1, d2, d3] => { results := [.lit (.bool true)], args := [d1, d2, d3] }
  | _ => none }
def gaitWordsRow : OpenClaim := { program := "ytlgjakpoaelehaagreat", sum := "0528b1126eb5fdc0e094aabe23fe2b33d65833c287f9d5abf79bb3192da3e80d", func := "amble/amblelaw08.GaitWords", spec := "gaitWords", unfollowed := true, recurses := true, plainKeys := false, apart := false }
def GaitWordsSaid : Prop := gaitWordsRow.holds Tryz.pinned (OpenSpec.ofChange gaitWordsSpec)

/-- ITS FALSE NEIGHBOUR: 'it returns false'. Refute it at one input. -/
def gaitWordsWrong : ChangeSpec := { name := "gaitWords", fn := fun _ => fun
  | [d1, d2, d3] => { results := [.lit (.bool false)], args := [d1, d2, d3] }
  | _ => none }
def GaitWordsWrongFalsely : Prop := gaitWordsRow.holds Tryz.pinned (OpenSpec.ofChange gaitWordsWrong)

/-- 'amblelaw08.GaitRotates': WHATEVER THE INPUT: true; the input reads as it did. -/
def gaitRotatesSpec : ChangeSpec := { name := "gaitRotates", fn := fun _ => fun
  | [d1, d2, d3] => { results := [.lit (.bool true)], args := [d1, d2, d3] }
  | _ => none }
def gaitRotatesRow : OpenClaim := { program := "ytlgjakpoaelehaagreat", sum := "0528b1126eb5fdc0e094aabe23fe2b33d65833c287f9d5abf79bb3192da3e80d", func := "amble/amblelaw08.GaitRotates", spec := "gaitRotates", unfollowed := true, recurses := true, plainKeys := false, apart := false }
def GaitRotatesSaid : Prop := gaitRotatesRow.holds Tryz.pinned (OpenSpec.ofChange gaitRotatesSpec)

/-- ITS FALSE NEIGHBOUR: 'it returns false'. Refute it at one input. -/
def gaitRotatesWrong : ChangeSpec := { name := "gaitRotates", fn := fun _ => fun
  | [d1, d2, d3] => { results := [.lit (.bool false)], args := [d1, d2, d3] }
  | _ => none }
def GaitRotatesWrongFalsely : Prop := gaitRotatesRow.holds Tryz.pinned (OpenSpec.ofChange gaitRotatesWrong)

/-- 'amblelaw08.GaitUnrolls': WHATEVER THE INPUT: true; the input reads as it did. -/
def gaitUnrollsSpec : ChangeSpec := { name := "gaitUnrolls", fn := fun _ => fun
  | [d1, d2, d3] => { results := [.lit (.bool true)], args := [d1, d2, d3] }
  | _ => none }
def gaitUnrollsRow : OpenClaim := { program := "ytlgjakpoaelehaagreat", sum := "0528b1126eb5fdc0e094aabe23fe2b33d65833c287f9d5abf79bb3192da3e80d", func := "amble/amblelaw08.GaitUnrolls", spec := "gaitUnrolls", unfollowed := true, recurses := true, plainKeys := false, apart := false }
def GaitUnrollsSaid : Prop := gaitUnrollsRow.holds Tryz.pinned (OpenSpec.ofChange gaitUnrollsSpec)

/-- ITS FALSE NEIGHBOUR: 'it returns false'. Refute it at one input. -/
def gaitUnrollsWrong : ChangeSpec := { name := "gaitUnrolls", fn := fun _ => fun
  | [d1, d2, d3] => { results := [.lit (.bool false)], args := [d1, d2, d3] }
  | _ => none }
def GaitUnrollsWrongFalsely : Prop := gaitUnrollsRow.holds Tryz.pinned (OpenSpec.ofChange gaitUnrollsWrong)

/- THE SECOND FORM. 'bulk': how many values and letters a reading holds, each counted each time it is reached (what is shared counts as often as it is met; a slice's spare places count too). A statement '..UptoSaid' is the law's where the arguments, and the package variables that the reading takes, are together of bulk at most 1048576: NARROWER than '..Said'. Prove '..Said' where nothing that the law and all that it calls make is longer than what came in: it says more and counts as full. Else prove '..UptoSaid'. A law counts once. -/
mutual
def uptoBulk {H : Type} : DataW H → Nat
  | .lit (.string bytes) => bytes.length + 1
  | .lit _ => 1
  | .nil => 1
  | .ptr d => uptoBulk d + 1
  | .slice elems spare => uptoBulkAll elems + uptoBulkAll spare + 1
  | .agg parts => uptoBulkAll parts + 1
  | .iface _ d => uptoBulk d + 1
  | .map entries => uptoBulkEntries entries + 1
  | .held _ => 1
def uptoBulkAll {H : Type} : List (DataW H) → Nat
  | [] => 0
  | d :: r => uptoBulk d + uptoBulkAll r
def uptoBulkEntries {H : Type} : List (Lit × DataW H) → Nat
  | [] => 0
  | x :: r => uptoBulkEntry x + uptoBulkEntries r
def uptoBulkEntry {H : Type} : Lit × DataW H → Nat
  | (.string bytes, d) => bytes.length + uptoBulk d + 1
  | (_, d) => uptoBulk d + 1
 end
def uptoSmall : (H : Type) → List (DataW H) → Bool := fun _ ds => decide (uptoBulkAll ds ≤ 1048576)
def OpenSpec.upto (s : _root_.Go.ChangeSpec) : _root_.Go.OpenSpec := { _root_.Go.OpenSpec.ofChange s with cond := some uptoSmall }

/-- 'amblelaw08.GaitFinds', WHERE WHAT IT READS IS OF BULK AT MOST 1048576: true; the input reads as it did. -/
def gaitFindsUptoRow : OpenClaim := { program := "ytlgjakpoaelehaagreat", sum := "0528b1126eb5fdc0e094aabe23fe2b33d65833c287f9d5abf79bb3192da3e80d", func := "amble/amblelaw08.GaitFinds", spec := "gaitFinds", unfollowed := true, recurses := true, plainKeys := false, apart := false, narrowed := true }
def GaitFindsUptoSaid : Prop := gaitFindsUptoRow.holds Tryz.pinned (OpenSpec.upto gaitFindsSpec)

/-- 'amblelaw08.GaitMore', WHERE WHAT IT READS IS OF BULK AT MOST 1048576: true; the input reads as it did. -/
def gaitMoreUptoRow : OpenClaim := { program := "ytlgjakpoaelehaagreat", sum := "0528b1126eb5fdc0e094aabe23fe2b33d65833c287f9d5abf79bb3192da3e80d", func := "amble/amblelaw08.GaitMore", spec := "gaitMore", unfollowed := true, recurses := true, plainKeys := false, apart := false, narrowed := true }
def GaitMoreUptoSaid : Prop := gaitMoreUptoRow.holds Tryz.pinned (OpenSpec.upto gaitMoreSpec)

/-- 'amblelaw08.GaitProofs', WHERE WHAT IT READS IS OF BULK AT MOST 1048576: true; the input reads as it did. -/
def gaitProofsUptoRow : OpenClaim := { program := "ytlgjakpoaelehaagreat", sum := "0528b1126eb5fdc0e094aabe23fe2b33d65833c287f9d5abf79bb3192da3e80d", func := "amble/amblelaw08.GaitProofs", spec := "gaitProofs", unfollowed := true, recurses := true, plainKeys := false, apart := false, narrowed := true }
def GaitProofsUptoSaid : Prop := gaitProofsUptoRow.holds Tryz.pinned (OpenSpec.upto gaitProofsSpec)

/-- 'amblelaw08.GaitMoves', WHERE WHAT IT READS IS OF BULK AT MOST 1048576: true; the input reads as it did. -/
def gaitMovesUptoRow : OpenClaim := { program := "ytlgjakpoaelehaagreat", sum := "0528b1126eb5fdc0e094aabe23fe2b33d65833c287f9d5abf79bb3192da3e80d", func := "amble/amblelaw08.GaitMoves", spec := "gaitMoves", unfollowed := true, recurses := true, plainKeys := false, apart := false, narrowed := true }
def GaitMovesUptoSaid : Prop := gaitMovesUptoRow.holds Tryz.pinned (OpenSpec.upto gaitMovesSpec)

/-- 'amblelaw08.GaitWords', WHERE WHAT IT READS IS OF BULK AT MOST 1048576: true; the input reads as it did. -/
def gaitWordsUptoRow : OpenClaim := { program := "ytlgjakpoaelehaagreat", sum := "0528b1126eb5fdc0e094aabe23fe2b33d65833c287f9d5abf79bb3192da3e80d", func := "amble/amblelaw08.GaitWords", spec := "gaitWords", unfollowed := true, recurses := true, plainKeys := false, apart := false, narrowed := true }
def GaitWordsUptoSaid : Prop := gaitWordsUptoRow.holds Tryz.pinned (OpenSpec.upto gaitWordsSpec)

/-- 'amblelaw08.GaitRotates', WHERE WHAT IT READS IS OF BULK AT MOST 1048576: true; the input reads as it did. -/
def gaitRotatesUptoRow : OpenClaim := { program := "ytlgjakpoaelehaagreat", sum := "0528b1126eb5fdc0e094aabe23fe2b33d65833c287f9d5abf79bb3192da3e80d", func := "amble/amblelaw08.GaitRotates", spec := "gaitRotates", unfollowed := true, recurses := true, plainKeys := false, apart := false, narrowed := true }
def GaitRotatesUptoSaid : Prop := gaitRotatesUptoRow.holds Tryz.pinned (OpenSpec.upto gaitRotatesSpec)

/-- 'amblelaw08.GaitUnrolls', WHERE WHAT IT READS IS OF BULK AT MOST 1048576: true; the input reads as it did. -/
def gaitUnrollsUptoRow : OpenClaim := { program := "ytlgjakpoaelehaagreat", sum := "0528b1126eb5fdc0e094aabe23fe2b33d65833c287f9d5abf79bb3192da3e80d", func := "amble/amblelaw08.GaitUnrolls", spec := "gaitUnrolls", unfollowed := true, recurses := true, plainKeys := false, apart := false, narrowed := true }
def GaitUnrollsUptoSaid : Prop := gaitUnrollsUptoRow.holds Tryz.pinned (OpenSpec.upto gaitUnrollsSpec)

end Rows
end Go.Proofs.YtlgjakpoaelehaaGreat
