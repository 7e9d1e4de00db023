/-
  No cell of these rows narrows 'for every input' (looked for: loops, veiled, ifaces, maps, wideKeys, modest, calm, conditions, laid).
  DERIVED. THE GIVEN ROWS OF THIS SEAT. 2 by the template 'for every input the law returns true; each argument reads behind the call as it read before'; 0 by the template 'total and deterministic' (their statements: YtchkgfmmfdineaaGreatTotals.lean).
  GIVEN WITH THE SEED: the statements are not yours to turn. If you find one false, say at which input.
  Laid BY PROGRAM, IN A SANDBOX (cutbox-rows.mjs): the forced cells as the released guide's own fill.sh prints them over the translation e4c51be788e55d7f… (all of the seat's roots in one cut). By AI agents, Wed Nov 11 2026. No macro, syntax, notation, axiom, sorry.
-/
import Derived.Test.YtchkgfmmfdineaaGreatChecked
import GoSem.Claim
import GoSem.ClaimJoined
import GoSem.ClaimMapViews
import Derived.JoinedTies
import Derived.KernelRfl
namespace Go.Proofs.YtchkgfmmfdineaaGreat
/- THE CELL 'sum', in the pinned program and in every row, IS THE sha256 OF THE DUMP (.gsa) THAT YtchkgfmmfdineaaGreatProg.lean LOADS. Nothing in Lean hashes anything: it is a label: what it is worth is what the hold of that sum in a sandbox is worth. -/
noncomputable def Tryz.pinned : Pinned := { name := "ytchkgfmmfdineaagreat", sum := "e4c51be788e55d7f0fac2684eebddddd3e9307c52326491ad0e7f90caaa9dfe5", checked := Tryz.checked }
namespace Rows
def none {H : Type} : Left H := { results := [], args := [] }

/-- 'witanlaw18.PassesBare': WHATEVER THE INPUT: true; the input reads as it did. -/
def passesBareSpec : ChangeSpec := { name := "passesBare", fn := fun _ => fun
  | [d1, d2, d3, d4] => { results := [.lit (.bool true)], args := [d1, d2, d3, d4] }
  | _ => none }
def passesBareRow : OpenClaim := { program := "ytchkgfmmfdineaagreat", sum := "e4c51be788e55d7f0fac2684eebddddd3e9307c52326491ad0e7f90caaa9dfe5", func := "witan/witanlaw18.PassesBare", spec := "passesBare", inPlace := ["internal/bytealg.IndexByteString", "internal/bytealg.IndexString"], unfollowed := true, recurses := true, named := ["internal/bytealg.MaxLen", "math/bits.divideError", "math/bits.overflowError"], apart := false }
def PassesBareSaid : Prop := passesBareRow.holds Tryz.pinned (OpenSpec.ofChange passesBareSpec)

/-- ITS FALSE NEIGHBOUR: 'it returns false'. Refute it at one input. -/
def passesBareWrong : ChangeSpec := { name := "passesBare", fn := fun _ => fun
  | [d1, d2, d3, d4] => { results := [.lit (.bool false)], args := [d1, d2, d3, d4] }
  | _ => none }
def PassesBareWrongFalsely : Prop := passesBareRow.holds Tryz.pinned (OpenSpec.ofChange passesBareWrong)

/-- 'witanlaw18.PassesAlike': WHATEVER THE INPUT: true; the input reads as it did. -/
def passesAlikeSpec : ChangeSpec := { name := "passesAlike", fn := fun _ => fun
  | [d1, d2, d3, d4, d5] => { results := [.lit (.bool true)], args := [d1, d2, d3, d4, d5] }
  | _ => none }
def passesAlikeRow : OpenClaim := { program := "ytchkgfmmfdineaagreat", sum := "e4c51be788e55d7f0fac2684eebddddd3e9307c52326491ad0e7f90caaa9dfe5", func := "witan/witanlaw18.PassesAlike", spec := "passesAlike", inPlace := ["internal/bytealg.IndexByteString", "internal/bytealg.IndexString"], unfollowed := true, recurses := true, named := ["internal/bytealg.MaxLen", "math/bits.divideError", "math/bits.overflowError"], apart := false }
def PassesAlikeSaid : Prop := passesAlikeRow.holds Tryz.pinned (OpenSpec.ofChange passesAlikeSpec)

/-- ITS FALSE NEIGHBOUR: 'it returns false'. Refute it at one input. -/
def passesAlikeWrong : ChangeSpec := { name := "passesAlike", fn := fun _ => fun
  | [d1, d2, d3, d4, d5] => { results := [.lit (.bool false)], args := [d1, d2, d3, d4, d5] }
  | _ => none }
def PassesAlikeWrongFalsely : Prop := passesAlikeRow.holds Tryz.pinned (OpenSpec.ofChange passesAlikeWrong)

/- THE SECOND FORM. 'bulk': how many values and letters a reading holds, each counted each time it is reached (what is shared counts as often as it is met; a slice's spare places count too). A statement '..UptoSaid' is the law's where the arguments, and the package variables that the reading takes, are together of bulk at most 1048576: NARROWER than '..Said'. Prove '..Said' where nothing that the law and all that it calls make is longer than what came in: it says more and counts as full. Else prove '..UptoSaid'. A law counts once. -/
mutual
def uptoBulk {H : Type} : DataW H → Nat
  | .lit (.string bytes) => bytes.length + 1
  | .lit _ => 1
  | .nil => 1
  | .ptr d => uptoBulk d + 1
  | .slice elems spare => uptoBulkAll elems + uptoBulkAll spare + 1
  | .agg parts => uptoBulkAll parts + 1
  | .iface _ d => uptoBulk d + 1
  | .map entries => uptoBulkEntries entries + 1
  | .held _ => 1
def uptoBulkAll {H : Type} : List (DataW H) → Nat
  | [] => 0
  | d :: r => uptoBulk d + uptoBulkAll r
def uptoBulkEntries {H : Type} : List (Lit × DataW H) → Nat
  | [] => 0
  | x :: r => uptoBulkEntry x + uptoBulkEntries r
def uptoBulkEntry {H : Type} : Lit × DataW H → Nat
  | (.string bytes, d) => bytes.length + uptoBulk d + 1
  | (_, d) => uptoBulk d + 1
 end
def uptoSmall : (H : Type) → List (DataW H) → Bool := fun _ ds => decide (uptoBulkAll ds ≤ 1048576)
def OpenSpec.upto (s : _root_.Go.ChangeSpec) : _root_.Go.OpenSpec := { _root_.Go.OpenSpec.ofChange s with cond := some uptoSmall }

/-- 'witanlaw18.PassesBare', WHERE WHAT IT READS IS OF BULK AT MOST 1048576: true; the input reads as it did. -/
def passesBareUptoRow : OpenClaim := { program := "ytchkgfmmfdineaagreat", sum := "e4c51be788e55d7f0fac2684eebddddd3e9307c52326491ad0e7f90caaa9dfe5", func := "witan/witanlaw18.PassesBare", spec := "passesBare", inPlace := ["internal/bytealg.IndexByteString", "internal/bytealg.IndexString"], unfollowed := true, recurses := true, named := ["internal/bytealg.MaxLen", "math/bits.divideError", "math/bits.overflowError"], apart := false, narrowed := true }
def PassesBareUptoSaid : Prop := passesBareUptoRow.holds Tryz.pinned (OpenSpec.upto passesBareSpec)

/-- 'witanlaw18.PassesAlike', WHERE WHAT IT READS IS OF BULK AT MOST 1048576: true; the input reads as it did. -/
def passesAlikeUptoRow : OpenClaim := { program := "ytchkgfmmfdineaagreat", sum := "e4c51be788e55d7f0fac2684eebddddd3e9307c52326491ad0e7f90caaa9dfe5", func := "witan/witanlaw18.PassesAlike", spec := "passesAlike", inPlace := ["internal/bytealg.IndexByteString", "internal/bytealg.IndexString"], unfollowed := true, recurses := true, named := ["internal/bytealg.MaxLen", "math/bits.divideError", "math/bits.overflowError"], apart := false, narrowed := true }
def PassesAlikeUptoSaid : Prop := passesAlikeUptoRow.holds Tryz.pinned (OpenSpec.upto passesAlikeSpec)

end Rows
end Go.Proofs.YtchkgfmmfdineaaGreat
