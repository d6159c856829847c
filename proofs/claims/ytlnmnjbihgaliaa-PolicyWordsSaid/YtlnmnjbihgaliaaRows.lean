/-
  No cell of these rows narrows 'for every input' (looked for: loops, veiled, ifaces, maps, wideKeys, modest, calm, conditions, laid).
  DERIVED. THE GIVEN ROWS OF THIS SEAT. 5 by the template 'for every input the law returns true; each argument reads behind the call as it read before'; 0 by the template 'total and deterministic' (their statements: YtlnmnjbihgaliaaTotals.lean).
  GIVEN WITH THE SEED: the statements are not yours to turn. If you find one false, say at which input.
  Laid BY PROGRAM, IN A SANDBOX (cutbox-rows.mjs): the forced cells as the released guide's own fill.sh prints them over the translation d2a2fc4e7e8ba9fb… (all of the seat's roots in one cut). By AI agents, Wed Nov 11 2026. No macro, syntax, notation, axiom, sorry.
-/
import Derived.Test.YtlnmnjbihgaliaaChecked
import GoSem.Claim
import GoSem.ClaimJoined
import GoSem.ClaimMapViews
import Derived.JoinedTies
import Derived.KernelRfl
namespace Go.Proofs.Ytlnmnjbihgaliaa
/- THE CELL 'sum', in the pinned program and in every row, IS THE sha256 OF THE DUMP (.gsa) THAT YtlnmnjbihgaliaaProg.lean LOADS. Nothing in Lean hashes anything: it is a label: what it is worth is what the hold of that sum in a sandbox is worth. -/
noncomputable def Try.pinned : Pinned := { name := "ytlnmnjbihgaliaa", sum := "d2a2fc4e7e8ba9fb02de8907f724be55a932a1a15e2656d1b9da7224a220efb0", checked := Try.checked }
namespace Rows
def none {H : Type} : Left H := { results := [], args := [] }

/-- 'ambrylaw17.PolicyKeys': WHATEVER THE INPUT: true; the input reads as it did. -/
def policyKeysSpec : ChangeSpec := { name := "policyKeys", fn := fun _ => fun
  | [d1, d2] => { results := [.lit (.bool true)], args := [d1, d2] }
  | _ => none }
def policyKeysRow : OpenClaim := { program := "ytlnmnjbihgaliaa", sum := "d2a2fc4e7e8ba9fb02de8907f724be55a932a1a15e2656d1b9da7224a220efb0", func := "ambry/ambrylaw17.PolicyKeys", spec := "policyKeys", inPlace := ["internal/bytealg.IndexByteString", "internal/bytealg.IndexString", "internal/abi.NoEscape", "internal/bytealg.abigen_runtime_cmpstring"], unfollowed := true, recurses := true, named := ["internal/bytealg.MaxLen"], apart := false }
def PolicyKeysSaid : Prop := policyKeysRow.holds Try.pinned (OpenSpec.ofChange policyKeysSpec)

/-- ITS FALSE NEIGHBOUR: 'it returns false'. Refute it at one input. -/
def policyKeysWrong : ChangeSpec := { name := "policyKeys", fn := fun _ => fun
  | [d1, d2] => { results := [.lit (.bool false)], args := [d1, d2] }
  | _ => none }
def PolicyKeysWrongFalsely : Prop := policyKeysRow.holds Try.pinned (OpenSpec.ofChange policyKeysWrong)

/-- 'ambrylaw17.PolicyGreat': WHATEVER THE INPUT: true; the input reads as it did. -/
def policyGreatSpec : ChangeSpec := { name := "policyGreat", fn := fun _ => fun
  | [d] => { results := [.lit (.bool true)], args := [d] }
  | _ => none }
def policyGreatRow : OpenClaim := { program := "ytlnmnjbihgaliaa", sum := "d2a2fc4e7e8ba9fb02de8907f724be55a932a1a15e2656d1b9da7224a220efb0", func := "ambry/ambrylaw17.PolicyGreat", spec := "policyGreat", inPlace := ["internal/bytealg.IndexByteString", "internal/bytealg.IndexString", "internal/abi.NoEscape", "internal/bytealg.abigen_runtime_cmpstring"], unfollowed := true, recurses := true, named := ["internal/bytealg.MaxLen"], apart := false }
def PolicyGreatSaid : Prop := policyGreatRow.holds Try.pinned (OpenSpec.ofChange policyGreatSpec)

/-- ITS FALSE NEIGHBOUR: 'it returns false'. Refute it at one input. -/
def policyGreatWrong : ChangeSpec := { name := "policyGreat", fn := fun _ => fun
  | [d] => { results := [.lit (.bool false)], args := [d] }
  | _ => none }
def PolicyGreatWrongFalsely : Prop := policyGreatRow.holds Try.pinned (OpenSpec.ofChange policyGreatWrong)

/-- 'ambrylaw17.PolicyStatus': WHATEVER THE INPUT: true; the input reads as it did. -/
def policyStatusSpec : ChangeSpec := { name := "policyStatus", fn := fun _ => fun
  | [d1, d2] => { results := [.lit (.bool true)], args := [d1, d2] }
  | _ => none }
def policyStatusRow : OpenClaim := { program := "ytlnmnjbihgaliaa", sum := "d2a2fc4e7e8ba9fb02de8907f724be55a932a1a15e2656d1b9da7224a220efb0", func := "ambry/ambrylaw17.PolicyStatus", spec := "policyStatus", inPlace := ["internal/bytealg.IndexByteString", "internal/bytealg.IndexString", "internal/abi.NoEscape", "internal/bytealg.abigen_runtime_cmpstring"], unfollowed := true, recurses := true, named := ["internal/bytealg.MaxLen"], apart := false }
def PolicyStatusSaid : Prop := policyStatusRow.holds Try.pinned (OpenSpec.ofChange policyStatusSpec)

/-- ITS FALSE NEIGHBOUR: 'it returns false'. Refute it at one input. -/
def policyStatusWrong : ChangeSpec := { name := "policyStatus", fn := fun _ => fun
  | [d1, d2] => { results := [.lit (.bool false)], args := [d1, d2] }
  | _ => none }
def PolicyStatusWrongFalsely : Prop := policyStatusRow.holds Try.pinned (OpenSpec.ofChange policyStatusWrong)

/-- 'ambrylaw17.PolicyAuth': WHATEVER THE INPUT: true; the input reads as it did. -/
def policyAuthSpec : ChangeSpec := { name := "policyAuth", fn := fun _ => fun
  | [d1, d2] => { results := [.lit (.bool true)], args := [d1, d2] }
  | _ => none }
def policyAuthRow : OpenClaim := { program := "ytlnmnjbihgaliaa", sum := "d2a2fc4e7e8ba9fb02de8907f724be55a932a1a15e2656d1b9da7224a220efb0", func := "ambry/ambrylaw17.PolicyAuth", spec := "policyAuth", inPlace := ["internal/bytealg.IndexByteString", "internal/bytealg.IndexString", "internal/abi.NoEscape", "internal/bytealg.abigen_runtime_cmpstring"], unfollowed := true, recurses := true, named := ["internal/bytealg.MaxLen"], apart := false }
def PolicyAuthSaid : Prop := policyAuthRow.holds Try.pinned (OpenSpec.ofChange policyAuthSpec)

/-- ITS FALSE NEIGHBOUR: 'it returns false'. Refute it at one input. -/
def policyAuthWrong : ChangeSpec := { name := "policyAuth", fn := fun _ => fun
  | [d1, d2] => { results := [.lit (.bool false)], args := [d1, d2] }
  | _ => none }
def PolicyAuthWrongFalsely : Prop := policyAuthRow.holds Try.pinned (OpenSpec.ofChange policyAuthWrong)

/-- 'ambrylaw17.PolicyWords': WHATEVER THE INPUT: true; the input reads as it did. -/
def policyWordsSpec : ChangeSpec := { name := "policyWords", fn := fun _ => fun
  | [d1, d2, d3] => { results := [.lit (.bool true)], args := [d1, d2, d3] }
  | _ => none }
def policyWordsRow : OpenClaim := { program := "ytlnmnjbihgaliaa", sum := "d2a2fc4e7e8ba9fb02de8907f724be55a932a1a15e2656d1b9da7224a220efb0", func := "ambry/ambrylaw17.PolicyWords", spec := "policyWords", inPlace := ["internal/bytealg.IndexByteString", "internal/bytealg.IndexString", "internal/abi.NoEscape", "internal/bytealg.abigen_runtime_cmpstring"], unfollowed := true, recurses := true, named := ["internal/bytealg.MaxLen"], apart := false }
def PolicyWordsSaid : Prop := policyWordsRow.holds Try.pinned (OpenSpec.ofChange policyWordsSpec)

/-- ITS FALSE NEIGHBOUR: 'it returns false'. Refute it at one input. -/
def policyWordsWrong : ChangeSpec := { name := "policyWords", fn := fun _ => fun
  | [d1, d2, d3] => { results := [.lit (.bool false)], args := [d1, d2, d3] }
  | _ => none }
def PolicyWordsWrongFalsely : Prop := policyWordsRow.holds Try.pinned (OpenSpec.ofChange policyWordsWrong)

/- THE SECOND FORM. 'bulk': how many values and letters a reading holds, each counted each time it is reached (what is shared counts as often as it is met; a slice's spare places count too). A statement '..UptoSaid' is the law's where the arguments, and the package variables that the reading takes, are together of bulk at most 1048576: NARROWER than '..Said'. Prove '..Said' where nothing that the law and all that it calls make is longer than what came in: it says more and counts as full. Else prove '..UptoSaid'. A law counts once. -/
mutual
def uptoBulk {H : Type} : DataW H → Nat
  | .lit (.string bytes) => bytes.length + 1
  | .lit _ => 1
  | .nil => 1
  | .ptr d => uptoBulk d + 1
  | .slice elems spare => uptoBulkAll elems + uptoBulkAll spare + 1
  | .agg parts => uptoBulkAll parts + 1
  | .iface _ d => uptoBulk d + 1
  | .map entries => uptoBulkEntries entries + 1
  | .held _ => 1
def uptoBulkAll {H : Type} : List (DataW H) → Nat
  | [] => 0
  | d :: r => uptoBulk d + uptoBulkAll r
def uptoBulkEntries {H : Type} : List (Lit × DataW H) → Nat
  | [] => 0
  | x :: r => uptoBulkEntry x + uptoBulkEntries r
def uptoBulkEntry {H : Type} : Lit × DataW H → Nat
  | (.string bytes, d) => bytes.length + uptoBulk d + 1
  | (_, d) => uptoBulk d + 1
 end
def uptoSmall : (H : Type) → List (DataW H) → Bool := fun _ ds => decide (uptoBulkAll ds ≤ 1048576)
def OpenSpec.upto (s : _root_.Go.ChangeSpec) : _root_.Go.OpenSpec := { _root_.Go.OpenSpec.ofChange s with cond := some uptoSmall }

/-- 'ambrylaw17.PolicyKeys', WHERE WHAT IT READS IS OF BULK AT MOST 1048576: true; the input reads as it did. -/
def policyKeysUptoRow : OpenClaim := { program := "ytlnmnjbihgaliaa", sum := "d2a2fc4e7e8ba9fb02de8907f724be55a932a1a15e2656d1b9da7224a220efb0", func := "ambry/ambrylaw17.PolicyKeys", spec := "policyKeys", inPlace := ["internal/bytealg.IndexByteString", "internal/bytealg.IndexString", "internal/abi.NoEscape", "internal/bytealg.abigen_runtime_cmpstring"], unfollowed := true, recurses := true, named := ["internal/bytealg.MaxLen"], apart := false, narrowed := true }
def PolicyKeysUptoSaid : Prop := policyKeysUptoRow.holds Try.pinned (OpenSpec.upto policyKeysSpec)

/-- 'ambrylaw17.PolicyGreat', WHERE WHAT IT READS IS OF BULK AT MOST 1048576: true; the input reads as it did. -/
def policyGreatUptoRow : OpenClaim := { program := "ytlnmnjbihgaliaa", sum := "d2a2fc4e7e8ba9fb02de8907f724be55a932a1a15e2656d1b9da7224a220efb0", func := "ambry/ambrylaw17.PolicyGreat", spec := "policyGreat", inPlace := ["internal/bytealg.IndexByteString", "internal/bytealg.IndexString", "internal/abi.NoEscape", "internal/bytealg.abigen_runtime_cmpstring"], unfollowed := true, recurses := true, named := ["internal/bytealg.MaxLen"], apart := false, narrowed := true }
def PolicyGreatUptoSaid : Prop := policyGreatUptoRow.holds Try.pinned (OpenSpec.upto policyGreatSpec)

/-- 'ambrylaw17.PolicyStatus', WHERE WHAT IT READS IS OF BULK AT MOST 1048576: true; the input reads as it did. -/
def policyStatusUptoRow : OpenClaim := { program := "ytlnmnjbihgaliaa", sum := "d2a2fc4e7e8ba9fb02de8907f724be55a932a1a15e2656d1b9da7224a220efb0", func := "ambry/ambrylaw17.PolicyStatus", spec := "policyStatus", inPlace := ["internal/bytealg.IndexByteString", "internal/bytealg.IndexString", "internal/abi.NoEscape", "internal/bytealg.abigen_runtime_cmpstring"], unfollowed := true, recurses := true, named := ["internal/bytealg.MaxLen"], apart := false, narrowed := true }
def PolicyStatusUptoSaid : Prop := policyStatusUptoRow.holds Try.pinned (OpenSpec.upto policyStatusSpec)

/-- 'ambrylaw17.PolicyAuth', WHERE WHAT IT READS IS OF BULK AT MOST 1048576: true; the input reads as it did. -/
def policyAuthUptoRow : OpenClaim := { program := "ytlnmnjbihgaliaa", sum := "d2a2fc4e7e8ba9fb02de8907f724be55a932a1a15e2656d1b9da7224a220efb0", func := "ambry/ambrylaw17.PolicyAuth", spec := "policyAuth", inPlace := ["internal/bytealg.IndexByteString", "internal/bytealg.IndexString", "internal/abi.NoEscape", "internal/bytealg.abigen_runtime_cmpstring"], unfollowed := true, recurses := true, named := ["internal/bytealg.MaxLen"], apart := false, narrowed := true }
def PolicyAuthUptoSaid : Prop := policyAuthUptoRow.holds Try.pinned (OpenSpec.upto policyAuthSpec)

/-- 'ambrylaw17.PolicyWords', WHERE WHAT IT READS IS OF BULK AT MOST 1048576: true; the input reads as it did. -/
def policyWordsUptoRow : OpenClaim := { program := "ytlnmnjbihgaliaa", sum := "d2a2fc4e7e8ba9fb02de8907f724be55a932a1a15e2656d1b9da7224a220efb0", func := "ambry/ambrylaw17.PolicyWords", spec := "policyWords", inPlace := ["internal/bytealg.IndexByteString", "internal/bytealg.IndexString", "internal/abi.NoEscape", "internal/bytealg.abigen_runtime_cmpstring"], unfollowed := true, recurses := true, named := ["internal/bytealg.MaxLen"], apart := false, narrowed := true }
def PolicyWordsUptoSaid : Prop := policyWordsUptoRow.holds Try.pinned (OpenSpec.upto policyWordsSpec)

end Rows
end Go.Proofs.Ytlnmnjbihgaliaa
