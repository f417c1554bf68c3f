/-
  No cell of these rows narrows 'for every input' (looked for: loops, veiled, ifaces, maps, wideKeys, modest, calm, conditions, laid).
  DERIVED. THE GIVEN ROWS OF THIS SEAT. 5 by the template 'for every input the law returns true; each argument reads behind the call as it read before'; 0 by the template 'total and deterministic' (their statements: YtnacmjacppihcaaGreatTotals.lean).
  GIVEN WITH THE SEED: the statements are not yours to turn. If you find one false, say at which input.
  Laid BY PROGRAM, IN A SANDBOX (cutbox-rows.mjs): the forced cells as the released guide's own fill.sh prints them over the translation 8d0ad54f477ff2c0… (all of the seat's roots in one cut). By AI agents, Wed Nov 11 2026. No macro, syntax, notation, axiom, sorry.
-/
import Derived.Test.YtnacmjacppihcaaGreatChecked
import GoSem.Claim
import GoSem.ClaimJoined
import GoSem.ClaimMapViews
import Derived.JoinedTies
import Derived.KernelRfl
namespace Go.Proofs.YtnacmjacppihcaaGreat
/- THE CELL 'sum', in the pinned program and in every row, IS THE sha256 OF THE DUMP (.gsa) THAT YtnacmjacppihcaaGreatProg.lean LOADS. Nothing in Lean hashes anything: it is a label: what it is worth is what the hold of that sum in a sandbox is worth. -/
noncomputable def Tryz.pinned : Pinned := { name := "ytnacmjacppihcaagreat", sum := "8d0ad54f477ff2c00e265cbe755e064cf684ac6dab0c2692ed8fafea0a571435", checked := Tryz.checked }
namespace Rows
def none {H : Type} : Left H := { results := [], args := [] }

/-- 'parapetlaw13.SpaceStale': WHATEVER THE INPUT: true; the input reads as it did. -/
def spaceStaleSpec : ChangeSpec := { name := "spaceStale", fn := fun _ => fun
  | [d1, d2, d3] => { results := [.lit (.bool true)], args := [d1, d2, d3] }
  | _ => none }
def spaceStaleRow : OpenClaim := { program := "ytnacmjacppihcaagreat", sum := "8d0ad54f477ff2c00e265cbe755e064cf684ac6dab0c2692ed8fafea0a571435", func := "parapet/parapetlaw13.SpaceStale", spec := "spaceStale", unfollowed := true, recurses := true, plainKeys := false, apart := false }
def SpaceStaleSaid : Prop := spaceStaleRow.holds Tryz.pinned (OpenSpec.ofChange spaceStaleSpec)

/-- ITS FALSE NEIGHBOUR: 'it returns false'. Refute it at one input. -/
def spaceStaleWrong : ChangeSpec := { name := "spaceStale", fn := fun _ => fun
  | [d1, d2, d3] => { results := [.lit (.bool false)], args := [d1, d2, d3] }
  | _ => none }
def SpaceStaleWrongFalsely : Prop := spaceStaleRow.holds Tryz.pinned (OpenSpec.ofChange spaceStaleWrong)

/-- 'parapetlaw13.SpaceNobody': WHATEVER THE INPUT: true; the input reads as it did. -/
def spaceNobodySpec : ChangeSpec := { name := "spaceNobody", fn := fun _ => fun
  | [d1, d2] => { results := [.lit (.bool true)], args := [d1, d2] }
  | _ => none }
def spaceNobodyRow : OpenClaim := { program := "ytnacmjacppihcaagreat", sum := "8d0ad54f477ff2c00e265cbe755e064cf684ac6dab0c2692ed8fafea0a571435", func := "parapet/parapetlaw13.SpaceNobody", spec := "spaceNobody", unfollowed := true, recurses := true, plainKeys := false, apart := false }
def SpaceNobodySaid : Prop := spaceNobodyRow.holds Tryz.pinned (OpenSpec.ofChange spaceNobodySpec)

/-- ITS FALSE NEIGHBOUR: 'it returns false'. Refute it at one input. -/
def spaceNobodyWrong : ChangeSpec := { name := "spaceNobody", fn := fun _ => fun
  | [d1, d2] => { results := [.lit (.bool false)], args := [d1, d2] }
  | _ => none }
def SpaceNobodyWrongFalsely : Prop := spaceNobodyRow.holds Tryz.pinned (OpenSpec.ofChange spaceNobodyWrong)

/-- 'parapetlaw13.SpacePlays': WHATEVER THE INPUT: true; the input reads as it did. -/
def spacePlaysSpec : ChangeSpec := { name := "spacePlays", fn := fun _ => fun
  | [d1, d2] => { results := [.lit (.bool true)], args := [d1, d2] }
  | _ => none }
def spacePlaysRow : OpenClaim := { program := "ytnacmjacppihcaagreat", sum := "8d0ad54f477ff2c00e265cbe755e064cf684ac6dab0c2692ed8fafea0a571435", func := "parapet/parapetlaw13.SpacePlays", spec := "spacePlays", unfollowed := true, recurses := true, plainKeys := false, apart := false }
def SpacePlaysSaid : Prop := spacePlaysRow.holds Tryz.pinned (OpenSpec.ofChange spacePlaysSpec)

/-- ITS FALSE NEIGHBOUR: 'it returns false'. Refute it at one input. -/
def spacePlaysWrong : ChangeSpec := { name := "spacePlays", fn := fun _ => fun
  | [d1, d2] => { results := [.lit (.bool false)], args := [d1, d2] }
  | _ => none }
def SpacePlaysWrongFalsely : Prop := spacePlaysRow.holds Tryz.pinned (OpenSpec.ofChange spacePlaysWrong)

/-- 'parapetlaw13.SpaceApart': WHATEVER THE INPUT: true; the input reads as it did. -/
def spaceApartSpec : ChangeSpec := { name := "spaceApart", fn := fun _ => fun
  | [d1, d2, d3] => { results := [.lit (.bool true)], args := [d1, d2, d3] }
  | _ => none }
def spaceApartRow : OpenClaim := { program := "ytnacmjacppihcaagreat", sum := "8d0ad54f477ff2c00e265cbe755e064cf684ac6dab0c2692ed8fafea0a571435", func := "parapet/parapetlaw13.SpaceApart", spec := "spaceApart", unfollowed := true, recurses := true, plainKeys := false, apart := false }
def SpaceApartSaid : Prop := spaceApartRow.holds Tryz.pinned (OpenSpec.ofChange spaceApartSpec)

/-- ITS FALSE NEIGHBOUR: 'it returns false'. Refute it at one input. -/
def spaceApartWrong : ChangeSpec := { name := "spaceApart", fn := fun _ => fun
  | [d1, d2, d3] => { results := [.lit (.bool false)], args := [d1, d2, d3] }
  | _ => none }
def SpaceApartWrongFalsely : Prop := spaceApartRow.holds Tryz.pinned (OpenSpec.ofChange spaceApartWrong)

/-- 'parapetlaw13.SpaceFrees': WHATEVER THE INPUT: true; the input reads as it did. -/
def spaceFreesSpec : ChangeSpec := { name := "spaceFrees", fn := fun _ => fun
  | [d] => { results := [.lit (.bool true)], args := [d] }
  | _ => none }
def spaceFreesRow : OpenClaim := { program := "ytnacmjacppihcaagreat", sum := "8d0ad54f477ff2c00e265cbe755e064cf684ac6dab0c2692ed8fafea0a571435", func := "parapet/parapetlaw13.SpaceFrees", spec := "spaceFrees", unfollowed := true, recurses := true, plainKeys := false, apart := false }
def SpaceFreesSaid : Prop := spaceFreesRow.holds Tryz.pinned (OpenSpec.ofChange spaceFreesSpec)

/-- ITS FALSE NEIGHBOUR: 'it returns false'. Refute it at one input. -/
def spaceFreesWrong : ChangeSpec := { name := "spaceFrees", fn := fun _ => fun
  | [d] => { results := [.lit (.bool false)], args := [d] }
  | _ => none }
def SpaceFreesWrongFalsely : Prop := spaceFreesRow.holds Tryz.pinned (OpenSpec.ofChange spaceFreesWrong)

/- THE SECOND FORM. 'bulk': how many values and letters a reading holds, each counted each time it is reached (what is shared counts as often as it is met; a slice's spare places count too). A statement '..UptoSaid' is the law's where the arguments, and the package variables that the reading takes, are together of bulk at most 1048576: NARROWER than '..Said'. Prove '..Said' where nothing that the law and all that it calls make is longer than what came in: it says more and counts as full. Else prove '..UptoSaid'. A law counts once. -/
mutual
def uptoBulk {H : Type} : DataW H → Nat
  | .lit (.string bytes) => bytes.length + 1
  | .lit _ => 1
  | .nil => 1
  | .ptr d => uptoBulk d + 1
  | .slice elems spare => uptoBulkAll elems + uptoBulkAll spare + 1
  | .agg parts => uptoBulkAll parts + 1
  | .iface _ d => uptoBulk d + 1
  | .map entries => uptoBulkEntries entries + 1
  | .held _ => 1
def uptoBulkAll {H : Type} : List (DataW H) → Nat
  | [] => 0
  | d :: r => uptoBulk d + uptoBulkAll r
def uptoBulkEntries {H : Type} : List (Lit × DataW H) → Nat
  | [] => 0
  | x :: r => uptoBulkEntry x + uptoBulkEntries r
def uptoBulkEntry {H : Type} : Lit × DataW H → Nat
  | (.string bytes, d) => bytes.length + uptoBulk d + 1
  | (_, d) => uptoBulk d + 1
 end
def uptoSmall : (H : Type) → List (DataW H) → Bool := fun _ ds => decide (uptoBulkAll ds ≤ 1048576)
def OpenSpec.upto (s : _root_.Go.ChangeSpec) : _root_.Go.OpenSpec := { _root_.Go.OpenSpec.ofChange s with cond := some uptoSmall }

/-- 'parapetlaw13.SpaceStale', WHERE WHAT IT READS IS OF BULK AT MOST 1048576: true; the input reads as it did. -/
def spaceStaleUptoRow : OpenClaim := { program := "ytnacmjacppihcaagreat", sum := "8d0ad54f477ff2c00e265cbe755e064cf684ac6dab0c2692ed8fafea0a571435", func := "parapet/parapetlaw13.SpaceStale", spec := "spaceStale", unfollowed := true, recurses := true, plainKeys := false, apart := false, narrowed := true }
def SpaceStaleUptoSaid : Prop := spaceStaleUptoRow.holds Tryz.pinned (OpenSpec.upto spaceStaleSpec)

/-- 'parapetlaw13.SpaceNobody', WHERE WHAT IT READS IS OF BULK AT MOST 1048576: true; the input reads as it did. -/
def spaceNobodyUptoRow : OpenClaim := { program := "ytnacmjacppihcaagreat", sum := "8d0ad54f477ff2c00e265cbe755e064cf684ac6dab0c2692ed8fafea0a571435", func := "parapet/parapetlaw13.SpaceNobody", spec := "spaceNobody", unfollowed := true, recurses := true, plainKeys := false, apart := false, narrowed := true }
def SpaceNobodyUptoSaid : Prop := spaceNobodyUptoRow.holds Tryz.pinned (OpenSpec.upto spaceNobodySpec)

/-- 'parapetlaw13.SpacePlays', WHERE WHAT IT READS IS OF BULK AT MOST 1048576: true; the input reads as it did. -/
def spacePlaysUptoRow : OpenClaim := { program := "ytnacmjacppihcaagreat", sum := "8d0ad54f477ff2c00e265cbe755e064cf684ac6dab0c2692ed8fafea0a571435", func := "parapet/parapetlaw13.SpacePlays", spec := "spacePlays", unfollowed := true, recurses := true, plainKeys := false, apart := false, narrowed := true }
def SpacePlaysUptoSaid : Prop := spacePlaysUptoRow.holds Tryz.pinned (OpenSpec.upto spacePlaysSpec)

/-- 'parapetlaw13.SpaceApart', WHERE WHAT IT READS IS OF BULK AT MOST 1048576: true; the input reads as it did. -/
def spaceApartUptoRow : OpenClaim := { program := "ytnacmjacppihcaagreat", sum := "8d0ad54f477ff2c00e265cbe755e064cf684ac6dab0c2692ed8fafea0a571435", func := "parapet/parapetlaw13.SpaceApart", spec := "spaceApart", unfollowed := true, recurses := true, plainKeys := false, apart := false, narrowed := true }
def SpaceApartUptoSaid : Prop := spaceApartUptoRow.holds Tryz.pinned (OpenSpec.upto spaceApartSpec)

/-- 'parapetlaw13.SpaceFrees', WHERE WHAT IT READS IS OF BULK AT MOST 1048576: true; the input reads as it did. -/
def spaceFreesUptoRow : OpenClaim := { program := "ytnacmjacppihcaagreat", sum := "8d0ad54f477ff2c00e265cbe755e064cf684ac6dab0c2692ed8fafea0a571435", func := "parapet/parapetlaw13.SpaceFrees", spec := "spaceFrees", unfollowed := true, recurses := true, plainKeys := false, apart := false, narrowed := true }
def SpaceFreesUptoSaid : Prop := spaceFreesUptoRow.holds Tryz.pinned (OpenSpec.upto spaceFreesSpec)

end Rows
end Go.Proofs.YtnacmjacppihcaaGreat
