/-
  No cell of these rows narrows 'for every input' (looked for: loops, veiled, ifaces, maps, wideKeys, modest, calm, conditions, laid).
  DERIVED. THE GIVEN ROWS OF THIS SEAT. 2 by the template 'for every input the law returns true; each argument reads behind the call as it read before'; 0 by the template 'total and deterministic' (their statements: YtkpkkhepecgeiaaGreatTotals.lean).
  GIVEN WITH THE SEED: the statements are not yours to turn. If you find one false, say at which input.
  Laid BY PROGRAM, IN A SANDBOX (cutbox-rows.mjs): the forced cells as the released guide's own fill.sh prints them over the translation c4f6f30290bc9a83… (all of the seat's roots in one cut). By AI agents, Wed Nov 11 2026. No macro, syntax, notation, axiom, sorry.
-/
import Derived.Test.YtkpkkhepecgeiaaGreatChecked
import GoSem.Claim
import GoSem.ClaimJoined
import GoSem.ClaimMapViews
import Derived.JoinedTies
import Derived.KernelRfl
namespace Go.Proofs.YtkpkkhepecgeiaaGreat
/- THE CELL 'sum', in the pinned program and in every row, IS THE sha256 OF THE DUMP (.gsa) THAT YtkpkkhepecgeiaaGreatProg.lean LOADS. Nothing in Lean hashes anything: it is a label: what it is worth is what the hold of that sum in a sandbox is worth. -/
noncomputable def Tryz.pinned : Pinned := { name := "ytkpkkhepecgeiaagreat", sum := "c4f6f30290bc9a830b54f5e75d8086f7f0aec9e2e89d0c22a48cb33bd40bf95a", checked := Tryz.checked }
namespace Rows
def none {H : Type} : Left H := { results := [], args := [] }

/-- 'floodmarklaw12.ProductMakes': WHATEVER THE INPUT: true; the input reads as it did. -/
def productMakesSpec : ChangeSpec := { name := "productMakes", fn := fun _ => fun
  | [d1, d2, d3] => { results := [.lit (.bool true)], args := [d1, d2, d3] }
  | _ => none }
def productMakesRow : OpenClaim := { program := "ytkpkkhepecgeiaagreat", sum := "c4f6f30290bc9a830b54f5e75d8086f7f0aec9e2e89d0c22a48cb33bd40bf95a", func := "floodmark/floodmarklaw12.ProductMakes", spec := "productMakes", unfollowed := true, recurses := true, named := ["math/bits.overflowError"], apart := false }
def ProductMakesSaid : Prop := productMakesRow.holds Tryz.pinned (OpenSpec.ofChange productMakesSpec)

/-- ITS FALSE NEIGHBOUR: 'it returns false'. Refute it at one input. -/
def productMakesWrong : ChangeSpec := { name := "productMakes", fn := fun _ => fun
  | [d1, d2, d3] => { results := [.lit (.bool false)], args := [d1, d2, d3] }
  | _ => none }
def ProductMakesWrongFalsely : Prop := productMakesRow.holds Tryz.pinned (OpenSpec.ofChange productMakesWrong)

/-- 'floodmarklaw12.ProductStates': WHATEVER THE INPUT: true; the input reads as it did. -/
def productStatesSpec : ChangeSpec := { name := "productStates", fn := fun _ => fun
  | [d1, d2, d3, d4, d5] => { results := [.lit (.bool true)], args := [d1, d2, d3, d4, d5] }
  | _ => none }
def productStatesRow : OpenClaim := { program := "ytkpkkhepecgeiaagreat", sum := "c4f6f30290bc9a830b54f5e75d8086f7f0aec9e2e89d0c22a48cb33bd40bf95a", func := "floodmark/floodmarklaw12.ProductStates", spec := "productStates", unfollowed := true, recurses := true, named := ["math/bits.overflowError"], apart := false }
def ProductStatesSaid : Prop := productStatesRow.holds Tryz.pinned (OpenSpec.ofChange productStatesSpec)

/-- ITS FALSE NEIGHBOUR: 'it returns false'. Refute it at one input. -/
def productStatesWrong : ChangeSpec := { name := "productStates", fn := fun _ => fun
  | [d1, d2, d3, d4, d5] => { results := [.lit (.bool false)], args := [d1, d2, d3, d4, d5] }
  | _ => none }
def ProductStatesWrongFalsely : Prop := productStatesRow.holds Tryz.pinned (OpenSpec.ofChange productStatesWrong)

/- THE SECOND FORM. 'bulk': how many values and letters a reading holds, each counted each time it is reached (what is shared counts as often as it is met; a slice's spare places count too). A statement '..UptoSaid' is the law's where the arguments, and the package variables that the reading takes, are together of bulk at most 1048576: NARROWER than '..Said'. Prove '..Said' where nothing that the law and all that it calls make is longer than what came in: it says more and counts as full. Else prove '..UptoSaid'. A law counts once. -/
mutual
def uptoBulk {H : Type} : DataW H → Nat
  | .lit (.string bytes) => bytes.length + 1
  | .lit _ => 1
  | .nil => 1
  | .ptr d => uptoBulk d + 1
  | .slice elems spare => uptoBulkAll elems + uptoBulkAll spare + 1
  | .agg parts => uptoBulkAll parts + 1
  | .iface _ d => uptoBulk d + 1
  | .map entries => uptoBulkEntries entries + 1
  | .held _ => 1
def uptoBulkAll {H : Type} : List (DataW H) → Nat
  | [] => 0
  | d :: r => uptoBulk d + uptoBulkAll r
def uptoBulkEntries {H : Type} : List (Lit × DataW H) → Nat
  | [] => 0
  | x :: r => uptoBulkEntry x + uptoBulkEntries r
def uptoBulkEntry {H : Type} : Lit × DataW H → Nat
  | (.string bytes, d) => bytes.length + uptoBulk d + 1
  | (_, d) => uptoBulk d + 1
 end
def uptoSmall : (H : Type) → List (DataW H) → Bool := fun _ ds => decide (uptoBulkAll ds ≤ 1048576)
def OpenSpec.upto (s : _root_.Go.ChangeSpec) : _root_.Go.OpenSpec := { _root_.Go.OpenSpec.ofChange s with cond := some uptoSmall }

/-- 'floodmarklaw12.ProductMakes', WHERE WHAT IT READS IS OF BULK AT MOST 1048576: true; the input reads as it did. -/
def productMakesUptoRow : OpenClaim := { program := "ytkpkkhepecgeiaagreat", sum := "c4f6f30290bc9a830b54f5e75d8086f7f0aec9e2e89d0c22a48cb33bd40bf95a", func := "floodmark/floodmarklaw12.ProductMakes", spec := "productMakes", unfollowed := true, recurses := true, named := ["math/bits.overflowError"], apart := false, narrowed := true }
def ProductMakesUptoSaid : Prop := productMakesUptoRow.holds Tryz.pinned (OpenSpec.upto productMakesSpec)

/-- 'floodmarklaw12.ProductStates', WHERE WHAT IT READS IS OF BULK AT MOST 1048576: true; the input reads as it did. -/
def productStatesUptoRow : OpenClaim := { program := "ytkpkkhepecgeiaagreat", sum := "c4f6f30290bc9a830b54f5e75d8086f7f0aec9e2e89d0c22a48cb33bd40bf95a", func := "floodmark/floodmarklaw12.ProductStates", spec := "productStates", unfollowed := true, recurses := true, named := ["math/bits.overflowError"], apart := false, narrowed := true }
def ProductStatesUptoSaid : Prop := productStatesUptoRow.holds Tryz.pinned (OpenSpec.upto productStatesSpec)

end Rows
end Go.Proofs.YtkpkkhepecgeiaaGreat
