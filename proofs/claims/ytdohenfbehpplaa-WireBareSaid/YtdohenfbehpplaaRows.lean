/-
  No cell of these rows narrows 'for every input' (looked for: loops, veiled, ifaces, maps, wideKeys, modest, calm, conditions, laid).
  DERIVED. THE GIVEN ROWS OF THIS SEAT. 6 by the template 'for every input the law returns true; each argument reads behind the call as it read before'; 0 by the template 'total and deterministic' (their statements: YtdohenfbehpplaaTotals.lean).
  GIVEN WITH THE SEED: the statements are not yours to turn. If you find one false, say at which input.
  Laid BY PROGRAM, IN A SANDBOX (cutbox-rows.mjs): the forced cells as the released guide's own fill.sh prints them over the translation d9e63ed00485144c… (all of the seat's roots in one cut). By AI agents, Wed Nov 11 2026. No macro, syntax, notation, axiom, sorry.
-/
import Derived.Test.YtdohenfbehpplaaChecked
import GoSem.Claim
import GoSem.ClaimJoined
import GoSem.ClaimMapViews
import Derived.JoinedTies
import Derived.KernelRfl
namespace Go.Proofs.Ytdohenfbehpplaa
/- THE CELL 'sum', in the pinned program and in every row, IS THE sha256 OF THE DUMP (.gsa) THAT YtdohenfbehpplaaProg.lean LOADS. Nothing in Lean hashes anything: it is a label: what it is worth is what the hold of that sum in a sandbox is worth. -/
noncomputable def Try.pinned : Pinned := { name := "ytdohenfbehpplaa", sum := "d9e63ed00485144c5b8344a330823e0c9426afd5252c6cc3159c254d79787470", checked := Try.checked }
namespace Rows
def none {H : Type} : Left H := { results := [], args := [] }

/-- 'tollhouselaw06.WireDecodes': WHATEVER THE INPUT: true; the input reads as it did. -/
def wireDecodesSpec : ChangeSpec := { name := "wireDecodes", fn := fun _ => fun
  | [d] => { results := [.lit (.bool true)], args := [d] }
  | _ => none }
def wireDecodesRow : OpenClaim := { program := "ytdohenfbehpplaa", sum := "d9e63ed00485144c5b8344a330823e0c9426afd5252c6cc3159c254d79787470", func := "tollhouse/tollhouselaw06.WireDecodes", spec := "wireDecodes", unfollowed := true, recurses := true, apart := false }
def WireDecodesSaid : Prop := wireDecodesRow.holds Try.pinned (OpenSpec.ofChange wireDecodesSpec)

/-- ITS FALSE NEIGHBOUR: 'it returns false'. Refute it at one input. -/
def wireDecodesWrong : ChangeSpec := { name := "wireDecodes", fn := fun _ => fun
  | [d] => { results := [.lit (.bool false)], args := [d] }
  | _ => none }
def WireDecodesWrongFalsely : Prop := wireDecodesRow.holds Try.pinned (OpenSpec.ofChange wireDecodesWrong)

/-- 'tollhouselaw06.WireOdd': WHATEVER THE INPUT: true; the input reads as it did. -/
def wireOddSpec : ChangeSpec := { name := "wireOdd", fn := fun _ => fun
  | [d1, d2, d3] => { results := [.lit (.bool true)], args := [d1, d2, d3] }
  | _ => none }
def wireOddRow : OpenClaim := { program := "ytdohenfbehpplaa", sum := "d9e63ed00485144c5b8344a330823e0c9426afd5252c6cc3159c254d79787470", func := "tollhouse/tollhouselaw06.WireOdd", spec := "wireOdd", unfollowed := true, recurses := true, apart := false }
def WireOddSaid : Prop := wireOddRow.holds Try.pinned (OpenSpec.ofChange wireOddSpec)

/-- ITS FALSE NEIGHBOUR: 'it returns false'. Refute it at one input. -/
def wireOddWrong : ChangeSpec := { name := "wireOdd", fn := fun _ => fun
  | [d1, d2, d3] => { results := [.lit (.bool false)], args := [d1, d2, d3] }
  | _ => none }
def WireOddWrongFalsely : Prop := wireOddRow.holds Try.pinned (OpenSpec.ofChange wireOddWrong)

/-- 'tollhouselaw06.WireEven': WHATEVER THE INPUT: true; the input reads as it did. -/
def wireEvenSpec : ChangeSpec := { name := "wireEven", fn := fun _ => fun
  | [d1, d2] => { results := [.lit (.bool true)], args := [d1, d2] }
  | _ => none }
def wireEvenRow : OpenClaim := { program := "ytdohenfbehpplaa", sum := "d9e63ed00485144c5b8344a330823e0c9426afd5252c6cc3159c254d79787470", func := "tollhouse/tollhouselaw06.WireEven", spec := "wireEven", unfollowed := true, recurses := true, apart := false }
def WireEvenSaid : Prop := wireEvenRow.holds Try.pinned (OpenSpec.ofChange wireEvenSpec)

/-- ITS FALSE NEIGHBOUR: 'it returns false'. Refute it at one input. -/
def wireEvenWrong : ChangeSpec := { name := "wireEven", fn := fun _ => fun
  | [d1, d2] => { results := [.lit (.bool false)], args := [d1, d2] }
  | _ => none }
def WireEvenWrongFalsely : Prop := wireEvenRow.holds Try.pinned (OpenSpec.ofChange wireEvenWrong)

/-- 'tollhouselaw06.WireCuts': WHATEVER THE INPUT: true; the input reads as it did. -/
def wireCutsSpec : ChangeSpec := { name := "wireCuts", fn := fun _ => fun
  | [d1, d2] => { results := [.lit (.bool true)], args := [d1, d2] }
  | _ => none }
def wireCutsRow : OpenClaim := { program := "ytdohenfbehpplaa", sum := "d9e63ed00485144c5b8344a330823e0c9426afd5252c6cc3159c254d79787470", func := "tollhouse/tollhouselaw06.WireCuts", spec := "wireCuts", unfollowed := true, recurses := true, apart := false }
def WireCutsSaid : Prop := wireCutsRow.holds Try.pinned (OpenSpec.ofChange wireCutsSpec)

/-- ITS FALSE NEIGHBOUR: 'it returns false'. Refute it at one input. -/
def wireCutsWrong : ChangeSpec := { name := "wireCuts", fn := fun _ => fun
  | [d1, d2] => { results := [.lit (.bool false)], args := [d1, d2] }
  | _ => none }
def WireCutsWrongFalsely : Prop := wireCutsRow.holds Try.pinned (OpenSpec.ofChange wireCutsWrong)

/-- 'tollhouselaw06.WireEncodes': WHATEVER THE INPUT: true; the input reads as it did. -/
def wireEncodesSpec : ChangeSpec := { name := "wireEncodes", fn := fun _ => fun
  | [d] => { results := [.lit (.bool true)], args := [d] }
  | _ => none }
def wireEncodesRow : OpenClaim := { program := "ytdohenfbehpplaa", sum := "d9e63ed00485144c5b8344a330823e0c9426afd5252c6cc3159c254d79787470", func := "tollhouse/tollhouselaw06.WireEncodes", spec := "wireEncodes", unfollowed := true, recurses := true, apart := false }
def WireEncodesSaid : Prop := wireEncodesRow.holds Try.pinned (OpenSpec.ofChange wireEncodesSpec)

/-- ITS FALSE NEIGHBOUR: 'it returns false'. Refute it at one input. -/
def wireEncodesWrong : ChangeSpec := { name := "wireEncodes", fn := fun _ => fun
  | [d] => { results := [.lit (.bool false)], args := [d] }
  | _ => none }
def WireEncodesWrongFalsely : Prop := wireEncodesRow.holds Try.pinned (OpenSpec.ofChange wireEncodesWrong)

/-- 'tollhouselaw06.WireBare': WHATEVER THE INPUT: true; the input reads as it did. -/
def wireBareSpec : ChangeSpec := { name := "wireBare", fn := fun _ => fun
  | [d] => { results := [.lit (.bool true)], args := [d] }
  | _ => none }
def wireBareRow : OpenClaim := { program := "ytdohenfbehpplaa", sum := "d9e63ed00485144c5b8344a330823e0c9426afd5252c6cc3159c254d79787470", func := "tollhouse/tollhouselaw06.WireBare", spec := "wireBare", unfollowed := true, recurses := true, apart := false }
def WireBareSaid : Prop := wireBareRow.holds Try.pinned (OpenSpec.ofChange wireBareSpec)

/-- ITS FALSE NEIGHBOUR: 'it returns false'. Refute it at one input. -/
def wireBareWrong : ChangeSpec := { name := "wireBare", fn := fun _ => fun
  | [d] => { results := [.lit (.bool false)], args := [d] }
  | _ => none }
def WireBareWrongFalsely : Prop := wireBareRow.holds Try.pinned (OpenSpec.ofChange wireBareWrong)

/- THE SECOND FORM. 'bulk': how many values and letters a reading holds, each counted each time it is reached (what is shared counts as often as it is met; a slice's spare places count too). A statement '..UptoSaid' is the law's where the arguments, and the package variables that the reading takes, are together of bulk at most 1048576: NARROWER than '..Said'. Prove '..Said' where nothing that the law and all that it calls make is longer than what came in: it says more and counts as full. Else prove '..UptoSaid'. A law counts once. -/
mutual
def uptoBulk {H : Type} : DataW H → Nat
  | .lit (.string bytes) => bytes.length + 1
  | .lit _ => 1
  | .nil => 1
  | .ptr d => uptoBulk d + 1
  | .slice elems spare => uptoBulkAll elems + uptoBulkAll spare + 1
  | .agg parts => uptoBulkAll parts + 1
  | .iface _ d => uptoBulk d + 1
  | .map entries => uptoBulkEntries entries + 1
  | .held _ => 1
def uptoBulkAll {H : Type} : List (DataW H) → Nat
  | [] => 0
  | d :: r => uptoBulk d + uptoBulkAll r
def uptoBulkEntries {H : Type} : List (Lit × DataW H) → Nat
  | [] => 0
  | x :: r => uptoBulkEntry x + uptoBulkEntries r
def uptoBulkEntry {H : Type} : Lit × DataW H → Nat
  | (.string bytes, d) => bytes.length + uptoBulk d + 1
  | (_, d) => uptoBulk d + 1
 end
def uptoSmall : (H : Type) → List (DataW H) → Bool := fun _ ds => decide (uptoBulkAll ds ≤ 1048576)
def OpenSpec.upto (s : _root_.Go.ChangeSpec) : _root_.Go.OpenSpec := { _root_.Go.OpenSpec.ofChange s with cond := some uptoSmall }

/-- 'tollhouselaw06.WireDecodes', WHERE WHAT IT READS IS OF BULK AT MOST 1048576: true; the input reads as it did. -/
def wireDecodesUptoRow : OpenClaim := { program := "ytdohenfbehpplaa", sum := "d9e63ed00485144c5b8344a330823e0c9426afd5252c6cc3159c254d79787470", func := "tollhouse/tollhouselaw06.WireDecodes", spec := "wireDecodes", unfollowed := true, recurses := true, apart := false, narrowed := true }
def WireDecodesUptoSaid : Prop := wireDecodesUptoRow.holds Try.pinned (OpenSpec.upto wireDecodesSpec)

/-- 'tollhouselaw06.WireOdd', WHERE WHAT IT READS IS OF BULK AT MOST 1048576: true; the input reads as it did. -/
def wireOddUptoRow : OpenClaim := { program := "ytdohenfbehpplaa", sum := "d9e63ed00485144c5b8344a330823e0c9426afd5252c6cc3159c254d79787470", func := "tollhouse/tollhouselaw06.WireOdd", spec := "wireOdd", unfollowed := true, recurses := true, apart := false, narrowed := true }
def WireOddUptoSaid : Prop := wireOddUptoRow.holds Try.pinned (OpenSpec.upto wireOddSpec)

/-- 'tollhouselaw06.WireEven', WHERE WHAT IT READS IS OF BULK AT MOST 1048576: true; the input reads as it did. -/
def wireEvenUptoRow : OpenClaim := { program := "ytdohenfbehpplaa", sum := "d9e63ed00485144c5b8344a330823e0c9426afd5252c6cc3159c254d79787470", func := "tollhouse/tollhouselaw06.WireEven", spec := "wireEven", unfollowed := true, recurses := true, apart := false, narrowed := true }
def WireEvenUptoSaid : Prop := wireEvenUptoRow.holds Try.pinned (OpenSpec.upto wireEvenSpec)

/-- 'tollhouselaw06.WireCuts', WHERE WHAT IT READS IS OF BULK AT MOST 1048576: true; the input reads as it did. -/
def wireCutsUptoRow : OpenClaim := { program := "ytdohenfbehpplaa", sum := "d9e63ed00485144c5b8344a330823e0c9426afd5252c6cc3159c254d79787470", func := "tollhouse/tollhouselaw06.WireCuts", spec := "wireCuts", unfollowed := true, recurses := true, apart := false, narrowed := true }
def WireCutsUptoSaid : Prop := wireCutsUptoRow.holds Try.pinned (OpenSpec.upto wireCutsSpec)

/-- 'tollhouselaw06.WireEncodes', WHERE WHAT IT READS IS OF BULK AT MOST 1048576: true; the input reads as it did. -/
def wireEncodesUptoRow : OpenClaim := { program := "ytdohenfbehpplaa", sum := "d9e63ed00485144c5b8344a330823e0c9426afd5252c6cc3159c254d79787470", func := "tollhouse/tollhouselaw06.WireEncodes", spec := "wireEncodes", unfollowed := true, recurses := true, apart := false, narrowed := true }
def WireEncodesUptoSaid : Prop := wireEncodesUptoRow.holds Try.pinned (OpenSpec.upto wireEncodesSpec)

/-- 'tollhouselaw06.WireBare', WHERE WHAT IT READS IS OF BULK AT MOST 1048576: true; the input reads as it did. -/
def wireBareUptoRow : OpenClaim := { program := "ytdohenfbehpplaa", sum := "d9e63ed00485144c5b8344a330823e0c9426afd5252c6cc3159c254d79787470", func := "tollhouse/tollhouselaw06.WireBare", spec := "wireBare", unfollowed := true, recurses := true, apart := false, narrowed := true }
def WireBareUptoSaid : Prop := wireBareUptoRow.holds Try.pinned (OpenSpec.upto wireBareSpec)

end Rows
end Go.Proofs.Ytdohenfbehpplaa
