/-
  No cell of these rows narrows 'for every input' (looked for: loops, veiled, ifaces, maps, wideKeys, modest, calm, conditions, laid).
  DERIVED. THE GIVEN ROWS OF THIS SEAT. 6 by the template 'for every input the law returns true; each argument reads behind the call as it read before'; 0 by the template 'total and deterministic' (their statements: YtgmhdbkdfpfplaaTotals.lean).
  GIVEN WITH THE SEED: the statements are not yours to turn. If you find one false, say at which input.
  Laid BY PROGRAM, IN A SANDBOX (cutbox-rows.mjs): the forced cells as the released guide's own fill.sh prints them over the translation bc214855471c20ce… (all of the seat's roots in one cut). By AI agents, Wed Nov 11 2026. No macro, syntax, notation, axiom, sorry.
-/
import Derived.Test.YtgmhdbkdfpfplaaChecked
import GoSem.Claim
import GoSem.ClaimJoined
import GoSem.ClaimMapViews
import Derived.JoinedTies
import Derived.KernelRfl
namespace Go.Proofs.Ytgmhdbkdfpfplaa
/- THE CELL 'sum', in the pinned program and in every row, IS THE sha256 OF THE DUMP (.gsa) THAT YtgmhdbkdfpfplaaProg.lean LOADS. Nothing in Lean hashes anything: it is a label: what it is worth is what the hold of that sum in a sandbox is worth. -/
noncomputable def Try.pinned : Pinned := { name := "ytgmhdbkdfpfplaa", sum := "bc214855471c20ceff4fd1ccf3e239fd68b0770e8e018926f3d3c9926425a3d8", checked := Try.checked }
namespace Rows
def none {H : Type} : Left H := { results := [], args := [] }

/-- 'bytebarnlaw07.ReadSame': WHATEVER THE INPUT: true; the input reads as it did. -/
def readSameSpec : ChangeSpec := { name := "readSame", fn := fun _ => fun
  | [d1, d2] => { results := [.lit (.bool true)], args := [d1, d2] }
  | _ => none }
def readSameRow : OpenClaim := { program := "ytgmhdbkdfpfplaa", sum := "bc214855471c20ceff4fd1ccf3e239fd68b0770e8e018926f3d3c9926425a3d8", func := "bytebarn/bytebarnlaw07.ReadSame", spec := "readSame", unfollowed := true, recurses := true, apart := false }
def ReadSameSaid : Prop := readSameRow.holds Try.pinned (OpenSpec.ofChange readSameSpec)

/-- ITS FALSE NEIGHBOUR: 'it returns false'. Refute it at one input. -/
def readSameWrong : ChangeSpec := { name := "readSame", fn := fun _ => fun
  | [d1, d2] => { results := [.lit (.bool false)], args := [d1, d2] }
  | _ => none }
def ReadSameWrongFalsely : Prop := readSameRow.holds Try.pinned (OpenSpec.ofChange readSameWrong)

/-- 'bytebarnlaw17.FlatSame': WHATEVER THE INPUT: true; the input reads as it did. -/
def flatSameSpec : ChangeSpec := { name := "flatSame", fn := fun _ => fun
  | [d1, d2] => { results := [.lit (.bool true)], args := [d1, d2] }
  | _ => none }
def flatSameRow : OpenClaim := { program := "ytgmhdbkdfpfplaa", sum := "bc214855471c20ceff4fd1ccf3e239fd68b0770e8e018926f3d3c9926425a3d8", func := "bytebarn/bytebarnlaw17.FlatSame", spec := "flatSame", unfollowed := true, recurses := true, apart := false }
def FlatSameSaid : Prop := flatSameRow.holds Try.pinned (OpenSpec.ofChange flatSameSpec)

/-- ITS FALSE NEIGHBOUR: 'it returns false'. Refute it at one input. -/
def flatSameWrong : ChangeSpec := { name := "flatSame", fn := fun _ => fun
  | [d1, d2] => { results := [.lit (.bool false)], args := [d1, d2] }
  | _ => none }
def FlatSameWrongFalsely : Prop := flatSameRow.holds Try.pinned (OpenSpec.ofChange flatSameWrong)

/-- 'bytebarnlaw14.TableNames': WHATEVER THE INPUT: true; the input reads as it did. -/
def tableNamesSpec : ChangeSpec := { name := "tableNames", fn := fun _ => fun
  | [] => { results := [.lit (.bool true)], args := [] }
  | _ => none }
def tableNamesRow : OpenClaim := { program := "ytgmhdbkdfpfplaa", sum := "bc214855471c20ceff4fd1ccf3e239fd68b0770e8e018926f3d3c9926425a3d8", func := "bytebarn/bytebarnlaw14.TableNames", spec := "tableNames", unfollowed := true, recurses := true, apart := false }
def TableNamesSaid : Prop := tableNamesRow.holds Try.pinned (OpenSpec.ofChange tableNamesSpec)

/-- ITS FALSE NEIGHBOUR: 'it returns false'. Refute it at one input. -/
def tableNamesWrong : ChangeSpec := { name := "tableNames", fn := fun _ => fun
  | [] => { results := [.lit (.bool false)], args := [] }
  | _ => none }
def TableNamesWrongFalsely : Prop := tableNamesRow.holds Try.pinned (OpenSpec.ofChange tableNamesWrong)

/-- 'bytebarnlaw14.TableBack': WHATEVER THE INPUT: true; the input reads as it did. -/
def tableBackSpec : ChangeSpec := { name := "tableBack", fn := fun _ => fun
  | [d1, d2, d3, d4] => { results := [.lit (.bool true)], args := [d1, d2, d3, d4] }
  | _ => none }
def tableBackRow : OpenClaim := { program := "ytgmhdbkdfpfplaa", sum := "bc214855471c20ceff4fd1ccf3e239fd68b0770e8e018926f3d3c9926425a3d8", func := "bytebarn/bytebarnlaw14.TableBack", spec := "tableBack", unfollowed := true, recurses := true, apart := false }
def TableBackSaid : Prop := tableBackRow.holds Try.pinned (OpenSpec.ofChange tableBackSpec)

/-- ITS FALSE NEIGHBOUR: 'it returns false'. Refute it at one input. -/
def tableBackWrong : ChangeSpec := { name := "tableBack", fn := fun _ => fun
  | [d1, d2, d3, d4] => { results := [.lit (.bool false)], args := [d1, d2, d3, d4] }
  | _ => none }
def TableBackWrongFalsely : Prop := tableBackRow.holds Try.pinned (OpenSpec.ofChange tableBackWrong)

/-- 'bytebarnlaw14.TableOver': WHATEVER THE INPUT: true; the input reads as it did. -/
def tableOverSpec : ChangeSpec := { name := "tableOver", fn := fun _ => fun
  | [d1, d2, d3, d4, d5] => { results := [.lit (.bool true)], args := [d1, d2, d3, d4, d5] }
  | _ => none }
def tableOverRow : OpenClaim := { program := "ytgmhdbkdfpfplaa", sum := "bc214855471c20ceff4fd1ccf3e239fd68b0770e8e018926f3d3c9926425a3d8", func := "bytebarn/bytebarnlaw14.TableOver", spec := "tableOver", unfollowed := true, recurses := true, apart := false }
def TableOverSaid : Prop := tableOverRow.holds Try.pinned (OpenSpec.ofChange tableOverSpec)

/-- ITS FALSE NEIGHBOUR: 'it returns false'. Refute it at one input. -/
def tableOverWrong : ChangeSpec := { name := "tableOver", fn := fun _ => fun
  | [d1, d2, d3, d4, d5] => { results := [.lit (.bool false)], args := [d1, d2, d3, d4, d5] }
  | _ => none }
def TableOverWrongFalsely : Prop := tableOverRow.holds Try.pinned (OpenSpec.ofChange tableOverWrong)

/-- 'bytebarnlaw14.TableTells': WHATEVER THE INPUT: true; the input reads as it did. -/
def tableTellsSpec : ChangeSpec := { name := "tableTells", fn := fun _ => fun
  | [d1, d2, d3, d4, d5] => { results := [.lit (.bool true)], args := [d1, d2, d3, d4, d5] }
  | _ => none }
def tableTellsRow : OpenClaim := { program := "ytgmhdbkdfpfplaa", sum := "bc214855471c20ceff4fd1ccf3e239fd68b0770e8e018926f3d3c9926425a3d8", func := "bytebarn/bytebarnlaw14.TableTells", spec := "tableTells", unfollowed := true, recurses := true, apart := false }
def TableTellsSaid : Prop := tableTellsRow.holds Try.pinned (OpenSpec.ofChange tableTellsSpec)

/-- ITS FALSE NEIGHBOUR: 'it returns false'. Refute it at one input. -/
def tableTellsWrong : ChangeSpec := { name := "tableTells", fn := fun _ => fun
  | [d1, d2, d3, d4, d5] => { results := [.lit (.bool false)], args := [d1, d2, d3, d4, d5] }
  | _ => none }
def TableTellsWrongFalsely : Prop := tableTellsRow.holds Try.pinned (OpenSpec.ofChange tableTellsWrong)

/- THE SECOND FORM. 'bulk': how many values and letters a reading holds, each counted each time it is reached (what is shared counts as often as it is met; a slice's spare places count too). A statement '..UptoSaid' is the law's where the arguments, and the package variables that the reading takes, are together of bulk at most 1048576: NARROWER than '..Said'. Prove '..Said' where nothing that the law and all that it calls make is longer than what came in: it says more and counts as full. Else prove '..UptoSaid'. A law counts once. -/
mutual
def uptoBulk {H : Type} : DataW H → Nat
  | .lit (.string bytes) => bytes.length + 1
  | .lit _ => 1
  | .nil => 1
  | .ptr d => uptoBulk d + 1
  | .slice elems spare => uptoBulkAll elems + uptoBulkAll spare + 1
  | .agg parts => uptoBulkAll parts + 1
  | .iface _ d => uptoBulk d + 1
  | .map entries => uptoBulkEntries entries + 1
  | .held _ => 1
def uptoBulkAll {H : Type} : List (DataW H) → Nat
  | [] => 0
  | d :: r => uptoBulk d + uptoBulkAll r
def uptoBulkEntries {H : Type} : List (Lit × DataW H) → Nat
  | [] => 0
  | x :: r => uptoBulkEntry x + uptoBulkEntries r
def uptoBulkEntry {H : Type} : Lit × DataW H → Nat
  | (.string bytes, d) => bytes.length + uptoBulk d + 1
  | (_, d) => uptoBulk d + 1
 end
def uptoSmall : (H : Type) → List (DataW H) → Bool := fun _ ds => decide (uptoBulkAll ds ≤ 1048576)
def OpenSpec.upto (s : _root_.Go.ChangeSpec) : _root_.Go.OpenSpec := { _root_.Go.OpenSpec.ofChange s with cond := some uptoSmall }

/-- 'bytebarnlaw07.ReadSame', WHERE WHAT IT READS IS OF BULK AT MOST 1048576: true; the input reads as it did. -/
def readSameUptoRow : OpenClaim := { program := "ytgmhdbkdfpfplaa", sum := "bc214855471c20ceff4fd1ccf3e239fd68b0770e8e018926f3d3c9926425a3d8", func := "bytebarn/bytebarnlaw07.ReadSame", spec := "readSame", unfollowed := true, recurses := true, apart := false, narrowed := true }
def ReadSameUptoSaid : Prop := readSameUptoRow.holds Try.pinned (OpenSpec.upto readSameSpec)

/-- 'bytebarnlaw17.FlatSame', WHERE WHAT IT READS IS OF BULK AT MOST 1048576: true; the input reads as it did. -/
def flatSameUptoRow : OpenClaim := { program := "ytgmhdbkdfpfplaa", sum := "bc214855471c20ceff4fd1ccf3e239fd68b0770e8e018926f3d3c9926425a3d8", func := "bytebarn/bytebarnlaw17.FlatSame", spec := "flatSame", unfollowed := true, recurses := true, apart := false, narrowed := true }
def FlatSameUptoSaid : Prop := flatSameUptoRow.holds Try.pinned (OpenSpec.upto flatSameSpec)

/-- 'bytebarnlaw14.TableNames', WHERE WHAT IT READS IS OF BULK AT MOST 1048576: true; the input reads as it did. -/
def tableNamesUptoRow : OpenClaim := { program := "ytgmhdbkdfpfplaa", sum := "bc214855471c20ceff4fd1ccf3e239fd68b0770e8e018926f3d3c9926425a3d8", func := "bytebarn/bytebarnlaw14.TableNames", spec := "tableNames", unfollowed := true, recurses := true, apart := false, narrowed := true }
def TableNamesUptoSaid : Prop := tableNamesUptoRow.holds Try.pinned (OpenSpec.upto tableNamesSpec)

/-- 'bytebarnlaw14.TableBack', WHERE WHAT IT READS IS OF BULK AT MOST 1048576: true; the input reads as it did. -/
def tableBackUptoRow : OpenClaim := { program := "ytgmhdbkdfpfplaa", sum := "bc214855471c20ceff4fd1ccf3e239fd68b0770e8e018926f3d3c9926425a3d8", func := "bytebarn/bytebarnlaw14.TableBack", spec := "tableBack", unfollowed := true, recurses := true, apart := false, narrowed := true }
def TableBackUptoSaid : Prop := tableBackUptoRow.holds Try.pinned (OpenSpec.upto tableBackSpec)

/-- 'bytebarnlaw14.TableOver', WHERE WHAT IT READS IS OF BULK AT MOST 1048576: true; the input reads as it did. -/
def tableOverUptoRow : OpenClaim := { program := "ytgmhdbkdfpfplaa", sum := "bc214855471c20ceff4fd1ccf3e239fd68b0770e8e018926f3d3c9926425a3d8", func := "bytebarn/bytebarnlaw14.TableOver", spec := "tableOver", unfollowed := true, recurses := true, apart := false, narrowed := true }
def TableOverUptoSaid : Prop := tableOverUptoRow.holds Try.pinned (OpenSpec.upto tableOverSpec)

/-- 'bytebarnlaw14.TableTells', WHERE WHAT IT READS IS OF BULK AT MOST 1048576: true; the input reads as it did. -/
def tableTellsUptoRow : OpenClaim := { program := "ytgmhdbkdfpfplaa", sum := "bc214855471c20ceff4fd1ccf3e239fd68b0770e8e018926f3d3c9926425a3d8", func := "bytebarn/bytebarnlaw14.TableTells", spec := "tableTells", unfollowed := true, recurses := true, apart := false, narrowed := true }
def TableTellsUptoSaid : Prop := tableTellsUptoRow.holds Try.pinned (OpenSpec.upto tableTellsSpec)

end Rows
end Go.Proofs.Ytgmhdbkdfpfplaa
