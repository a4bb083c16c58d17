/-
  No cell of these rows narrows 'for every input' (looked for: loops, veiled, ifaces, maps, wideKeys, modest, calm, conditions, laid).
  DERIVED. THE GIVEN ROWS OF THIS SEAT. 6 by the template 'for every input the law returns true; each argument reads behind the call as it read before'; 0 by the template 'total and deterministic' (their statements: YtaogmipkcdhkjaaTotals.lean).
  GIVEN WITH THE SEED: the statements are not yours to turn. If you find one false, say at which input.
  Laid BY PROGRAM, IN A SANDBOX (cutbox-rows.mjs): the forced cells as the released guide's own fill.sh prints them over the translation de0b0db62df70445… (all of the seat's roots in one cut). By AI agents, Wed Nov 11 2026. No macro, syntax, notation, axiom, sorry.
-/
import Derived.Test.YtaogmipkcdhkjaaChecked
import GoSem.Claim
import GoSem.ClaimJoined
import GoSem.ClaimMapViews
import Derived.JoinedTies
import Derived.KernelRfl
namespace Go.Proofs.Ytaogmipkcdhkjaa
/- THE CELL 'sum', in the pinned program and in every row, IS THE sha256 OF THE DUMP (.gsa) THAT YtaogmipkcdhkjaaProg.lean LOADS. Nothing in Lean hashes anything: it is a label: what it is worth is what the hold of that sum in a sandbox is worth. -/
noncomputable def Try.pinned : Pinned := { name := "ytaogmipkcdhkjaa", sum := "de0b0db62df704456382ab9882d15024560094b667f0030b13bb04732560ed60", checked := Try.checked }
namespace Rows
def none {H : Type} : Left H := { results := [], args := [] }

/-- 'furrowworkslaw13.PrizeWorth': WHATEVER THE INPUT: true; the input reads as it did. -/
def prizeWorthSpec : ChangeSpec := { name := "prizeWorth", fn := fun _ => fun
  | [d1, d2, d3] => { results := [.lit (.bool true)], args := [d1, d2, d3] }
  | _ => none }
def prizeWorthRow : OpenClaim := { program := "ytaogmipkcdhkjaa", sum := "de0b0db62df704456382ab9882d15024560094b667f0030b13bb04732560ed60", func := "furrowworks/furrowworkslaw13.PrizeWorth", spec := "prizeWorth", inPlace := ["slices.overlaps[int]"], unfollowed := true, recurses := true, apart := false }
def PrizeWorthSaid : Prop := prizeWorthRow.holds Try.pinned (OpenSpec.ofChange prizeWorthSpec)

/-- ITS FALSE NEIGHBOUR: 'it returns false'. Refute it at one input. -/
def prizeWorthWrong : ChangeSpec := { name := "prizeWorth", fn := fun _ => fun
  | [d1, d2, d3] => { results := [.lit (.bool false)], args := [d1, d2, d3] }
  | _ => none }
def PrizeWorthWrongFalsely : Prop := prizeWorthRow.holds Try.pinned (OpenSpec.ofChange prizeWorthWrong)

/-- 'furrowworkslaw13.PrizeMost': WHATEVER THE INPUT: true; the input reads as it did. -/
def prizeMostSpec : ChangeSpec := { name := "prizeMost", fn := fun _ => fun
  | [d1, d2] => { results := [.lit (.bool true)], args := [d1, d2] }
  | _ => none }
def prizeMostRow : OpenClaim := { program := "ytaogmipkcdhkjaa", sum := "de0b0db62df704456382ab9882d15024560094b667f0030b13bb04732560ed60", func := "furrowworks/furrowworkslaw13.PrizeMost", spec := "prizeMost", inPlace := ["slices.overlaps[int]"], unfollowed := true, recurses := true, apart := false }
def PrizeMostSaid : Prop := prizeMostRow.holds Try.pinned (OpenSpec.ofChange prizeMostSpec)

/-- ITS FALSE NEIGHBOUR: 'it returns false'. Refute it at one input. -/
def prizeMostWrong : ChangeSpec := { name := "prizeMost", fn := fun _ => fun
  | [d1, d2] => { results := [.lit (.bool false)], args := [d1, d2] }
  | _ => none }
def PrizeMostWrongFalsely : Prop := prizeMostRow.holds Try.pinned (OpenSpec.ofChange prizeMostWrong)

/-- 'furrowworkslaw13.PrizeStay': WHATEVER THE INPUT: true; the input reads as it did. -/
def prizeStaySpec : ChangeSpec := { name := "prizeStay", fn := fun _ => fun
  | [d1, d2] => { results := [.lit (.bool true)], args := [d1, d2] }
  | _ => none }
def prizeStayRow : OpenClaim := { program := "ytaogmipkcdhkjaa", sum := "de0b0db62df704456382ab9882d15024560094b667f0030b13bb04732560ed60", func := "furrowworks/furrowworkslaw13.PrizeStay", spec := "prizeStay", inPlace := ["slices.overlaps[int]"], unfollowed := true, recurses := true, apart := false }
def PrizeStaySaid : Prop := prizeStayRow.holds Try.pinned (OpenSpec.ofChange prizeStaySpec)

/-- ITS FALSE NEIGHBOUR: 'it returns false'. Refute it at one input. -/
def prizeStayWrong : ChangeSpec := { name := "prizeStay", fn := fun _ => fun
  | [d1, d2] => { results := [.lit (.bool false)], args := [d1, d2] }
  | _ => none }
def PrizeStayWrongFalsely : Prop := prizeStayRow.holds Try.pinned (OpenSpec.ofChange prizeStayWrong)

/-- 'furrowworkslaw13.PrizeFor': WHATEVER THE INPUT: true; the input reads as it did. -/
def prizeForSpec : ChangeSpec := { name := "prizeFor", fn := fun _ => fun
  | [d1, d2, d3] => { results := [.lit (.bool true)], args := [d1, d2, d3] }
  | _ => none }
def prizeForRow : OpenClaim := { program := "ytaogmipkcdhkjaa", sum := "de0b0db62df704456382ab9882d15024560094b667f0030b13bb04732560ed60", func := "furrowworks/furrowworkslaw13.PrizeFor", spec := "prizeFor", inPlace := ["slices.overlaps[int]"], unfollowed := true, recurses := true, apart := false }
def PrizeForSaid : Prop := prizeForRow.holds Try.pinned (OpenSpec.ofChange prizeForSpec)

/-- ITS FALSE NEIGHBOUR: 'it returns false'. Refute it at one input. -/
def prizeForWrong : ChangeSpec := { name := "prizeFor", fn := fun _ => fun
  | [d1, d2, d3] => { results := [.lit (.bool false)], args := [d1, d2, d3] }
  | _ => none }
def PrizeForWrongFalsely : Prop := prizeForRow.holds Try.pinned (OpenSpec.ofChange prizeForWrong)

/-- 'furrowworkslaw13.PrizeEnd': WHATEVER THE INPUT: true; the input reads as it did. -/
def prizeEndSpec : ChangeSpec := { name := "prizeEnd", fn := fun _ => fun
  | [d1, d2, d3, d4, d5] => { results := [.lit (.bool true)], args := [d1, d2, d3, d4, d5] }
  | _ => none }
def prizeEndRow : OpenClaim := { program := "ytaogmipkcdhkjaa", sum := "de0b0db62df704456382ab9882d15024560094b667f0030b13bb04732560ed60", func := "furrowworks/furrowworkslaw13.PrizeEnd", spec := "prizeEnd", inPlace := ["slices.overlaps[int]"], unfollowed := true, recurses := true, apart := false }
def PrizeEndSaid : Prop := prizeEndRow.holds Try.pinned (OpenSpec.ofChange prizeEndSpec)

/-- ITS FALSE NEIGHBOUR: 'it returns false'. Refute it at one input. -/
def prizeEndWrong : ChangeSpec := { name := "prizeEnd", fn := fun _ => fun
  | [d1, d2, d3, d4, d5] => { results := [.lit (.bool false)], args := [d1, d2, d3, d4, d5] }
  | _ => none }
def PrizeEndWrongFalsely : Prop := prizeEndRow.holds Try.pinned (OpenSpec.ofChange prizeEndWrong)

/-- 'furrowworkslaw13.PrizeTurned': WHATEVER THE INPUT: true; the input reads as it did. -/
def prizeTurnedSpec : ChangeSpec := { name := "prizeTurned", fn := fun _ => fun
  | [d1, d2, d3] => { results := [.lit (.bool true)], args := [d1, d2, d3] }
  | _ => none }
def prizeTurnedRow : OpenClaim := { program := "ytaogmipkcdhkjaa", sum := "de0b0db62df704456382ab9882d15024560094b667f0030b13bb04732560ed60", func := "furrowworks/furrowworkslaw13.PrizeTurned", spec := "prizeTurned", inPlace := ["slices.overlaps[int]"], unfollowed := true, recurses := true, apart := false }
def PrizeTurnedSaid : Prop := prizeTurnedRow.holds Try.pinned (OpenSpec.ofChange prizeTurnedSpec)

/-- ITS FALSE NEIGHBOUR: 'it returns false'. Refute it at one input. -/
def prizeTurnedWrong : ChangeSpec := { name := "prizeTurned", fn := fun _ => fun
  | [d1, d2, d3] => { results := [.lit (.bool false)], args := [d1, d2, d3] }
  | _ => none }
def PrizeTurnedWrongFalsely : Prop := prizeTurnedRow.holds Try.pinned (OpenSpec.ofChange prizeTurnedWrong)

/- THE SECOND FORM. 'bulk': how many values and letters a reading holds, each counted each time it is reached (what is shared counts as often as it is met; a slice's spare places count too). A statement '..UptoSaid' is the law's where the arguments, and the package variables that the reading takes, are together of bulk at most 1048576: NARROWER than '..Said'. Prove '..Said' where nothing that the law and all that it calls make is longer than what came in: it says more and counts as full. Else prove '..UptoSaid'. A law counts once. -/
mutual
def uptoBulk {H : Type} : DataW H → Nat
  | .lit (.string bytes) => bytes.length + 1
  | .lit _ => 1
  | .nil => 1
  | .ptr d => uptoBulk d + 1
  | .slice elems spare => uptoBulkAll elems + uptoBulkAll spare + 1
  | .agg parts => uptoBulkAll parts + 1
  | .iface _ d => uptoBulk d + 1
  | .map entries => uptoBulkEntries entries + 1
  | .held _ => 1
def uptoBulkAll {H : Type} : List (DataW H) → Nat
  | [] => 0
  | d :: r => uptoBulk d + uptoBulkAll r
def uptoBulkEntries {H : Type} : List (Lit × DataW H) → Nat
  | [] => 0
  | x :: r => uptoBulkEntry x + uptoBulkEntries r
def uptoBulkEntry {H : Type} : Lit × DataW H → Nat
  | (.string bytes, d) => bytes.length + uptoBulk d + 1
  | (_, d) => uptoBulk d + 1
 end
def uptoSmall : (H : Type) → List (DataW H) → Bool := fun _ ds => decide (uptoBulkAll ds ≤ 1048576)
def OpenSpec.upto (s : _root_.Go.ChangeSpec) : _root_.Go.OpenSpec := { _root_.Go.OpenSpec.ofChange s with cond := some uptoSmall }

/-- 'furrowworkslaw13.PrizeWorth', WHERE WHAT IT READS IS OF BULK AT MOST 1048576: true; the input reads as it did. -/
def prizeWorthUptoRow : OpenClaim := { program := "ytaogmipkcdhkjaa", sum := "de0b0db62df704456382ab9882d15024560094b667f0030b13bb04732560ed60", func := "furrowworks/furrowworkslaw13.PrizeWorth", spec := "prizeWorth", inPlace := ["slices.overlaps[int]"], unfollowed := true, recurses := true, apart := false, narrowed := true }
def PrizeWorthUptoSaid : Prop := prizeWorthUptoRow.holds Try.pinned (OpenSpec.upto prizeWorthSpec)

/-- 'furrowworkslaw13.PrizeMost', WHERE WHAT IT READS IS OF BULK AT MOST 1048576: true; the input reads as it did. -/
def prizeMostUptoRow : OpenClaim := { program := "ytaogmipkcdhkjaa", sum := "de0b0db62df704456382ab9882d15024560094b667f0030b13bb04732560ed60", func := "furrowworks/furrowworkslaw13.PrizeMost", spec := "prizeMost", inPlace := ["slices.overlaps[int]"], unfollowed := true, recurses := true, apart := false, narrowed := true }
def PrizeMostUptoSaid : Prop := prizeMostUptoRow.holds Try.pinned (OpenSpec.upto prizeMostSpec)

/-- 'furrowworkslaw13.PrizeStay', WHERE WHAT IT READS IS OF BULK AT MOST 1048576: true; the input reads as it did. -/
def prizeStayUptoRow : OpenClaim := { program := "ytaogmipkcdhkjaa", sum := "de0b0db62df704456382ab9882d15024560094b667f0030b13bb04732560ed60", func := "furrowworks/furrowworkslaw13.PrizeStay", spec := "prizeStay", inPlace := ["slices.overlaps[int]"], unfollowed := true, recurses := true, apart := false, narrowed := true }
def PrizeStayUptoSaid : Prop := prizeStayUptoRow.holds Try.pinned (OpenSpec.upto prizeStaySpec)

/-- 'furrowworkslaw13.PrizeFor', WHERE WHAT IT READS IS OF BULK AT MOST 1048576: true; the input reads as it did. -/
def prizeForUptoRow : OpenClaim := { program := "ytaogmipkcdhkjaa", sum := "de0b0db62df704456382ab9882d15024560094b667f0030b13bb04732560ed60", func := "furrowworks/furrowworkslaw13.PrizeFor", spec := "prizeFor", inPlace := ["slices.overlaps[int]"], unfollowed := true, recurses := true, apart := false, narrowed := true }
def PrizeForUptoSaid : Prop := prizeForUptoRow.holds Try.pinned (OpenSpec.upto prizeForSpec)

/-- 'furrowworkslaw13.PrizeEnd', WHERE WHAT IT READS IS OF BULK AT MOST 1048576: true; the input reads as it did. -/
def prizeEndUptoRow : OpenClaim := { program := "ytaogmipkcdhkjaa", sum := "de0b0db62df704456382ab9882d15024560094b667f0030b13bb04732560ed60", func := "furrowworks/furrowworkslaw13.PrizeEnd", spec := "prizeEnd", inPlace := ["slices.overlaps[int]"], unfollowed := true, recurses := true, apart := false, narrowed := true }
def PrizeEndUptoSaid : Prop := prizeEndUptoRow.holds Try.pinned (OpenSpec.upto prizeEndSpec)

/-- 'furrowworkslaw13.PrizeTurned', WHERE WHAT IT READS IS OF BULK AT MOST 1048576: true; the input reads as it did. -/
def prizeTurnedUptoRow : OpenClaim := { program := "ytaogmipkcdhkjaa", sum := "de0b0db62df704456382ab9882d15024560094b667f0030b13bb04732560ed60", func := "furrowworks/furrowworkslaw13.PrizeTurned", spec := "prizeTurned", inPlace := ["slices.overlaps[int]"], unfollowed := true, recurses := true, apart := false, narrowed := true }
def PrizeTurnedUptoSaid : Prop := prizeTurnedUptoRow.holds Try.pinned (OpenSpec.upto prizeTurnedSpec)

end Rows
end Go.Proofs.Ytaogmipkcdhkjaa
