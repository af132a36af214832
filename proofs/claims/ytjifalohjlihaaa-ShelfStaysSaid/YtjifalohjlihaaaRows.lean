/-
  No cell of these rows narrows 'for every input' (looked for: loops, veiled, ifaces, maps, wideKeys, modest, calm, conditions, laid).
  DERIVED. THE GIVEN ROWS OF THIS SEAT. 16 by the template 'for every input the law returns true; each argument reads behind the call as it read before'; 0 by the template 'total and deterministic' (their statements: YtjifalohjlihaaaTotals.lean).
  GIVEN WITH THE SEED: the statements are not yours to turn. If you find one false, say at which input.
  Laid BY PROGRAM, IN A SANDBOX (cutbox-rows.mjs): the forced cells as the released guide's own fill.sh prints them over the translation 96c12164ce94af45… (all of the seat's roots in one cut). By AI agents, Wed Nov 11 2026. No macro, syntax, notation, axiom, sorry.
-/
import Derived.Test.YtjifalohjlihaaaChecked
import GoSem.Claim
import GoSem.ClaimJoined
import GoSem.ClaimMapViews
import Derived.JoinedTies
import Derived.KernelRfl
namespace Go.Proofs.Ytjifalohjlihaaa
/- THE CELL 'sum', in the pinned program and in every row, IS THE sha256 OF THE DUMP (.gsa) THAT YtjifalohjlihaaaProg.lean LOADS. Nothing in Lean hashes anything: it is a label: what it is worth is what the hold of that sum in a sandbox is worth. -/
noncomputable def Try.pinned : Pinned := { name := "ytjifalohjlihaaa", sum := "96c12164ce94af450c70f884b4837381385857c392a135bfd0d6a838e27b8214", checked := Try.checked }
namespace Rows
def none {H : Type} : Left H := { results := [], args := [] }

/-- 'anillaw06.ShelfDries': WHATEVER THE INPUT: true; the input reads as it did. -/
def shelfDriesSpec : ChangeSpec := { name := "shelfDries", fn := fun _ => fun
  | [d1, d2, d3, d4] => { results := [.lit (.bool true)], args := [d1, d2, d3, d4] }
  | _ => none }
def shelfDriesRow : OpenClaim := { program := "ytjifalohjlihaaa", sum := "96c12164ce94af450c70f884b4837381385857c392a135bfd0d6a838e27b8214", func := "anil/anillaw06.ShelfDries", spec := "shelfDries", unfollowed := true, recurses := true, plainKeys := false, apart := false }
def ShelfDriesSaid : Prop := shelfDriesRow.holds Try.pinned (OpenSpec.ofChange shelfDriesSpec)

/-- ITS FALSE NEIGHBOUR: 'it returns false'. Refute it at one input. -/
def shelfDriesWrong : ChangeSpec := { name := "shelfDries", fn := fun _ => fun
  | [d1, d2, d3, d4] => { results := [.lit (.bool false)], args := [d1, d2, d3, d4] }
  | _ => none }
def ShelfDriesWrongFalsely : Prop := shelfDriesRow.holds Try.pinned (OpenSpec.ofChange shelfDriesWrong)

/-- 'anillaw06.ShelfDays': WHATEVER THE INPUT: true; the input reads as it did. -/
def shelfDaysSpec : ChangeSpec := { name := "shelfDays", fn := fun _ => fun
  | [d1, d2, d3] => { results := [.lit (.bool true)], args := [d1, d2, d3] }
  | _ => none }
def shelfDaysRow : OpenClaim := { program := "ytjifalohjlihaaa", sum := "96c12164ce94af450c70f884b4837381385857c392a135bfd0d6a838e27b8214", func := "anil/anillaw06.ShelfDays", spec := "shelfDays", unfollowed := true, recurses := true, plainKeys := false, apart := false }
def ShelfDaysSaid : Prop := shelfDaysRow.holds Try.pinned (OpenSpec.ofChange shelfDaysSpec)

/-- ITS FALSE NEIGHBOUR: 'it returns false'. Refute it at one input. -/
def shelfDaysWrong : ChangeSpec := { name := "shelfDays", fn := fun _ => fun
  | [d1, d2, d3] => { results := [.lit (.bool false)], args := [d1, d2, d3] }
  | _ => none }
def ShelfDaysWrongFalsely : Prop := shelfDaysRow.holds Try.pinned (OpenSpec.ofChange shelfDaysWrong)

/-- 'anillaw06.ShelfLeaves': WHATEVER THE INPUT: true; the input reads as it did. -/
def shelfLeavesSpec : ChangeSpec := { name := "shelfLeaves", fn := fun _ => fun
  | [d] => { results := [.lit (.bool true)], args := [d] }
  | _ => none }
def shelfLeavesRow : OpenClaim := { program := "ytjifalohjlihaaa", sum := "96c12164ce94af450c70f884b4837381385857c392a135bfd0d6a838e27b8214", func := "anil/anillaw06.ShelfLeaves", spec := "shelfLeaves", unfollowed := true, recurses := true, plainKeys := false, apart := false }
def ShelfLeavesSaid : Prop := shelfLeavesRow.holds Try.pinned (OpenSpec.ofChange shelfLeavesSpec)

/-- ITS FALSE NEIGHBOUR: 'it returns false'. Refute it at one input. -/
def shelfLeavesWrong : ChangeSpec := { name := "shelfLeaves", fn := fun _ => fun
  | [d] => { results := [.lit (.bool false)], args := [d] }
  | _ => none }
def ShelfLeavesWrongFalsely : Prop := shelfLeavesRow.holds Try.pinned (OpenSpec.ofChange shelfLeavesWrong)

/-- 'anillaw06.ShelfEnds': WHATEVER THE INPUT: true; the input reads as it did. -/
def shelfEndsSpec : ChangeSpec := { name := "shelfEnds", fn := fun _ => fun
  | [d1, d2, d3, d4] => { results := [.lit (.bool true)], args := [d1, d2, d3, d4] }
  | _ => none }
def shelfEndsRow : OpenClaim := { program := "ytjifalohjlihaaa", sum := "96c12164ce94af450c70f884b4837381385857c392a135bfd0d6a838e27b8214", func := "anil/anillaw06.ShelfEnds", spec := "shelfEnds", unfollowed := true, recurses := true, plainKeys := false, apart := false }
def ShelfEndsSaid : Prop := shelfEndsRow.holds Try.pinned (OpenSpec.ofChange shelfEndsSpec)

/-- ITS FALSE NEIGHBOUR: 'it returns false'. Refute it at one input. -/
def shelfEndsWrong : ChangeSpec := { name := "shelfEnds", fn := fun _ => fun
  | [d1, d2, d3, d4] => { results := [.lit (.bool false)], args := [d1, d2, d3, d4] }
  | _ => none }
def ShelfEndsWrongFalsely : Prop := shelfEndsRow.holds Try.pinned (OpenSpec.ofChange shelfEndsWrong)

/-- 'anillaw06.ShelfStays': WHATEVER THE INPUT: true; the input reads as it did. -/
def shelfStaysSpec : ChangeSpec := { name := "shelfStays", fn := fun _ => fun
  | [d1, d2, d3] => { results := [.lit (.bool true)], args := [d1, d2, d3] }
  | _ => none }
def shelfStaysRow : OpenClaim := { program := "ytjifalohjlihaaa", sum := "96c12164ce94af450c70f884b4837381385857c392a135bfd0d6a838e27b8214", func := "anil/anillaw06.ShelfStays", spec := "shelfStays", unfollowed := true, recurses := true, plainKeys := false, apart := false }
def ShelfStaysSaid : Prop := shelfStaysRow.holds Try.pinned (OpenSpec.ofChange shelfStaysSpec)

/-- ITS FALSE NEIGHBOUR: 'it returns false'. Refute it at one input. -/
def shelfStaysWrong : ChangeSpec := { name := "shelfStays", fn := fun _ => fun
  | [d1, d2, d3] => { results := [.lit (.bool false)], args := [d1, d2, d3] }
  | _ => none }
def ShelfStaysWrongFalsely : Prop := shelfStaysRow.holds Try.pinned (OpenSpec.ofChange shelfStaysWrong)

/-- 'anillaw06.ShelfDrier': WHATEVER THE INPUT: true; the input reads as it did. -/
def shelfDrierSpec : ChangeSpec := { name := "shelfDrier", fn := fun _ => fun
  | [d1, d2, d3, d4, d5, d6] => { results := [.lit (.bool true)], args := [d1, d2, d3, d4, d5, d6] }
  | _ => none }
def shelfDrierRow : OpenClaim := { program := "ytjifalohjlihaaa", sum := "96c12164ce94af450c70f884b4837381385857c392a135bfd0d6a838e27b8214", func := "anil/anillaw06.ShelfDrier", spec := "shelfDrier", unfollowed := true, recurses := true, plainKeys := false, apart := false }
def ShelfDrierSaid : Prop := shelfDrierRow.holds Try.pinned (OpenSpec.ofChange shelfDrierSpec)

/-- ITS FALSE NEIGHBOUR: 'it returns false'. Refute it at one input. -/
def shelfDrierWrong : ChangeSpec := { name := "shelfDrier", fn := fun _ => fun
  | [d1, d2, d3, d4, d5, d6] => { results := [.lit (.bool false)], args := [d1, d2, d3, d4, d5, d6] }
  | _ => none }
def ShelfDrierWrongFalsely : Prop := shelfDrierRow.holds Try.pinned (OpenSpec.ofChange shelfDrierWrong)

/-- 'anillaw06.ShelfFirst': WHATEVER THE INPUT: true; the input reads as it did. -/
def shelfFirstSpec : ChangeSpec := { name := "shelfFirst", fn := fun _ => fun
  | [d] => { results := [.lit (.bool true)], args := [d] }
  | _ => none }
def shelfFirstRow : OpenClaim := { program := "ytjifalohjlihaaa", sum := "96c12164ce94af450c70f884b4837381385857c392a135bfd0d6a838e27b8214", func := "anil/anillaw06.ShelfFirst", spec := "shelfFirst", unfollowed := true, recurses := true, plainKeys := false, apart := false }
def ShelfFirstSaid : Prop := shelfFirstRow.holds Try.pinned (OpenSpec.ofChange shelfFirstSpec)

/-- ITS FALSE NEIGHBOUR: 'it returns false'. Refute it at one input. -/
def shelfFirstWrong : ChangeSpec := { name := "shelfFirst", fn := fun _ => fun
  | [d] => { results := [.lit (.bool false)], args := [d] }
  | _ => none }
def ShelfFirstWrongFalsely : Prop := shelfFirstRow.holds Try.pinned (OpenSpec.ofChange shelfFirstWrong)

/-- 'anillaw06.ShelfLeft': WHATEVER THE INPUT: true; the input reads as it did. -/
def shelfLeftSpec : ChangeSpec := { name := "shelfLeft", fn := fun _ => fun
  | [d1, d2] => { results := [.lit (.bool true)], args := [d1, d2] }
  | _ => none }
def shelfLeftRow : OpenClaim := { program := "ytjifalohjlihaaa", sum := "96c12164ce94af450c70f884b4837381385857c392a135bfd0d6a838e27b8214", func := "anil/anillaw06.ShelfLeft", spec := "shelfLeft", unfollowed := true, recurses := true, plainKeys := false, apart := false }
def ShelfLeftSaid : Prop := shelfLeftRow.holds Try.pinned (OpenSpec.ofChange shelfLeftSpec)

/-- ITS FALSE NEIGHBOUR: 'it returns false'. Refute it at one input. -/
def shelfLeftWrong : ChangeSpec := { name := "shelfLeft", fn := fun _ => fun
  | [d1, d2] => { results := [.lit (.bool false)], args := [d1, d2] }
  | _ => none }
def ShelfLeftWrongFalsely : Prop := shelfLeftRow.holds Try.pinned (OpenSpec.ofChange shelfLeftWrong)

/-- 'anillaw06.ShelfPlays': WHATEVER THE INPUT: true; the input reads as it did. -/
def shelfPlaysSpec : ChangeSpec := { name := "shelfPlays", fn := fun _ => fun
  | [d1, d2, d3] => { results := [.lit (.bool true)], args := [d1, d2, d3] }
  | _ => none }
def shelfPlaysRow : OpenClaim := { program := "ytjifalohjlihaaa", sum := "96c12164ce94af450c70f884b4837381385857c392a135bfd0d6a838e27b8214", func := "anil/anillaw06.ShelfPlays", spec := "shelfPlays", unfollowed := true, recurses := true, plainKeys := false, apart := false }
def ShelfPlaysSaid : Prop := shelfPlaysRow.holds Try.pinned (OpenSpec.ofChange shelfPlaysSpec)

/-- ITS FALSE NEIGHBOUR: 'it returns false'. Refute it at one input. -/
def shelfPlaysWrong : ChangeSpec := { name := "shelfPlays", fn := fun _ => fun
  | [d1, d2, d3] => { results := [.lit (.bool false)], args := [d1, d2, d3] }
  | _ => none }
def ShelfPlaysWrongFalsely : Prop := shelfPlaysRow.holds Try.pinned (OpenSpec.ofChange shelfPlaysWrong)

/-- 'anillaw06.ShelfNoBetter': WHATEVER THE INPUT: true; the input reads as it did. -/
def shelfNoBetterSpec : ChangeSpec := { name := "shelfNoBetter", fn := fun _ => fun
  | [d1, d2] => { results := [.lit (.bool true)], args := [d1, d2] }
  | _ => none }
def shelfNoBetterRow : OpenClaim := { program := "ytjifalohjlihaaa", sum := "96c12164ce94af450c70f884b4837381385857c392a135bfd0d6a838e27b8214", func := "anil/anillaw06.ShelfNoBetter", spec := "shelfNoBetter", unfollowed := true, recurses := true, plainKeys := false, apart := false }
def ShelfNoBetterSaid : Prop := shelfNoBetterRow.holds Try.pinned (OpenSpec.ofChange shelfNoBetterSpec)

/-- ITS FALSE NEIGHBOUR: 'it returns false'. Refute it at one input. -/
def shelfNoBetterWrong : ChangeSpec := { name := "shelfNoBetter", fn := fun _ => fun
  | [d1, d2] => { results := [.lit (.bool false)], args := [d1, d2] }
  | _ => none }
def ShelfNoBetterWrongFalsely : Prop := shelfNoBetterRow.holds Try.pinned (OpenSpec.ofChange shelfNoBetterWrong)

/-- 'anillaw06.ShelfTill': WHATEVER THE INPUT: true; the input reads as it did. -/
def shelfTillSpec : ChangeSpec := { name := "shelfTill", fn := fun _ => fun
  | [d1, d2] => { results := [.lit (.bool true)], args := [d1, d2] }
  | _ => none }
def shelfTillRow : OpenClaim := { program := "ytjifalohjlihaaa", sum := "96c12164ce94af450c70f884b4837381385857c392a135bfd0d6a838e27b8214", func := "anil/anillaw06.ShelfTill", spec := "shelfTill", unfollowed := true, recurses := true, plainKeys := false, apart := false }
def ShelfTillSaid : Prop := shelfTillRow.holds Try.pinned (OpenSpec.ofChange shelfTillSpec)

/-- ITS FALSE NEIGHBOUR: 'it returns false'. Refute it at one input. -/
def shelfTillWrong : ChangeSpec := { name := "shelfTill", fn := fun _ => fun
  | [d1, d2] => { results := [.lit (.bool false)], args := [d1, d2] }
  | _ => none }
def ShelfTillWrongFalsely : Prop := shelfTillRow.holds Try.pinned (OpenSpec.ofChange shelfTillWrong)

/-- 'anillaw06.ShelfMore': WHATEVER THE INPUT: true; the input reads as it did. -/
def shelfMoreSpec : ChangeSpec := { name := "shelfMore", fn := fun _ => fun
  | [d1, d2, d3, d4] => { results := [.lit (.bool true)], args := [d1, d2, d3, d4] }
  | _ => none }
def shelfMoreRow : OpenClaim := { program := "ytjifalohjlihaaa", sum := "96c12164ce94af450c70f884b4837381385857c392a135bfd0d6a838e27b8214", func := "anil/anillaw06.ShelfMore", spec := "shelfMore", unfollowed := true, recurses := true, plainKeys := false, apart := false }
def ShelfMoreSaid : Prop := shelfMoreRow.holds Try.pinned (OpenSpec.ofChange shelfMoreSpec)

/-- ITS FALSE NEIGHBOUR: 'it returns false'. Refute it at one input. -/
def shelfMoreWrong : ChangeSpec := { name := "shelfMore", fn := fun _ => fun
  | [d1, d2, d3, d4] => { results := [.lit (.bool false)], args := [d1, d2, d3, d4] }
  | _ => none }
def ShelfMoreWrongFalsely : Prop := shelfMoreRow.holds Try.pinned (OpenSpec.ofChange shelfMoreWrong)

/-- 'anillaw06.ShelfHeavier': WHATEVER THE INPUT: true; the input reads as it did. -/
def shelfHeavierSpec : ChangeSpec := { name := "shelfHeavier", fn := fun _ => fun
  | [d1, d2, d3, d4, d5] => { results := [.lit (.bool true)], args := [d1, d2, d3, d4, d5] }
  | _ => none }
def shelfHeavierRow : OpenClaim := { program := "ytjifalohjlihaaa", sum := "96c12164ce94af450c70f884b4837381385857c392a135bfd0d6a838e27b8214", func := "anil/anillaw06.ShelfHeavier", spec := "shelfHeavier", unfollowed := true, recurses := true, plainKeys := false, apart := false }
def ShelfHeavierSaid : Prop := shelfHeavierRow.holds Try.pinned (OpenSpec.ofChange shelfHeavierSpec)

/-- ITS FALSE NEIGHBOUR: 'it returns false'. Refute it at one input. -/
def shelfHeavierWrong : ChangeSpec := { name := "shelfHeavier", fn := fun _ => fun
  | [d1, d2, d3, d4, d5] => { results := [.lit (.bool false)], args := [d1, d2, d3, d4, d5] }
  | _ => none }
def ShelfHeavierWrongFalsely : Prop := shelfHeavierRow.holds Try.pinned (OpenSpec.ofChange shelfHeavierWrong)

/-- 'anillaw06.ShelfWider': WHATEVER THE INPUT: true; the input reads as it did. -/
def shelfWiderSpec : ChangeSpec := { name := "shelfWider", fn := fun _ => fun
  | [d1, d2, d3, d4, d5] => { results := [.lit (.bool true)], args := [d1, d2, d3, d4, d5] }
  | _ => none }
def shelfWiderRow : OpenClaim := { program := "ytjifalohjlihaaa", sum := "96c12164ce94af450c70f884b4837381385857c392a135bfd0d6a838e27b8214", func := "anil/anillaw06.ShelfWider", spec := "shelfWider", unfollowed := true, recurses := true, plainKeys := false, apart := false }
def ShelfWiderSaid : Prop := shelfWiderRow.holds Try.pinned (OpenSpec.ofChange shelfWiderSpec)

/-- ITS FALSE NEIGHBOUR: 'it returns false'. Refute it at one input. -/
def shelfWiderWrong : ChangeSpec := { name := "shelfWider", fn := fun _ => fun
  | [d1, d2, d3, d4, d5] => { results := [.lit (.bool false)], args := [d1, d2, d3, d4, d5] }
  | _ => none }
def ShelfWiderWrongFalsely : Prop := shelfWiderRow.holds Try.pinned (OpenSpec.ofChange shelfWiderWrong)

/-- 'anillaw06.ShelfTurned': WHATEVER THE INPUT: true; the input reads as it did. -/
def shelfTurnedSpec : ChangeSpec := { name := "shelfTurned", fn := fun _ => fun
  | [d1, d2, d3, d4] => { results := [.lit (.bool true)], args := [d1, d2, d3, d4] }
  | _ => none }
def shelfTurnedRow : OpenClaim := { program := "ytjifalohjlihaaa", sum := "96c12164ce94af450c70f884b4837381385857c392a135bfd0d6a838e27b8214", func := "anil/anillaw06.ShelfTurned", spec := "shelfTurned", unfollowed := true, recurses := true, plainKeys := false, apart := false }
def ShelfTurnedSaid : Prop := shelfTurnedRow.holds Try.pinned (OpenSpec.ofChange shelfTurnedSpec)

/-- ITS FALSE NEIGHBOUR: 'it returns false'. Refute it at one input. -/
def shelfTurnedWrong : ChangeSpec := { name := "shelfTurned", fn := fun _ => fun
  | [d1, d2, d3, d4] => { results := [.lit (.bool false)], args := [d1, d2, d3, d4] }
  | _ => none }
def ShelfTurnedWrongFalsely : Prop := shelfTurnedRow.holds Try.pinned (OpenSpec.ofChange shelfTurnedWrong)

/-- 'anillaw06.ShelfTruth': WHATEVER THE INPUT: true; the input reads as it did. -/
def shelfTruthSpec : ChangeSpec := { name := "shelfTruth", fn := fun _ => fun
  | [d1, d2, d3, d4] => { results := [.lit (.bool true)], args := [d1, d2, d3, d4] }
  | _ => none }
def shelfTruthRow : OpenClaim := { program := "ytjifalohjlihaaa", sum := "96c12164ce94af450c70f884b4837381385857c392a135bfd0d6a838e27b8214", func := "anil/anillaw06.ShelfTruth", spec := "shelfTruth", unfollowed := true, recurses := true, plainKeys := false, apart := false }
def ShelfTruthSaid : Prop := shelfTruthRow.holds Try.pinned (OpenSpec.ofChange shelfTruthSpec)

/-- ITS FALSE NEIGHBOUR: 'it returns false'. Refute it at one input. -/
def shelfTruthWrong : ChangeSpec := { name := "shelfTruth", fn := fun _ => fun
  | [d1, d2, d3, d4] => { results := [.lit (.bool false)], args := [d1, d2, d3, d4] }
  | _ => none }
def ShelfTruthWrongFalsely : Prop := shelfTruthRow.holds Try.pinned (OpenSpec.ofChange shelfTruthWrong)

/- THE SECOND FORM. 'bulk': how many values and letters a reading holds, each counted each time it is reached (what is shared counts as often as it is met; a slice's spare places count too). A statement '..UptoSaid' is the law's where the arguments, and the package variables that the reading takes, are together of bulk at most 1048576: NARROWER than '..Said'. Prove '..Said' where nothing that the law and all that it calls make is longer than what came in: it says more and counts as full. Else prove '..UptoSaid'. A law counts once. -/
mutual
def uptoBulk {H : Type} : DataW H → Nat
  | .lit (.string bytes) => bytes.length + 1
  | .lit _ => 1
  | .nil => 1
  | .ptr d => uptoBulk d + 1
  | .slice elems spare => uptoBulkAll elems + uptoBulkAll spare + 1
  | .agg parts => uptoBulkAll parts + 1
  | .iface _ d => uptoBulk d + 1
  | .map entries => uptoBulkEntries entries + 1
  | .held _ => 1
def uptoBulkAll {H : Type} : List (DataW H) → Nat
  | [] => 0
  | d :: r => uptoBulk d + uptoBulkAll r
def uptoBulkEntries {H : Type} : List (Lit × DataW H) → Nat
  | [] => 0
  | x :: r => uptoBulkEntry x + uptoBulkEntries r
def uptoBulkEntry {H : Type} : Lit × DataW H → Nat
  | (.string bytes, d) => bytes.length + uptoBulk d + 1
  | (_, d) => uptoBulk d + 1
 end
def uptoSmall : (H : Type) → List (DataW H) → Bool := fun _ ds => decide (uptoBulkAll ds ≤ 1048576)
def OpenSpec.upto (s : _root_.Go.ChangeSpec) : _root_.Go.OpenSpec := { _root_.Go.OpenSpec.ofChange s with cond := some uptoSmall }

/-- 'anillaw06.ShelfDries', WHERE WHAT IT READS IS OF BULK AT MOST 1048576: true; the input reads as it did. -/
def shelfDriesUptoRow : OpenClaim := { program := "ytjifalohjlihaaa", sum := "96c12164ce94af450c70f884b4837381385857c392a135bfd0d6a838e27b8214", func := "anil/anillaw06.ShelfDries", spec := "shelfDries", unfollowed := true, recurses := true, plainKeys := false, apart := false, narrowed := true }
def ShelfDriesUptoSaid : Prop := shelfDriesUptoRow.holds Try.pinned (OpenSpec.upto shelfDriesSpec)

/-- 'anillaw06.ShelfDays', WHERE WHAT IT READS IS OF BULK AT MOST 1048576: true; the input reads as it did. -/
def shelfDaysUptoRow : OpenClaim := { program := "ytjifalohjlihaaa", sum := "96c12164ce94af450c70f884b4837381385857c392a135bfd0d6a838e27b8214", func := "anil/anillaw06.ShelfDays", spec := "shelfDays", unfollowed := true, recurses := true, plainKeys := false, apart := false, narrowed := true }
def ShelfDaysUptoSaid : Prop := shelfDaysUptoRow.holds Try.pinned (OpenSpec.upto shelfDaysSpec)

/-- 'anillaw06.ShelfLeaves', WHERE WHAT IT READS IS OF BULK AT MOST 1048576: true; the input reads as it did. -/
def shelfLeavesUptoRow : OpenClaim := { program := "ytjifalohjlihaaa", sum := "96c12164ce94af450c70f884b4837381385857c392a135bfd0d6a838e27b8214", func := "anil/anillaw06.ShelfLeaves", spec := "shelfLeaves", unfollowed := true, recurses := true, plainKeys := false, apart := false, narrowed := true }
def ShelfLeavesUptoSaid : Prop := shelfLeavesUptoRow.holds Try.pinned (OpenSpec.upto shelfLeavesSpec)

/-- 'anillaw06.ShelfEnds', WHERE WHAT IT READS IS OF BULK AT MOST 1048576: true; the input reads as it did. -/
def shelfEndsUptoRow : OpenClaim := { program := "ytjifalohjlihaaa", sum := "96c12164ce94af450c70f884b4837381385857c392a135bfd0d6a838e27b8214", func := "anil/anillaw06.ShelfEnds", spec := "shelfEnds", unfollowed := true, recurses := true, plainKeys := false, apart := false, narrowed := true }
def ShelfEndsUptoSaid : Prop := shelfEndsUptoRow.holds Try.pinned (OpenSpec.upto shelfEndsSpec)

/-- 'anillaw06.ShelfStays', WHERE WHAT IT READS IS OF BULK AT MOST 1048576: true; the input reads as it did. -/
def shelfStaysUptoRow : OpenClaim := { program := "ytjifalohjlihaaa", sum := "96c12164ce94af450c70f884b4837381385857c392a135bfd0d6a838e27b8214", func := "anil/anillaw06.ShelfStays", spec := "shelfStays", unfollowed := true, recurses := true, plainKeys := false, apart := false, narrowed := true }
def ShelfStaysUptoSaid : Prop := shelfStaysUptoRow.holds Try.pinned (OpenSpec.upto shelfStaysSpec)

/-- 'anillaw06.ShelfDrier', WHERE WHAT IT READS IS OF BULK AT MOST 1048576: true; the input reads as it did. -/
def shelfDrierUptoRow : OpenClaim := { program := "ytjifalohjlihaaa", sum := "96c12164ce94af450c70f884b4837381385857c392a135bfd0d6a838e27b8214", func := "anil/anillaw06.ShelfDrier", spec := "shelfDrier", unfollowed := true, recurses := true, plainKeys := false, apart := false, narrowed := true }
def ShelfDrierUptoSaid : Prop := shelfDrierUptoRow.holds Try.pinned (OpenSpec.upto shelfDrierSpec)

/-- 'anillaw06.ShelfFirst', WHERE WHAT IT READS IS OF BULK AT MOST 1048576: true; the input reads as it did. -/
def shelfFirstUptoRow : OpenClaim := { program := "ytjifalohjlihaaa", sum := "96c12164ce94af450c70f884b4837381385857c392a135bfd0d6a838e27b8214", func := "anil/anillaw06.ShelfFirst", spec := "shelfFirst", unfollowed := true, recurses := true, plainKeys := false, apart := false, narrowed := true }
def ShelfFirstUptoSaid : Prop := shelfFirstUptoRow.holds Try.pinned (OpenSpec.upto shelfFirstSpec)

/-- 'anillaw06.ShelfLeft', WHERE WHAT IT READS IS OF BULK AT MOST 1048576: true; the input reads as it did. -/
def shelfLeftUptoRow : OpenClaim := { program := "ytjifalohjlihaaa", sum := "96c12164ce94af450c70f884b4837381385857c392a135bfd0d6a838e27b8214", func := "anil/anillaw06.ShelfLeft", spec := "shelfLeft", unfollowed := true, recurses := true, plainKeys := false, apart := false, narrowed := true }
def ShelfLeftUptoSaid : Prop := shelfLeftUptoRow.holds Try.pinned (OpenSpec.upto shelfLeftSpec)

/-- 'anillaw06.ShelfPlays', WHERE WHAT IT READS IS OF BULK AT MOST 1048576: true; the input reads as it did. -/
def shelfPlaysUptoRow : OpenClaim := { program := "ytjifalohjlihaaa", sum := "96c12164ce94af450c70f884b4837381385857c392a135bfd0d6a838e27b8214", func := "anil/anillaw06.ShelfPlays", spec := "shelfPlays", unfollowed := true, recurses := true, plainKeys := false, apart := false, narrowed := true }
def ShelfPlaysUptoSaid : Prop := shelfPlaysUptoRow.holds Try.pinned (OpenSpec.upto shelfPlaysSpec)

/-- 'anillaw06.ShelfNoBetter', WHERE WHAT IT READS IS OF BULK AT MOST 1048576: true; the input reads as it did. -/
def shelfNoBetterUptoRow : OpenClaim := { program := "ytjifalohjlihaaa", sum := "96c12164ce94af450c70f884b4837381385857c392a135bfd0d6a838e27b8214", func := "anil/anillaw06.ShelfNoBetter", spec := "shelfNoBetter", unfollowed := true, recurses := true, plainKeys := false, apart := false, narrowed := true }
def ShelfNoBetterUptoSaid : Prop := shelfNoBetterUptoRow.holds Try.pinned (OpenSpec.upto shelfNoBetterSpec)

/-- 'anillaw06.ShelfTill', WHERE WHAT IT READS IS OF BULK AT MOST 1048576: true; the input reads as it did. -/
def shelfTillUptoRow : OpenClaim := { program := "ytjifalohjlihaaa", sum := "96c12164ce94af450c70f884b4837381385857c392a135bfd0d6a838e27b8214", func := "anil/anillaw06.ShelfTill", spec := "shelfTill", unfollowed := true, recurses := true, plainKeys := false, apart := false, narrowed := true }
def ShelfTillUptoSaid : Prop := shelfTillUptoRow.holds Try.pinned (OpenSpec.upto shelfTillSpec)

/-- 'anillaw06.ShelfMore', WHERE WHAT IT READS IS OF BULK AT MOST 1048576: true; the input reads as it did. -/
def shelfMoreUptoRow : OpenClaim := { program := "ytjifalohjlihaaa", sum := "96c12164ce94af450c70f884b4837381385857c392a135bfd0d6a838e27b8214", func := "anil/anillaw06.ShelfMore", spec := "shelfMore", unfollowed := true, recurses := true, plainKeys := false, apart := false, narrowed := true }
def ShelfMoreUptoSaid : Prop := shelfMoreUptoRow.holds Try.pinned (OpenSpec.upto shelfMoreSpec)

/-- 'anillaw06.ShelfHeavier', WHERE WHAT IT READS IS OF BULK AT MOST 1048576: true; the input reads as it did. -/
def shelfHeavierUptoRow : OpenClaim := { program := "ytjifalohjlihaaa", sum := "96c12164ce94af450c70f884b4837381385857c392a135bfd0d6a838e27b8214", func := "anil/anillaw06.ShelfHeavier", spec := "shelfHeavier", unfollowed := true, recurses := true, plainKeys := false, apart := false, narrowed := true }
def ShelfHeavierUptoSaid : Prop := shelfHeavierUptoRow.holds Try.pinned (OpenSpec.upto shelfHeavierSpec)

/-- 'anillaw06.ShelfWider', WHERE WHAT IT READS IS OF BULK AT MOST 1048576: true; the input reads as it did. -/
def shelfWiderUptoRow : OpenClaim := { program := "ytjifalohjlihaaa", sum := "96c12164ce94af450c70f884b4837381385857c392a135bfd0d6a838e27b8214", func := "anil/anillaw06.ShelfWider", spec := "shelfWider", unfollowed := true, recurses := true, plainKeys := false, apart := false, narrowed := true }
def ShelfWiderUptoSaid : Prop := shelfWiderUptoRow.holds Try.pinned (OpenSpec.upto shelfWiderSpec)

/-- 'anillaw06.ShelfTurned', WHERE WHAT IT READS IS OF BULK AT MOST 1048576: true; the input reads as it did. -/
def shelfTurnedUptoRow : OpenClaim := { program := "ytjifalohjlihaaa", sum := "96c12164ce94af450c70f884b4837381385857c392a135bfd0d6a838e27b8214", func := "anil/anillaw06.ShelfTurned", spec := "shelfTurned", unfollowed := true, recurses := true, plainKeys := false, apart := false, narrowed := true }
def ShelfTurnedUptoSaid : Prop := shelfTurnedUptoRow.holds Try.pinned (OpenSpec.upto shelfTurnedSpec)

/-- 'anillaw06.ShelfTruth', WHERE WHAT IT READS IS OF BULK AT MOST 1048576: true; the input reads as it did. -/
def shelfTruthUptoRow : OpenClaim := { program := "ytjifalohjlihaaa", sum := "96c12164ce94af450c70f884b4837381385857c392a135bfd0d6a838e27b8214", func := "anil/anillaw06.ShelfTruth", spec := "shelfTruth", unfollowed := true, recurses := true, plainKeys := false, apart := false, narrowed := true }
def ShelfTruthUptoSaid : Prop := shelfTruthUptoRow.holds Try.pinned (OpenSpec.upto shelfTruthSpec)

end Rows
end Go.Proofs.Ytjifalohjlihaaa
