/-
  No cell of these rows narrows 'for every input' (looked for: loops, veiled, ifaces, maps, wideKeys, modest, calm, conditions, laid).
  DERIVED. THE GIVEN ROWS OF THIS SEAT. 5 by the template 'for every input the law returns true; each argument reads behind the call as it read before'; 0 by the template 'total and deterministic' (their statements: YtbpmjjbccaanfaaTotals.lean).
  GIVEN WITH THE SEED: the statements are not yours to turn. If you find one false, say at which input.
  Laid BY PROGRAM, IN A SANDBOX (cutbox-rows.mjs): the forced cells as the released guide's own fill.sh prints them over the translation fc58c76bc2a491e1… (all of the seat's roots in one cut). By AI agents, Wed Nov 11 2026. No macro, syntax, notation, axiom, sorry.
-/
import Derived.Test.YtbpmjjbccaanfaaChecked
import GoSem.Claim
import GoSem.ClaimJoined
import GoSem.ClaimMapViews
import Derived.JoinedTies
import Derived.KernelRfl
namespace Go.Proofs.Ytbpmjjbccaanfaa
/- THE CELL 'sum', in the pinned program and in every row, IS THE sha256 OF THE DUMP (.gsa) THAT YtbpmjjbccaanfaaProg.lean LOADS. Nothing in Lean hashes anything: it is a label: what it is worth is what the hold of that sum in a sandbox is worth. -/
noncomputable def Try.pinned : Pinned := { name := "ytbpmjjbccaanfaa", sum := "fc58c76bc2a491e119bdd1bbe9d3b206e97347472a87640fbd79d58c3d3999c3", checked := Try.checked }
namespace Rows
def none {H : Type} : Left H := { results := [], args := [] }

/-- 'horologelaw28.HeadBack': WHATEVER THE INPUT: true; the input reads as it did. -/
def headBackSpec : ChangeSpec := { name := "headBack", fn := fun _ => fun
  | [d1, d2, d3] => { results := [.lit (.bool true)], args := [d1, d2, d3] }
  | _ => none }
def headBackRow : OpenClaim := { program := "ytbpmjjbccaanfaa", sum := "fc58c76bc2a491e119bdd1bbe9d3b206e97347472a87640fbd79d58c3d3999c3", func := "horologe/horologelaw28.HeadBack", spec := "headBack", unfollowed := true, recurses := true, apart := false }
def HeadBackSaid : Prop := headBackRow.holds Try.pinned (OpenSpec.ofChange headBackSpec)

/-- ITS FALSE NEIGHBOUR: 'it returns false'. Refute it at one input. -/
def headBackWrong : ChangeSpec := { name := "headBack", fn := fun _ => fun
  | [d1, d2, d3] => { results := [.lit (.bool false)], args := [d1, d2, d3] }
  | _ => none }
def HeadBackWrongFalsely : Prop := headBackRow.holds Try.pinned (OpenSpec.ofChange headBackWrong)

/-- 'horologelaw10.LeapTables': WHATEVER THE INPUT: true; the input reads as it did. -/
def leapTablesSpec : ChangeSpec := { name := "leapTables", fn := fun _ => fun
  | [d1, d2] => { results := [.lit (.bool true)], args := [d1, d2] }
  | _ => none }
def leapTablesRow : OpenClaim := { program := "ytbpmjjbccaanfaa", sum := "fc58c76bc2a491e119bdd1bbe9d3b206e97347472a87640fbd79d58c3d3999c3", func := "horologe/horologelaw10.LeapTables", spec := "leapTables", unfollowed := true, recurses := true, apart := false }
def LeapTablesSaid : Prop := leapTablesRow.holds Try.pinned (OpenSpec.ofChange leapTablesSpec)

/-- ITS FALSE NEIGHBOUR: 'it returns false'. Refute it at one input. -/
def leapTablesWrong : ChangeSpec := { name := "leapTables", fn := fun _ => fun
  | [d1, d2] => { results := [.lit (.bool false)], args := [d1, d2] }
  | _ => none }
def LeapTablesWrongFalsely : Prop := leapTablesRow.holds Try.pinned (OpenSpec.ofChange leapTablesWrong)

/-- 'horologelaw28.HeadParses': WHATEVER THE INPUT: true; the input reads as it did. -/
def headParsesSpec : ChangeSpec := { name := "headParses", fn := fun _ => fun
  | [d1, d2] => { results := [.lit (.bool true)], args := [d1, d2] }
  | _ => none }
def headParsesRow : OpenClaim := { program := "ytbpmjjbccaanfaa", sum := "fc58c76bc2a491e119bdd1bbe9d3b206e97347472a87640fbd79d58c3d3999c3", func := "horologe/horologelaw28.HeadParses", spec := "headParses", unfollowed := true, recurses := true, apart := false }
def HeadParsesSaid : Prop := headParsesRow.holds Try.pinned (OpenSpec.ofChange headParsesSpec)

/-- ITS FALSE NEIGHBOUR: 'it returns false'. Refute it at one input. -/
def headParsesWrong : ChangeSpec := { name := "headParses", fn := fun _ => fun
  | [d1, d2] => { results := [.lit (.bool false)], args := [d1, d2] }
  | _ => none }
def HeadParsesWrongFalsely : Prop := headParsesRow.holds Try.pinned (OpenSpec.ofChange headParsesWrong)

/-- 'horologelaw27.WordNears': WHATEVER THE INPUT: true; the input reads as it did. -/
def wordNearsSpec : ChangeSpec := { name := "wordNears", fn := fun _ => fun
  | [d1, d2] => { results := [.lit (.bool true)], args := [d1, d2] }
  | _ => none }
def wordNearsRow : OpenClaim := { program := "ytbpmjjbccaanfaa", sum := "fc58c76bc2a491e119bdd1bbe9d3b206e97347472a87640fbd79d58c3d3999c3", func := "horologe/horologelaw27.WordNears", spec := "wordNears", apart := false }
def WordNearsSaid : Prop := wordNearsRow.holds Try.pinned (OpenSpec.ofChange wordNearsSpec)

/-- ITS FALSE NEIGHBOUR: 'it returns false'. Refute it at one input. -/
def wordNearsWrong : ChangeSpec := { name := "wordNears", fn := fun _ => fun
  | [d1, d2] => { results := [.lit (.bool false)], args := [d1, d2] }
  | _ => none }
def WordNearsWrongFalsely : Prop := wordNearsRow.holds Try.pinned (OpenSpec.ofChange wordNearsWrong)

/-- 'horologelaw37.AnswerAsks': WHATEVER THE INPUT: true; the input reads as it did. -/
def answerAsksSpec : ChangeSpec := { name := "answerAsks", fn := fun _ => fun
  | [d1, d2, d3] => { results := [.lit (.bool true)], args := [d1, d2, d3] }
  | _ => none }
def answerAsksRow : OpenClaim := { program := "ytbpmjjbccaanfaa", sum := "fc58c76bc2a491e119bdd1bbe9d3b206e97347472a87640fbd79d58c3d3999c3", func := "horologe/horologelaw37.AnswerAsks", spec := "answerAsks", unfollowed := true, recurses := true, apart := false }
def AnswerAsksSaid : Prop := answerAsksRow.holds Try.pinned (OpenSpec.ofChange answerAsksSpec)

/-- ITS FALSE NEIGHBOUR: 'it returns false'. Refute it at one input. -/
def answerAsksWrong : ChangeSpec := { name := "answerAsks", fn := fun _ => fun
  | [d1, d2, d3] => { results := [.lit (.bool false)], args := [d1, d2, d3] }
  | _ => none }
def AnswerAsksWrongFalsely : Prop := answerAsksRow.holds Try.pinned (OpenSpec.ofChange answerAsksWrong)

/- THE SECOND FORM. 'bulk': how many values and letters a reading holds, each counted each time it is reached (what is shared counts as often as it is met; a slice's spare places count too). A statement '..UptoSaid' is the law's where the arguments, and the package variables that the reading takes, are together of bulk at most 1048576: NARROWER than '..Said'. Prove '..Said' where nothing that the law and all that it calls make is longer than what came in: it says more and counts as full. Else prove '..UptoSaid'. A law counts once. -/
mutual
def uptoBulk {H : Type} : DataW H → Nat
  | .lit (.string bytes) => bytes.length + 1
  | .lit _ => 1
  | .nil => 1
  | .ptr d => uptoBulk d + 1
  | .slice elems spare => uptoBulkAll elems + uptoBulkAll spare + 1
  | .agg parts => uptoBulkAll parts + 1
  | .iface _ d => uptoBulk d + 1
  | .map entries => uptoBulkEntries entries + 1
  | .held _ => 1
def uptoBulkAll {H : Type} : List (DataW H) → Nat
  | [] => 0
  | d :: r => uptoBulk d + uptoBulkAll r
def uptoBulkEntries {H : Type} : List (Lit × DataW H) → Nat
  | [] => 0
  | x :: r => uptoBulkEntry x + uptoBulkEntries r
def uptoBulkEntry {H : Type} : Lit × DataW H → Nat
  | (.string bytes, d) => bytes.length + uptoBulk d + 1
  | (_, d) => uptoBulk d + 1
 end
def uptoSmall : (H : Type) → List (DataW H) → Bool := fun _ ds => decide (uptoBulkAll ds ≤ 1048576)
def OpenSpec.upto (s : _root_.Go.ChangeSpec) : _root_.Go.OpenSpec := { _root_.Go.OpenSpec.ofChange s with cond := some uptoSmall }

/-- 'horologelaw28.HeadBack', WHERE WHAT IT READS IS OF BULK AT MOST 1048576: true; the input reads as it did. -/
def headBackUptoRow : OpenClaim := { program := "ytbpmjjbccaanfaa", sum := "fc58c76bc2a491e119bdd1bbe9d3b206e97347472a87640fbd79d58c3d3999c3", func := "horologe/horologelaw28.HeadBack", spec := "headBack", unfollowed := true, recurses := true, apart := false, narrowed := true }
def HeadBackUptoSaid : Prop := headBackUptoRow.holds Try.pinned (OpenSpec.upto headBackSpec)

/-- 'horologelaw10.LeapTables', WHERE WHAT IT READS IS OF BULK AT MOST 1048576: true; the input reads as it did. -/
def leapTablesUptoRow : OpenClaim := { program := "ytbpmjjbccaanfaa", sum := "fc58c76bc2a491e119bdd1bbe9d3b206e97347472a87640fbd79d58c3d3999c3", func := "horologe/horologelaw10.LeapTables", spec := "leapTables", unfollowed := true, recurses := true, apart := false, narrowed := true }
def LeapTablesUptoSaid : Prop := leapTablesUptoRow.holds Try.pinned (OpenSpec.upto leapTablesSpec)

/-- 'horologelaw28.HeadParses', WHERE WHAT IT READS IS OF BULK AT MOST 1048576: true; the input reads as it did. -/
def headParsesUptoRow : OpenClaim := { program := "ytbpmjjbccaanfaa", sum := "fc58c76bc2a491e119bdd1bbe9d3b206e97347472a87640fbd79d58c3d3999c3", func := "horologe/horologelaw28.HeadParses", spec := "headParses", unfollowed := true, recurses := true, apart := false, narrowed := true }
def HeadParsesUptoSaid : Prop := headParsesUptoRow.holds Try.pinned (OpenSpec.upto headParsesSpec)

/-- 'horologelaw27.WordNears', WHERE WHAT IT READS IS OF BULK AT MOST 1048576: true; the input reads as it did. -/
def wordNearsUptoRow : OpenClaim := { program := "ytbpmjjbccaanfaa", sum := "fc58c76bc2a491e119bdd1bbe9d3b206e97347472a87640fbd79d58c3d3999c3", func := "horologe/horologelaw27.WordNears", spec := "wordNears", apart := false, narrowed := true }
def WordNearsUptoSaid : Prop := wordNearsUptoRow.holds Try.pinned (OpenSpec.upto wordNearsSpec)

/-- 'horologelaw37.AnswerAsks', WHERE WHAT IT READS IS OF BULK AT MOST 1048576: true; the input reads as it did. -/
def answerAsksUptoRow : OpenClaim := { program := "ytbpmjjbccaanfaa", sum := "fc58c76bc2a491e119bdd1bbe9d3b206e97347472a87640fbd79d58c3d3999c3", func := "horologe/horologelaw37.AnswerAsks", spec := "answerAsks", unfollowed := true, recurses := true, apart := false, narrowed := true }
def AnswerAsksUptoSaid : Prop := answerAsksUptoRow.holds Try.pinned (OpenSpec.upto answerAsksSpec)

end Rows
end Go.Proofs.Ytbpmjjbccaanfaa
