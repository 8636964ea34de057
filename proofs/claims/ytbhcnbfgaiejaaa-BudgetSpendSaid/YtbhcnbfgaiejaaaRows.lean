/-
  No cell of these rows narrows 'for every input' (looked for: loops, veiled, ifaces, maps, wideKeys, modest, calm, conditions, laid).
  DERIVED. THE GIVEN ROWS OF THIS SEAT. 6 by the template 'for every input the law returns true; each argument reads behind the call as it read before'; 0 by the template 'total and deterministic' (their statements: YtbhcnbfgaiejaaaTotals.lean).
  GIVEN WITH THE SEED: the statements are not yours to turn. If you find one false, say at which input.
  Laid BY PROGRAM, IN A SANDBOX (cutbox-rows.mjs): the forced cells as the released guide's own fill.sh prints them over the translation c3350d7ca65c9743… (all of the seat's roots in one cut). By AI agents, Wed Nov 11 2026. No macro, syntax, notation, axiom, sorry.
-/
import Derived.Test.YtbhcnbfgaiejaaaChecked
import GoSem.Claim
import GoSem.ClaimJoined
import GoSem.ClaimMapViews
import Derived.JoinedTies
import Derived.KernelRfl
namespace Go.Proofs.Ytbhcnbfgaiejaaa
/- THE CELL 'sum', in the pinned program and in every row, IS THE sha256 OF THE DUMP (.gsa) THAT YtbhcnbfgaiejaaaProg.lean LOADS. Nothing in Lean hashes anything: it is a label: what it is worth is what the hold of that sum in a sandbox is worth. -/
noncomputable def Try.pinned : Pinned := { name := "ytbhcnbfgaiejaaa", sum := "c3350d7ca65c9743b200e1d24635592ad89738f42963aa3f114e0e653ed31ec7", checked := Try.checked }
namespace Rows
def none {H : Type} : Left H := { results := [], args := [] }

/-- 'intervalmonlaw17.BudgetOrder': WHATEVER THE INPUT: true; the input reads as it did. -/
def budgetOrderSpec : ChangeSpec := { name := "budgetOrder", fn := fun _ => fun
  | [d1, d2, d3] => { results := [.lit (.bool true)], args := [d1, d2, d3] }
  | _ => none }
def budgetOrderRow : OpenClaim := { program := "ytbhcnbfgaiejaaa", sum := "c3350d7ca65c9743b200e1d24635592ad89738f42963aa3f114e0e653ed31ec7", func := "intervalmon/intervalmonlaw17.BudgetOrder", spec := "budgetOrder", apart := false }
def BudgetOrderSaid : Prop := budgetOrderRow.holds Try.pinned (OpenSpec.ofChange budgetOrderSpec)

/-- ITS FALSE NEIGHBOUR: 'it returns false'. Refute it at one input. -/
def budgetOrderWrong : ChangeSpec := { name := "budgetOrder", fn := fun _ => fun
  | [d1, d2, d3] => { results := [.lit (.bool false)], args := [d1, d2, d3] }
  | _ => none }
def BudgetOrderWrongFalsely : Prop := budgetOrderRow.holds Try.pinned (OpenSpec.ofChange budgetOrderWrong)

/-- 'intervalmonlaw17.BudgetNew': WHATEVER THE INPUT: true; the input reads as it did. -/
def budgetNewSpec : ChangeSpec := { name := "budgetNew", fn := fun _ => fun
  | [d] => { results := [.lit (.bool true)], args := [d] }
  | _ => none }
def budgetNewRow : OpenClaim := { program := "ytbhcnbfgaiejaaa", sum := "c3350d7ca65c9743b200e1d24635592ad89738f42963aa3f114e0e653ed31ec7", func := "intervalmon/intervalmonlaw17.BudgetNew", spec := "budgetNew", apart := false }
def BudgetNewSaid : Prop := budgetNewRow.holds Try.pinned (OpenSpec.ofChange budgetNewSpec)

/-- ITS FALSE NEIGHBOUR: 'it returns false'. Refute it at one input. -/
def budgetNewWrong : ChangeSpec := { name := "budgetNew", fn := fun _ => fun
  | [d] => { results := [.lit (.bool false)], args := [d] }
  | _ => none }
def BudgetNewWrongFalsely : Prop := budgetNewRow.holds Try.pinned (OpenSpec.ofChange budgetNewWrong)

/-- 'intervalmonlaw17.BudgetSpend': WHATEVER THE INPUT: true; the input reads as it did. -/
def budgetSpendSpec : ChangeSpec := { name := "budgetSpend", fn := fun _ => fun
  | [d1, d2, d3] => { results := [.lit (.bool true)], args := [d1, d2, d3] }
  | _ => none }
def budgetSpendRow : OpenClaim := { program := "ytbhcnbfgaiejaaa", sum := "c3350d7ca65c9743b200e1d24635592ad89738f42963aa3f114e0e653ed31ec7", func := "intervalmon/intervalmonlaw17.BudgetSpend", spec := "budgetSpend", apart := false }
def BudgetSpendSaid : Prop := budgetSpendRow.holds Try.pinned (OpenSpec.ofChange budgetSpendSpec)

/-- ITS FALSE NEIGHBOUR: 'it returns false'. Refute it at one input. -/
def budgetSpendWrong : ChangeSpec := { name := "budgetSpend", fn := fun _ => fun
  | [d1, d2, d3] => { results := [.lit (.bool false)], args := [d1, d2, d3] }
  | _ => none }
def BudgetSpendWrongFalsely : Prop := budgetSpendRow.holds Try.pinned (OpenSpec.ofChange budgetSpendWrong)

/-- 'intervalmonlaw17.BudgetOwn': WHATEVER THE INPUT: true; the input reads as it did. -/
def budgetOwnSpec : ChangeSpec := { name := "budgetOwn", fn := fun _ => fun
  | [d1, d2] => { results := [.lit (.bool true)], args := [d1, d2] }
  | _ => none }
def budgetOwnRow : OpenClaim := { program := "ytbhcnbfgaiejaaa", sum := "c3350d7ca65c9743b200e1d24635592ad89738f42963aa3f114e0e653ed31ec7", func := "intervalmon/intervalmonlaw17.BudgetOwn", spec := "budgetOwn", apart := false }
def BudgetOwnSaid : Prop := budgetOwnRow.holds Try.pinned (OpenSpec.ofChange budgetOwnSpec)

/-- ITS FALSE NEIGHBOUR: 'it returns false'. Refute it at one input. -/
def budgetOwnWrong : ChangeSpec := { name := "budgetOwn", fn := fun _ => fun
  | [d1, d2] => { results := [.lit (.bool false)], args := [d1, d2] }
  | _ => none }
def BudgetOwnWrongFalsely : Prop := budgetOwnRow.holds Try.pinned (OpenSpec.ofChange budgetOwnWrong)

/-- 'intervalmonlaw17.BudgetBytes': WHATEVER THE INPUT: true; the input reads as it did. -/
def budgetBytesSpec : ChangeSpec := { name := "budgetBytes", fn := fun _ => fun
  | [d1, d2, d3, d4] => { results := [.lit (.bool true)], args := [d1, d2, d3, d4] }
  | _ => none }
def budgetBytesRow : OpenClaim := { program := "ytbhcnbfgaiejaaa", sum := "c3350d7ca65c9743b200e1d24635592ad89738f42963aa3f114e0e653ed31ec7", func := "intervalmon/intervalmonlaw17.BudgetBytes", spec := "budgetBytes", unfollowed := true, recurses := true, apart := false }
def BudgetBytesSaid : Prop := budgetBytesRow.holds Try.pinned (OpenSpec.ofChange budgetBytesSpec)

/-- ITS FALSE NEIGHBOUR: 'it returns false'. Refute it at one input. -/
def budgetBytesWrong : ChangeSpec := { name := "budgetBytes", fn := fun _ => fun
  | [d1, d2, d3, d4] => { results := [.lit (.bool false)], args := [d1, d2, d3, d4] }
  | _ => none }
def BudgetBytesWrongFalsely : Prop := budgetBytesRow.holds Try.pinned (OpenSpec.ofChange budgetBytesWrong)

/-- 'intervalmonlaw17.BudgetForms': WHATEVER THE INPUT: true; the input reads as it did. -/
def budgetFormsSpec : ChangeSpec := { name := "budgetForms", fn := fun _ => fun
  | [d1, d2, d3, d4, d5] => { results := [.lit (.bool true)], args := [d1, d2, d3, d4, d5] }
  | _ => none }
def budgetFormsRow : OpenClaim := { program := "ytbhcnbfgaiejaaa", sum := "c3350d7ca65c9743b200e1d24635592ad89738f42963aa3f114e0e653ed31ec7", func := "intervalmon/intervalmonlaw17.BudgetForms", spec := "budgetForms", unfollowed := true, recurses := true, apart := false }
def BudgetFormsSaid : Prop := budgetFormsRow.holds Try.pinned (OpenSpec.ofChange budgetFormsSpec)

/-- ITS FALSE NEIGHBOUR: 'it returns false'. Refute it at one input. -/
def budgetFormsWrong : ChangeSpec := { name := "budgetForms", fn := fun _ => fun
  | [d1, d2, d3, d4, d5] => { results := [.lit (.bool false)], args := [d1, d2, d3, d4, d5] }
  | _ => none }
def BudgetFormsWrongFalsely : Prop := budgetFormsRow.holds Try.pinned (OpenSpec.ofChange budgetFormsWrong)

/- THE SECOND FORM. 'bulk': how many values and letters a reading holds, each counted each time it is reached (what is shared counts as often as it is met; a slice's spare places count too). A statement '..UptoSaid' is the law's where the arguments, and the package variables that the reading takes, are together of bulk at most 1048576: NARROWER than '..Said'. Prove '..Said' where nothing that the law and all that it calls make is longer than what came in: it says more and counts as full. Else prove '..UptoSaid'. A law counts once. -/
mutual
def uptoBulk {H : Type} : DataW H → Nat
  | .lit (.string bytes) => bytes.length + 1
  | .lit _ => 1
  | .nil => 1
  | .ptr d => uptoBulk d + 1
  | .slice elems spare => uptoBulkAll elems + uptoBulkAll spare + 1
  | .agg parts => uptoBulkAll parts + 1
  | .iface _ d => uptoBulk d + 1
  | .map entries => uptoBulkEntries entries + 1
  | .held _ => 1
def uptoBulkAll {H : Type} : List (DataW H) → Nat
  | [] => 0
  | d :: r => uptoBulk d + uptoBulkAll r
def uptoBulkEntries {H : Type} : List (Lit × DataW H) → Nat
  | [] => 0
  | x :: r => uptoBulkEntry x + uptoBulkEntries r
def uptoBulkEntry {H : Type} : Lit × DataW H → Nat
  | (.string bytes, d) => bytes.length + uptoBulk d + 1
  | (_, d) => uptoBulk d + 1
 end
def uptoSmall : (H : Type) → List (DataW H) → Bool := fun _ ds => decide (uptoBulkAll ds ≤ 1048576)
def OpenSpec.upto (s : _root_.Go.ChangeSpec) : _root_.Go.OpenSpec := { _root_.Go.OpenSpec.ofChange s with cond := some uptoSmall }

/-- 'intervalmonlaw17.BudgetOrder', WHERE WHAT IT READS IS OF BULK AT MOST 1048576: true; the input reads as it did. -/
def budgetOrderUptoRow : OpenClaim := { program := "ytbhcnbfgaiejaaa", sum := "c3350d7ca65c9743b200e1d24635592ad89738f42963aa3f114e0e653ed31ec7", func := "intervalmon/intervalmonlaw17.BudgetOrder", spec := "budgetOrder", apart := false, narrowed := true }
def BudgetOrderUptoSaid : Prop := budgetOrderUptoRow.holds Try.pinned (OpenSpec.upto budgetOrderSpec)

/-- 'intervalmonlaw17.BudgetNew', WHERE WHAT IT READS IS OF BULK AT MOST 1048576: true; the input reads as it did. -/
def budgetNewUptoRow : OpenClaim := { program := "ytbhcnbfgaiejaaa", sum := "c3350d7ca65c9743b200e1d24635592ad89738f42963aa3f114e0e653ed31ec7", func := "intervalmon/intervalmonlaw17.BudgetNew", spec := "budgetNew", apart := false, narrowed := true }
def BudgetNewUptoSaid : Prop := budgetNewUptoRow.holds Try.pinned (OpenSpec.upto budgetNewSpec)

/-- 'intervalmonlaw17.BudgetSpend', WHERE WHAT IT READS IS OF BULK AT MOST 1048576: true; the input reads as it did. -/
def budgetSpendUptoRow : OpenClaim := { program := "ytbhcnbfgaiejaaa", sum := "c3350d7ca65c9743b200e1d24635592ad89738f42963aa3f114e0e653ed31ec7", func := "intervalmon/intervalmonlaw17.BudgetSpend", spec := "budgetSpend", apart := false, narrowed := true }
def BudgetSpendUptoSaid : Prop := budgetSpendUptoRow.holds Try.pinned (OpenSpec.upto budgetSpendSpec)

/-- 'intervalmonlaw17.BudgetOwn', WHERE WHAT IT READS IS OF BULK AT MOST 1048576: true; the input reads as it did. -/
def budgetOwnUptoRow : OpenClaim := { program := "ytbhcnbfgaiejaaa", sum := "c3350d7ca65c9743b200e1d24635592ad89738f42963aa3f114e0e653ed31ec7", func := "intervalmon/intervalmonlaw17.BudgetOwn", spec := "budgetOwn", apart := false, narrowed := true }
def BudgetOwnUptoSaid : Prop := budgetOwnUptoRow.holds Try.pinned (OpenSpec.upto budgetOwnSpec)

/-- 'intervalmonlaw17.BudgetBytes', WHERE WHAT IT READS IS OF BULK AT MOST 1048576: true; the input reads as it did. -/
def budgetBytesUptoRow : OpenClaim := { program := "ytbhcnbfgaiejaaa", sum := "c3350d7ca65c9743b200e1d24635592ad89738f42963aa3f114e0e653ed31ec7", func := "intervalmon/intervalmonlaw17.BudgetBytes", spec := "budgetBytes", unfollowed := true, recurses := true, apart := false, narrowed := true }
def BudgetBytesUptoSaid : Prop := budgetBytesUptoRow.holds Try.pinned (OpenSpec.upto budgetBytesSpec)

/-- 'intervalmonlaw17.BudgetForms', WHERE WHAT IT READS IS OF BULK AT MOST 1048576: true; the input reads as it did. -/
def budgetFormsUptoRow : OpenClaim := { program := "ytbhcnbfgaiejaaa", sum := "c3350d7ca65c9743b200e1d24635592ad89738f42963aa3f114e0e653ed31ec7", func := "intervalmon/intervalmonlaw17.BudgetForms", spec := "budgetForms", unfollowed := true, recurses := true, apart := false, narrowed := true }
def BudgetFormsUptoSaid : Prop := budgetFormsUptoRow.holds Try.pinned (OpenSpec.upto budgetFormsSpec)

end Rows
end Go.Proofs.Ytbhcnbfgaiejaaa
