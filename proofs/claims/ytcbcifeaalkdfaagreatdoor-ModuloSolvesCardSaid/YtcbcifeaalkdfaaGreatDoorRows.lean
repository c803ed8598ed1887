/-
  NARROWER THAN 'FOR EVERY INPUT', by the rows' own cells (each row's printed sentence says how): ModuloEvals: laid · ModuloSteps: laid · ModuloSolves: laid · ModuloLeast: laid · ModuloGrows: laid · ModuloTells: laid · ModuloOrders: laid.
  DERIVED. THE GIVEN ROWS OF THIS SEAT. 7 by the template 'for every input the law returns true; each argument reads behind the call as it read before'; 0 by the template 'total and deterministic' (their statements: YtcbcifeaalkdfaaGreatDoorTotals.lean).
  GIVEN WITH THE SEED: the statements are not yours to turn. If you find one false, say at which input.
  Laid BY PROGRAM, IN A SANDBOX (cutbox-rows.mjs): the forced cells as the released guide's own fill.sh prints them over the translation 24d11732f1d58293… (all of the seat's roots in one cut). By AI agents, Wed Nov 11 2026. No macro, syntax, notation, axiom, sorry.
-/
import Derived.Test.YtcbcifeaalkdfaaGreatDoorChecked
import GoSem.Claim
import GoSem.ClaimJoined
import GoSem.ClaimMapViews
import Derived.JoinedTies
import Derived.KernelRfl
namespace Go.Proofs.YtcbcifeaalkdfaaGreatDoor
/- THE CELL 'sum', in the pinned program and in every row, IS THE sha256 OF THE DUMP (.gsa) THAT YtcbcifeaalkdfaaGreatDoorProg.lean LOADS. Nothing in Lean hashes anything: it is a label: what it is worth is what the hold of that sum in a sandbox is worth. -/
noncomputable def Tryz.pinned : Pinned := { name := "ytcbcifeaalkdfaagreatdoor", sum := "24d11732f1d58293c1a17d433f1e319a0da961d1061d936f36f4e4d98d86325b", checked := Tryz.checked }
namespace Rows
def none {H : Type} : Left H := { results := [], args := [] }

/- WHAT THE LISTED PACKAGE-LEVEL VARIABLES READ AS WHEN THE CALL BEGINS. Each datum BY PROGRAM (the guide's laid-datum.mjs) off the statement by which the dump's own 'gosem.cut.vars' lays the variable. In a bare row this is a premise. The card (YtcbcifeaalkdfaaGreatDoorCards.lean) ties it to the program's text. -/
def laid_math_bits_deBruijn32tab {H : Type} : DataW H := .agg [.lit (.int .u8 0), .lit (.int .u8 1), .lit (.int .u8 28), .lit (.int .u8 2), .lit (.int .u8 29), .lit (.int .u8 14), .lit (.int .u8 24), .lit (.int .u8 3), .lit (.int .u8 30), .lit (.int .u8 22), .lit (.int .u8 20), .lit (.int .u8 15), .lit (.int .u8 25), .lit (.int .u8 17), .lit (.int .u8 4), .lit (.int .u8 8), .lit (.int .u8 31), .lit (.int .u8 27), .lit (.int .u8 13), .lit (.int .u8 23), .lit (.int .u8 21), .lit (.int .u8 19), .lit (.int .u8 16), .lit (.int .u8 7), .lit (.int .u8 26), .lit (.int .u8 12), .lit (.int .u8 18), .lit (.int .u8 6), .lit (.int .u8 11), .lit (.int .u8 5), .lit (.int .u8 10), .lit (.int .u8 9)]
def laid_math_bits_deBruijn64tab {H : Type} : DataW H := .agg [.lit (.int .u8 0), .lit (.int .u8 1), .lit (.int .u8 56), .lit (.int .u8 2), .lit (.int .u8 57), .lit (.int .u8 49), .lit (.int .u8 28), .lit (.int .u8 3), .lit (.int .u8 61), .lit (.int .u8 58), .lit (.int .u8 42), .lit (.int .u8 50), .lit (.int .u8 38), .lit (.int .u8 29), .lit (.int .u8 17), .lit (.int .u8 4), .lit (.int .u8 62), .lit (.int .u8 47), .lit (.int .u8 59), .lit (.int .u8 36), .lit (.int .u8 45), .lit (.int .u8 43), .lit (.int .u8 51), .lit (.int .u8 22), .lit (.int .u8 53), .lit (.int .u8 39), .lit (.int .u8 33), .lit (.int .u8 30), .lit (.int .u8 24), .lit (.int .u8 18), .lit (.int .u8 12), .lit (.int .u8 5), .lit (.int .u8 63), .lit (.int .u8 55), .lit (.int .u8 48), .lit (.int .u8 27), .lit (.int .u8 60), .lit (.int .u8 41), .lit (.int .u8 37), .lit (.int .u8 16), .lit (.int .u8 46), .lit (.int .u8 35), .lit (.int .u8 44), .lit (.int .u8 21), .lit (.int .u8 52), .lit (.int .u8 32), .lit (.int .u8 23), .lit (.int .u8 11), .lit (.int .u8 54), .lit (.int .u8 26), .lit (.int .u8 40), .lit (.int .u8 15), .lit (.int .u8 34), .lit (.int .u8 20), .lit (.int .u8 31), .lit (.int .u8 10), .lit (.int .u8 25), .lit (.int .u8 14), .lit (.int .u8 19), .lit (.int .u8 9), .lit (.int .u8 13), .lit (.int .u8 8), .lit (.int .u8 7), .lit (.int .u8 6)]
def laid_internal_strconv_uint64pow10 {H : Type} : DataW H := .agg [.lit (.int .u64 1), .lit (.int .u64 10), .lit (.int .u64 100), .lit (.int .u64 1000), .lit (.int .u64 10000), .lit (.int .u64 100000), .lit (.int .u64 1000000), .lit (.int .u64 10000000), .lit (.int .u64 100000000), .lit (.int .u64 1000000000), .lit (.int .u64 10000000000), .lit (.int .u64 100000000000), .lit (.int .u64 1000000000000), .lit (.int .u64 10000000000000), .lit (.int .u64 100000000000000), .lit (.int .u64 1000000000000000), .lit (.int .u64 10000000000000000), .lit (.int .u64 100000000000000000), .lit (.int .u64 1000000000000000000), .lit (.int .u64 10000000000000000000)]
def laid_gimbal_bound_ends {H : Type} : DataW H := .agg [.lit (.string [105, 110, 102]), .lit (.string [45, 105, 110, 102])]

/-- 'gimballaw32.ModuloEvals': WHATEVER THE INPUT: true; the input reads as it did. -/
def moduloEvalsSpec : ChangeSpec := { name := "moduloEvals", fn := fun _ => fun
  | [d1, d2] => { results := [.lit (.bool true)], args := [d1, d2] }
  | _ => none }
def moduloEvalsRow : OpenClaim := { program := "ytcbcifeaalkdfaagreatdoor", sum := "24d11732f1d58293c1a17d433f1e319a0da961d1061d936f36f4e4d98d86325b", func := "gimbal/gimballaw32.ModuloEvals", spec := "moduloEvals", inPlace := ["internal/abi.NoEscape"], unfollowed := true, recurses := true, named := ["math/bits.divideError", "math/bits.overflowError", "gimbal/bound.ends", "internal/strconv.uint64pow10", "math/bits.deBruijn32tab", "math/bits.deBruijn64tab"], apart := false, laid := [("math/bits.deBruijn32tab", laid_math_bits_deBruijn32tab), ("math/bits.deBruijn64tab", laid_math_bits_deBruijn64tab), ("internal/strconv.uint64pow10", laid_internal_strconv_uint64pow10), ("gimbal/bound.ends", laid_gimbal_bound_ends)] }
def ModuloEvalsSaid : Prop := moduloEvalsRow.holds Tryz.pinned (OpenSpec.ofChange moduloEvalsSpec)

/-- ITS FALSE NEIGHBOUR: 'it returns false'. Refute it at one input. -/
def moduloEvalsWrong : ChangeSpec := { name := "moduloEvals", fn := fun _ => fun
  | [d1, d2] => { results := [.lit (.bool false)], args := [d1, d2] }
  | _ => none }
def ModuloEvalsWrongFalsely : Prop := moduloEvalsRow.holds Tryz.pinned (OpenSpec.ofChange moduloEvalsWrong)

/-- 'gimballaw32.ModuloSteps': WHATEVER THE INPUT: true; the input reads as it did. -/
def moduloStepsSpec : ChangeSpec := { name := "moduloSteps", fn := fun _ => fun
  | [d1, d2, d3, d4] => { results := [.lit (.bool true)], args := [d1, d2, d3, d4] }
  | _ => none }
def moduloStepsRow : OpenClaim := { program := "ytcbcifeaalkdfaagreatdoor", sum := "24d11732f1d58293c1a17d433f1e319a0da961d1061d936f36f4e4d98d86325b", func := "gimbal/gimballaw32.ModuloSteps", spec := "moduloSteps", inPlace := ["internal/abi.NoEscape"], unfollowed := true, recurses := true, named := ["math/bits.divideError", "math/bits.overflowError", "gimbal/bound.ends", "internal/strconv.uint64pow10", "math/bits.deBruijn32tab", "math/bits.deBruijn64tab"], apart := false, laid := [("math/bits.deBruijn32tab", laid_math_bits_deBruijn32tab), ("math/bits.deBruijn64tab", laid_math_bits_deBruijn64tab), ("internal/strconv.uint64pow10", laid_internal_strconv_uint64pow10), ("gimbal/bound.ends", laid_gimbal_bound_ends)] }
def ModuloStepsSaid : Prop := moduloStepsRow.holds Tryz.pinned (OpenSpec.ofChange moduloStepsSpec)

/-- ITS FALSE NEIGHBOUR: 'it returns false'. Refute it at one input. -/
def moduloStepsWrong : ChangeSpec := { name := "moduloSteps", fn := fun _ => fun
  | [d1, d2, d3, d4] => { results := [.lit (.bool false)], args := [d1, d2, d3, d4] }
  | _ => none }
def ModuloStepsWrongFalsely : Prop := moduloStepsRow.holds Tryz.pinned (OpenSpec.ofChange moduloStepsWrong)

/-- 'gimballaw32.ModuloSolves': WHATEVER THE INPUT: true; the input reads as it did. -/
def moduloSolvesSpec : ChangeSpec := { name := "moduloSolves", fn := fun _ => fun
  | [d1, d2] => { results := [.lit (.bool true)], args := [d1, d2] }
  | _ => none }
def moduloSolvesRow : OpenClaim := { program := "ytcbcifeaalkdfaagreatdoor", sum := "24d11732f1d58293c1a17d433f1e319a0da961d1061d936f36f4e4d98d86325b", func := "gimbal/gimballaw32.ModuloSolves", spec := "moduloSolves", inPlace := ["internal/abi.NoEscape"], unfollowed := true, recurses := true, named := ["math/bits.divideError", "math/bits.overflowError", "gimbal/bound.ends", "internal/strconv.uint64pow10", "math/bits.deBruijn32tab", "math/bits.deBruijn64tab"], apart := false, laid := [("math/bits.deBruijn32tab", laid_math_bits_deBruijn32tab), ("math/bits.deBruijn64tab", laid_math_bits_deBruijn64tab), ("internal/strconv.uint64pow10", laid_internal_strconv_uint64pow10), ("gimbal/bound.ends", laid_gimbal_bound_ends)] }
def ModuloSolvesSaid : Prop := moduloSolvesRow.holds Tryz.pinned (OpenSpec.ofChange moduloSolvesSpec)

/-- ITS FALSE NEIGHBOUR: 'it returns false'. Refute it at one input. -/
def moduloSolvesWrong : ChangeSpec := { name := "moduloSolves", fn := fun _ => fun
  | [d1, d2] => { results := [.lit (.bool false)], args := [d1, d2] }
  | _ => none }
def ModuloSolvesWrongFalsely : Prop := moduloSolvesRow.holds Tryz.pinned (OpenSpec.ofChange moduloSolvesWrong)

/-- 'gimballaw32.ModuloLeast': WHATEVER THE INPUT: true; the input reads as it did. -/
def moduloLeastSpec : ChangeSpec := { name := "moduloLeast", fn := fun _ => fun
  | [d1, d2] => { results := [.lit (.bool true)], args := [d1, d2] }
  | _ => none }
def moduloLeastRow : OpenClaim := { program := "ytcbcifeaalkdfaagreatdoor", sum := "24d11732f1d58293c1a17d433f1e319a0da961d1061d936f36f4e4d98d86325b", func := "gimbal/gimballaw32.ModuloLeast", spec := "moduloLeast", inPlace := ["internal/abi.NoEscape"], unfollowed := true, recurses := true, named := ["math/bits.divideError", "math/bits.overflowError", "gimbal/bound.ends", "internal/strconv.uint64pow10", "math/bits.deBruijn32tab", "math/bits.deBruijn64tab"], apart := false, laid := [("math/bits.deBruijn32tab", laid_math_bits_deBruijn32tab), ("math/bits.deBruijn64tab", laid_math_bits_deBruijn64tab), ("internal/strconv.uint64pow10", laid_internal_strconv_uint64pow10), ("gimbal/bound.ends", laid_gimbal_bound_ends)] }
def ModuloLeastSaid : Prop := moduloLeastRow.holds Tryz.pinned (OpenSpec.ofChange moduloLeastSpec)

/-- ITS FALSE NEIGHBOUR: 'it returns false'. Refute it at one input. -/
def moduloLeastWrong : ChangeSpec := { name := "moduloLeast", fn := fun _ => fun
  | [d1, d2] => { results := [.lit (.bool false)], args := [d1, d2] }
  | _ => none }
def ModuloLeastWrongFalsely : Prop := moduloLeastRow.holds Tryz.pinned (OpenSpec.ofChange moduloLeastWrong)

/-- 'gimballaw32.ModuloGrows': WHATEVER THE INPUT: true; the input reads as it did. -/
def moduloGrowsSpec : ChangeSpec := { name := "moduloGrows", fn := fun _ => fun
  | [d1, d2, d3, d4, d5] => { results := [.lit (.bool true)], args := [d1, d2, d3, d4, d5] }
  | _ => none }
def moduloGrowsRow : OpenClaim := { program := "ytcbcifeaalkdfaagreatdoor", sum := "24d11732f1d58293c1a17d433f1e319a0da961d1061d936f36f4e4d98d86325b", func := "gimbal/gimballaw32.ModuloGrows", spec := "moduloGrows", inPlace := ["internal/abi.NoEscape"], unfollowed := true, recurses := true, named := ["math/bits.divideError", "math/bits.overflowError", "gimbal/bound.ends", "internal/strconv.uint64pow10", "math/bits.deBruijn32tab", "math/bits.deBruijn64tab"], apart := false, laid := [("math/bits.deBruijn32tab", laid_math_bits_deBruijn32tab), ("math/bits.deBruijn64tab", laid_math_bits_deBruijn64tab), ("internal/strconv.uint64pow10", laid_internal_strconv_uint64pow10), ("gimbal/bound.ends", laid_gimbal_bound_ends)] }
def ModuloGrowsSaid : Prop := moduloGrowsRow.holds Tryz.pinned (OpenSpec.ofChange moduloGrowsSpec)

/-- ITS FALSE NEIGHBOUR: 'it returns false'. Refute it at one input. -/
def moduloGrowsWrong : ChangeSpec := { name := "moduloGrows", fn := fun _ => fun
  | [d1, d2, d3, d4, d5] => { results := [.lit (.bool false)], args := [d1, d2, d3, d4, d5] }
  | _ => none }
def ModuloGrowsWrongFalsely : Prop := moduloGrowsRow.holds Tryz.pinned (OpenSpec.ofChange moduloGrowsWrong)

/-- 'gimballaw32.ModuloTells': WHATEVER THE INPUT: true; the input reads as it did. -/
def moduloTellsSpec : ChangeSpec := { name := "moduloTells", fn := fun _ => fun
  | [d1, d2, d3, d4] => { results := [.lit (.bool true)], args := [d1, d2, d3, d4] }
  | _ => none }
def moduloTellsRow : OpenClaim := { program := "ytcbcifeaalkdfaagreatdoor", sum := "24d11732f1d58293c1a17d433f1e319a0da961d1061d936f36f4e4d98d86325b", func := "gimbal/gimballaw32.ModuloTells", spec := "moduloTells", inPlace := ["internal/abi.NoEscape"], unfollowed := true, recurses := true, named := ["math/bits.divideError", "math/bits.overflowError", "gimbal/bound.ends", "internal/strconv.uint64pow10", "math/bits.deBruijn32tab", "math/bits.deBruijn64tab"], apart := false, laid := [("math/bits.deBruijn32tab", laid_math_bits_deBruijn32tab), ("math/bits.deBruijn64tab", laid_math_bits_deBruijn64tab), ("internal/strconv.uint64pow10", laid_internal_strconv_uint64pow10), ("gimbal/bound.ends", laid_gimbal_bound_ends)] }
def ModuloTellsSaid : Prop := moduloTellsRow.holds Tryz.pinned (OpenSpec.ofChange moduloTellsSpec)

/-- ITS FALSE NEIGHBOUR: 'it returns false'. Refute it at one input. -/
def moduloTellsWrong : ChangeSpec := { name := "moduloTells", fn := fun _ => fun
  | [d1, d2, d3, d4] => { results := [.lit (.bool false)], args := [d1, d2, d3, d4] }
  | _ => none }
def ModuloTellsWrongFalsely : Prop := moduloTellsRow.holds Tryz.pinned (OpenSpec.ofChange moduloTellsWrong)

/-- 'gimballaw32.ModuloOrders': WHATEVER THE INPUT: true; the input reads as it did. -/
def moduloOrdersSpec : ChangeSpec := { name := "moduloOrders", fn := fun _ => fun
  | [d1, d2, d3] => { results := [.lit (.bool true)], args := [d1, d2, d3] }
  | _ => none }
def moduloOrdersRow : OpenClaim := { program := "ytcbcifeaalkdfaagreatdoor", sum := "24d11732f1d58293c1a17d433f1e319a0da961d1061d936f36f4e4d98d86325b", func := "gimbal/gimballaw32.ModuloOrders", spec := "moduloOrders", inPlace := ["internal/abi.NoEscape"], unfollowed := true, recurses := true, named := ["math/bits.divideError", "math/bits.overflowError", "gimbal/bound.ends", "internal/strconv.uint64pow10", "math/bits.deBruijn32tab", "math/bits.deBruijn64tab"], apart := false, laid := [("math/bits.deBruijn32tab", laid_math_bits_deBruijn32tab), ("math/bits.deBruijn64tab", laid_math_bits_deBruijn64tab), ("internal/strconv.uint64pow10", laid_internal_strconv_uint64pow10), ("gimbal/bound.ends", laid_gimbal_bound_ends)] }
def ModuloOrdersSaid : Prop := moduloOrdersRow.holds Tryz.pinned (OpenSpec.ofChange moduloOrdersSpec)

/-- ITS FALSE NEIGHBOUR: 'it returns false'. Refute it at one input. -/
def moduloOrdersWrong : ChangeSpec := { name := "moduloOrders", fn := fun _ => fun
  | [d1, d2, d3] => { results := [.lit (.bool false)], args := [d1, d2, d3] }
  | _ => none }
def ModuloOrdersWrongFalsely : Prop := moduloOrdersRow.holds Tryz.pinned (OpenSpec.ofChange moduloOrdersWrong)

/- THE SECOND FORM. 'bulk': how many values and letters a reading holds, each counted each time it is reached (what is shared counts as often as it is met; a slice's spare places count too). A statement '..UptoSaid' is the law's where the arguments, and the package variables that the reading takes, are together of bulk at most 1048576: NARROWER than '..Said'. Prove '..Said' where nothing that the law and all that it calls make is longer than what came in: it says more and counts as full. Else prove '..UptoSaid'. A law counts once. -/
mutual
def uptoBulk {H : Type} : DataW H → Nat
  | .lit (.string bytes) => bytes.length + 1
  | .lit _ => 1
  | .nil => 1
  | .ptr d => uptoBulk d + 1
  | .slice elems spare => uptoBulkAll elems + uptoBulkAll spare + 1
  | .agg parts => uptoBulkAll parts + 1
  | .iface _ d => uptoBulk d + 1
  | .map entries => uptoBulkEntries entries + 1
  | .held _ => 1
def uptoBulkAll {H : Type} : List (DataW H) → Nat
  | [] => 0
  | d :: r => uptoBulk d + uptoBulkAll r
def uptoBulkEntries {H : Type} : List (Lit × DataW H) → Nat
  | [] => 0
  | x :: r => uptoBulkEntry x + uptoBulkEntries r
def uptoBulkEntry {H : Type} : Lit × DataW H → Nat
  | (.string bytes, d) => bytes.length + uptoBulk d + 1
  | (_, d) => uptoBulk d + 1
 end
def uptoSmall : (H : Type) → List (DataW H) → Bool := fun _ ds => decide (uptoBulkAll ds ≤ 1048576)
def OpenSpec.upto (s : _root_.Go.ChangeSpec) : _root_.Go.OpenSpec := { _root_.Go.OpenSpec.ofChange s with cond := some uptoSmall }

/-- 'gimballaw32.ModuloEvals', WHERE WHAT IT READS IS OF BULK AT MOST 1048576: true; the input reads as it did. -/
def moduloEvalsUptoRow : OpenClaim := { program := "ytcbcifeaalkdfaagreatdoor", sum := "24d11732f1d58293c1a17d433f1e319a0da961d1061d936f36f4e4d98d86325b", func := "gimbal/gimballaw32.ModuloEvals", spec := "moduloEvals", inPlace := ["internal/abi.NoEscape"], unfollowed := true, recurses := true, named := ["math/bits.divideError", "math/bits.overflowError", "gimbal/bound.ends", "internal/strconv.uint64pow10", "math/bits.deBruijn32tab", "math/bits.deBruijn64tab"], apart := false, laid := [("math/bits.deBruijn32tab", laid_math_bits_deBruijn32tab), ("math/bits.deBruijn64tab", laid_math_bits_deBruijn64tab), ("internal/strconv.uint64pow10", laid_internal_strconv_uint64pow10), ("gimbal/bound.ends", laid_gimbal_bound_ends)], narrowed := true }
def ModuloEvalsUptoSaid : Prop := moduloEvalsUptoRow.holds Tryz.pinned (OpenSpec.upto moduloEvalsSpec)

/-- 'gimballaw32.ModuloSteps', WHERE WHAT IT READS IS OF BULK AT MOST 1048576: true; the input reads as it did. -/
def moduloStepsUptoRow : OpenClaim := { program := "ytcbcifeaalkdfaagreatdoor", sum := "24d11732f1d58293c1a17d433f1e319a0da961d1061d936f36f4e4d98d86325b", func := "gimbal/gimballaw32.ModuloSteps", spec := "moduloSteps", inPlace := ["internal/abi.NoEscape"], unfollowed := true, recurses := true, named := ["math/bits.divideError", "math/bits.overflowError", "gimbal/bound.ends", "internal/strconv.uint64pow10", "math/bits.deBruijn32tab", "math/bits.deBruijn64tab"], apart := false, laid := [("math/bits.deBruijn32tab", laid_math_bits_deBruijn32tab), ("math/bits.deBruijn64tab", laid_math_bits_deBruijn64tab), ("internal/strconv.uint64pow10", laid_internal_strconv_uint64pow10), ("gimbal/bound.ends", laid_gimbal_bound_ends)], narrowed := true }
def ModuloStepsUptoSaid : Prop := moduloStepsUptoRow.holds Tryz.pinned (OpenSpec.upto moduloStepsSpec)

/-- 'gimballaw32.ModuloSolves', WHERE WHAT IT READS IS OF BULK AT MOST 1048576: true; the input reads as it did. -/
def moduloSolvesUptoRow : OpenClaim := { program := "ytcbcifeaalkdfaagreatdoor", sum := "24d11732f1d58293c1a17d433f1e319a0da961d1061d936f36f4e4d98d86325b", func := "gimbal/gimballaw32.ModuloSolves", spec := "moduloSolves", inPlace := ["internal/abi.NoEscape"], unfollowed := true, recurses := true, named := ["math/bits.divideError", "math/bits.overflowError", "gimbal/bound.ends", "internal/strconv.uint64pow10", "math/bits.deBruijn32tab", "math/bits.deBruijn64tab"], apart := false, laid := [("math/bits.deBruijn32tab", laid_math_bits_deBruijn32tab), ("math/bits.deBruijn64tab", laid_math_bits_deBruijn64tab), ("internal/strconv.uint64pow10", laid_internal_strconv_uint64pow10), ("gimbal/bound.ends", laid_gimbal_bound_ends)], narrowed := true }
def ModuloSolvesUptoSaid : Prop := moduloSolvesUptoRow.holds Tryz.pinned (OpenSpec.upto moduloSolvesSpec)

/-- 'gimballaw32.ModuloLeast', WHERE WHAT IT READS IS OF BULK AT MOST 1048576: true; the input reads as it did. -/
def moduloLeastUptoRow : OpenClaim := { program := "ytcbcifeaalkdfaagreatdoor", sum := "24d11732f1d58293c1a17d433f1e319a0da961d1061d936f36f4e4d98d86325b", func := "gimbal/gimballaw32.ModuloLeast", spec := "moduloLeast", inPlace := ["internal/abi.NoEscape"], unfollowed := true, recurses := true, named := ["math/bits.divideError", "math/bits.overflowError", "gimbal/bound.ends", "internal/strconv.uint64pow10", "math/bits.deBruijn32tab", "math/bits.deBruijn64tab"], apart := false, laid := [("math/bits.deBruijn32tab", laid_math_bits_deBruijn32tab), ("math/bits.deBruijn64tab", laid_math_bits_deBruijn64tab), ("internal/strconv.uint64pow10", laid_internal_strconv_uint64pow10), ("gimbal/bound.ends", laid_gimbal_bound_ends)], narrowed := true }
def ModuloLeastUptoSaid : Prop := moduloLeastUptoRow.holds Tryz.pinned (OpenSpec.upto moduloLeastSpec)

/-- 'gimballaw32.ModuloGrows', WHERE WHAT IT READS IS OF BULK AT MOST 1048576: true; the input reads as it did. -/
def moduloGrowsUptoRow : OpenClaim := { program := "ytcbcifeaalkdfaagreatdoor", sum := "24d11732f1d58293c1a17d433f1e319a0da961d1061d936f36f4e4d98d86325b", func := "gimbal/gimballaw32.ModuloGrows", spec := "moduloGrows", inPlace := ["internal/abi.NoEscape"], unfollowed := true, recurses := true, named := ["math/bits.divideError", "math/bits.overflowError", "gimbal/bound.ends", "internal/strconv.uint64pow10", "math/bits.deBruijn32tab", "math/bits.deBruijn64tab"], apart := false, laid := [("math/bits.deBruijn32tab", laid_math_bits_deBruijn32tab), ("math/bits.deBruijn64tab", laid_math_bits_deBruijn64tab), ("internal/strconv.uint64pow10", laid_internal_strconv_uint64pow10), ("gimbal/bound.ends", laid_gimbal_bound_ends)], narrowed := true }
def ModuloGrowsUptoSaid : Prop := moduloGrowsUptoRow.holds Tryz.pinned (OpenSpec.upto moduloGrowsSpec)

/-- 'gimballaw32.ModuloTells', WHERE WHAT IT READS IS OF BULK AT MOST 1048576: true; the input reads as it did. -/
def moduloTellsUptoRow : OpenClaim := { program := "ytcbcifeaalkdfaagreatdoor", sum := "24d11732f1d58293c1a17d433f1e319a0da961d1061d936f36f4e4d98d86325b", func := "gimbal/gimballaw32.ModuloTells", spec := "moduloTells", inPlace := ["internal/abi.NoEscape"], unfollowed := true, recurses := true, named := ["math/bits.divideError", "math/bits.overflowError", "gimbal/bound.ends", "internal/strconv.uint64pow10", "math/bits.deBruijn32tab", "math/bits.deBruijn64tab"], apart := false, laid := [("math/bits.deBruijn32tab", laid_math_bits_deBruijn32tab), ("math/bits.deBruijn64tab", laid_math_bits_deBruijn64tab), ("internal/strconv.uint64pow10", laid_internal_strconv_uint64pow10), ("gimbal/bound.ends", laid_gimbal_bound_ends)], narrowed := true }
def ModuloTellsUptoSaid : Prop := moduloTellsUptoRow.holds Tryz.pinned (OpenSpec.upto moduloTellsSpec)

/-- 'gimballaw32.ModuloOrders', WHERE WHAT IT READS IS OF BULK AT MOST 1048576: true; the input reads as it did. -/
def moduloOrdersUptoRow : OpenClaim := { program := "ytcbcifeaalkdfaagreatdoor", sum := "24d11732f1d58293c1a17d433f1e319a0da961d1061d936f36f4e4d98d86325b", func := "gimbal/gimballaw32.ModuloOrders", spec := "moduloOrders", inPlace := ["internal/abi.NoEscape"], unfollowed := true, recurses := true, named := ["math/bits.divideError", "math/bits.overflowError", "gimbal/bound.ends", "internal/strconv.uint64pow10", "math/bits.deBruijn32tab", "math/bits.deBruijn64tab"], apart := false, laid := [("math/bits.deBruijn32tab", laid_math_bits_deBruijn32tab), ("math/bits.deBruijn64tab", laid_math_bits_deBruijn64tab), ("internal/strconv.uint64pow10", laid_internal_strconv_uint64pow10), ("gimbal/bound.ends", laid_gimbal_bound_ends)], narrowed := true }
def ModuloOrdersUptoSaid : Prop := moduloOrdersUptoRow.holds Tryz.pinned (OpenSpec.upto moduloOrdersSpec)

end Rows
end Go.Proofs.YtcbcifeaalkdfaaGreatDoor
