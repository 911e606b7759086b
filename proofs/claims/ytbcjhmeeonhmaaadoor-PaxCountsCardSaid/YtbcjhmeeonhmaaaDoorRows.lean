/-
  NARROWER THAN 'FOR EVERY INPUT', by the rows' own cells (each row's printed sentence says how): PaxGets: laid · PaxCounts: laid · PaxBack: laid · PaxPuts: laid · PaxParts: laid · PaxFinds: laid.
  DERIVED. THE GIVEN ROWS OF THIS SEAT. 6 by the template 'for every input the law returns true; each argument reads behind the call as it read before'; 0 by the template 'total and deterministic' (their statements: YtbcjhmeeonhmaaaDoorTotals.lean).
  GIVEN WITH THE SEED: the statements are not yours to turn. If you find one false, say at which input.
  Laid BY PROGRAM, IN A SANDBOX (cutbox-rows.mjs): the forced cells as the released guide's own fill.sh prints them over the translation 47a0eb60febd92c7… (all of the seat's roots in one cut). By AI agents, Wed Nov 11 2026. No macro, syntax, notation, axiom, sorry.
-/
import Derived.Test.YtbcjhmeeonhmaaaDoorChecked
import GoSem.Claim
import GoSem.ClaimJoined
import GoSem.ClaimMapViews
import Derived.JoinedTies
import Derived.KernelRfl
namespace Go.Proofs.YtbcjhmeeonhmaaaDoor
/- THE CELL 'sum', in the pinned program and in every row, IS THE sha256 OF THE DUMP (.gsa) THAT YtbcjhmeeonhmaaaDoorProg.lean LOADS. Nothing in Lean hashes anything: it is a label: what it is worth is what the hold of that sum in a sandbox is worth. -/
noncomputable def Tryd.pinned : Pinned := { name := "ytbcjhmeeonhmaaadoor", sum := "47a0eb60febd92c74e1976a44504f580311c78ae87e4ba88df339123a53ea858", checked := Tryd.checked }
namespace Rows
def none {H : Type} : Left H := { results := [], args := [] }

/- WHAT THE LISTED PACKAGE-LEVEL VARIABLES READ AS WHEN THE CALL BEGINS. Each datum BY PROGRAM (the guide's laid-datum.mjs) off the statement by which the dump's own 'gosem.cut.vars' lays the variable. In a bare row this is a premise. The card (YtbcjhmeeonhmaaaDoorCards.lean) ties it to the program's text. -/
def laid_errors_errorType {H : Type} : DataW H := .iface "internal/reflectlite.rtype" (.agg [.ptr (.lit (.string [101, 114, 114, 111, 114]))])
def laid_pleacher_num_errBase {H : Type} : DataW H := .iface "*errors.errorString" (.ptr (.agg [.lit (.string [110, 111, 32, 98, 97, 115, 101])]))
def laid_pleacher_num_errNum {H : Type} : DataW H := .iface "*errors.errorString" (.ptr (.agg [.lit (.string [110, 111, 32, 110, 117, 109, 98, 101, 114])]))

/-- 'pleacherlaw09.PaxGets': WHATEVER THE INPUT: true; the input reads as it did. -/
def paxGetsSpec : ChangeSpec := { name := "paxGets", fn := fun _ => fun
  | [d] => { results := [.lit (.bool true)], args := [d] }
  | _ => none }
def paxGetsRow : OpenClaim := { program := "ytbcjhmeeonhmaaadoor", sum := "47a0eb60febd92c74e1976a44504f580311c78ae87e4ba88df339123a53ea858", func := "pleacher/pleacherlaw09.PaxGets", spec := "paxGets", inPlace := ["internal/bytealg.IndexByteString", "internal/bytealg.IndexString", "internal/reflectlite.TypeOf", "sync/atomic.AddInt32", "internal/reflectlite.ValueOf", "(internal/reflectlite.Value).Type", "(internal/reflectlite.Value).IsNil", "(internal/reflectlite.Value).Elem", "(internal/reflectlite.Value).Set"], unfollowed := true, recurses := true, named := ["internal/bytealg.MaxLen", "pleacher/num.errBase", "pleacher/num.errNum", "errors.errorType"], apart := false, laid := [("errors.errorType", laid_errors_errorType), ("pleacher/num.errBase", laid_pleacher_num_errBase), ("pleacher/num.errNum", laid_pleacher_num_errNum)] }
def PaxGetsSaid : Prop := paxGetsRow.holds Tryd.pinned (OpenSpec.ofChange paxGetsSpec)

/-- ITS FALSE NEIGHBOUR: 'it returns false'. Refute it at one input. -/
def paxGetsWrong : ChangeSpec := { name := "paxGets", fn := fun _ => fun
  | [d] => { results := [.lit (.bool false)], args := [d] }
  | _ => none }
def PaxGetsWrongFalsely : Prop := paxGetsRow.holds Tryd.pinned (OpenSpec.ofChange paxGetsWrong)

/-- 'pleacherlaw09.PaxCounts': WHATEVER THE INPUT: true; the input reads as it did. -/
def paxCountsSpec : ChangeSpec := { name := "paxCounts", fn := fun _ => fun
  | [d] => { results := [.lit (.bool true)], args := [d] }
  | _ => none }
def paxCountsRow : OpenClaim := { program := "ytbcjhmeeonhmaaadoor", sum := "47a0eb60febd92c74e1976a44504f580311c78ae87e4ba88df339123a53ea858", func := "pleacher/pleacherlaw09.PaxCounts", spec := "paxCounts", inPlace := ["internal/bytealg.IndexByteString", "internal/bytealg.IndexString", "internal/reflectlite.TypeOf", "sync/atomic.AddInt32", "internal/reflectlite.ValueOf", "(internal/reflectlite.Value).Type", "(internal/reflectlite.Value).IsNil", "(internal/reflectlite.Value).Elem", "(internal/reflectlite.Value).Set"], unfollowed := true, recurses := true, named := ["internal/bytealg.MaxLen", "pleacher/num.errBase", "pleacher/num.errNum", "errors.errorType"], apart := false, laid := [("errors.errorType", laid_errors_errorType), ("pleacher/num.errBase", laid_pleacher_num_errBase), ("pleacher/num.errNum", laid_pleacher_num_errNum)] }
def PaxCountsSaid : Prop := paxCountsRow.holds Tryd.pinned (OpenSpec.ofChange paxCountsSpec)

/-- ITS FALSE NEIGHBOUR: 'it returns false'. Refute it at one input. -/
def paxCountsWrong : ChangeSpec := { name := "paxCounts", fn := fun _ => fun
  | [d] => { results := [.lit (.bool false)], args := [d] }
  | _ => none }
def PaxCountsWrongFalsely : Prop := paxCountsRow.holds Tryd.pinned (OpenSpec.ofChange paxCountsWrong)

/-- 'pleacherlaw09.PaxBack': WHATEVER THE INPUT: true; the input reads as it did. -/
def paxBackSpec : ChangeSpec := { name := "paxBack", fn := fun _ => fun
  | [d1, d2] => { results := [.lit (.bool true)], args := [d1, d2] }
  | _ => none }
def paxBackRow : OpenClaim := { program := "ytbcjhmeeonhmaaadoor", sum := "47a0eb60febd92c74e1976a44504f580311c78ae87e4ba88df339123a53ea858", func := "pleacher/pleacherlaw09.PaxBack", spec := "paxBack", inPlace := ["internal/bytealg.IndexByteString", "internal/bytealg.IndexString", "internal/reflectlite.TypeOf", "sync/atomic.AddInt32", "internal/reflectlite.ValueOf", "(internal/reflectlite.Value).Type", "(internal/reflectlite.Value).IsNil", "(internal/reflectlite.Value).Elem", "(internal/reflectlite.Value).Set", "internal/abi.NoEscape"], unfollowed := true, recurses := true, named := ["internal/bytealg.MaxLen", "pleacher/num.errBase", "pleacher/num.errNum", "errors.errorType"], apart := false, laid := [("errors.errorType", laid_errors_errorType), ("pleacher/num.errBase", laid_pleacher_num_errBase), ("pleacher/num.errNum", laid_pleacher_num_errNum)] }
def PaxBackSaid : Prop := paxBackRow.holds Tryd.pinned (OpenSpec.ofChange paxBackSpec)

/-- ITS FALSE NEIGHBOUR: 'it returns false'. Refute it at one input. -/
def paxBackWrong : ChangeSpec := { name := "paxBack", fn := fun _ => fun
  | [d1, d2] => { results := [.lit (.bool false)], args := [d1, d2] }
  | _ => none }
def PaxBackWrongFalsely : Prop := paxBackRow.holds Tryd.pinned (OpenSpec.ofChange paxBackWrong)

/-- 'pleacherlaw09.PaxPuts': WHATEVER THE INPUT: true; the input reads as it did. -/
def paxPutsSpec : ChangeSpec := { name := "paxPuts", fn := fun _ => fun
  | [d1, d2] => { results := [.lit (.bool true)], args := [d1, d2] }
  | _ => none }
def paxPutsRow : OpenClaim := { program := "ytbcjhmeeonhmaaadoor", sum := "47a0eb60febd92c74e1976a44504f580311c78ae87e4ba88df339123a53ea858", func := "pleacher/pleacherlaw09.PaxPuts", spec := "paxPuts", inPlace := ["internal/bytealg.IndexByteString", "internal/bytealg.IndexString", "internal/reflectlite.TypeOf", "sync/atomic.AddInt32", "internal/reflectlite.ValueOf", "(internal/reflectlite.Value).Type", "(internal/reflectlite.Value).IsNil", "(internal/reflectlite.Value).Elem", "(internal/reflectlite.Value).Set", "internal/abi.NoEscape"], unfollowed := true, recurses := true, named := ["internal/bytealg.MaxLen", "pleacher/num.errBase", "pleacher/num.errNum", "errors.errorType"], apart := false, laid := [("errors.errorType", laid_errors_errorType), ("pleacher/num.errBase", laid_pleacher_num_errBase), ("pleacher/num.errNum", laid_pleacher_num_errNum)] }
def PaxPutsSaid : Prop := paxPutsRow.holds Tryd.pinned (OpenSpec.ofChange paxPutsSpec)

/-- ITS FALSE NEIGHBOUR: 'it returns false'. Refute it at one input. -/
def paxPutsWrong : ChangeSpec := { name := "paxPuts", fn := fun _ => fun
  | [d1, d2] => { results := [.lit (.bool false)], args := [d1, d2] }
  | _ => none }
def PaxPutsWrongFalsely : Prop := paxPutsRow.holds Tryd.pinned (OpenSpec.ofChange paxPutsWrong)

/-- 'pleacherlaw09.PaxParts': WHATEVER THE INPUT: true; the input reads as it did. -/
def paxPartsSpec : ChangeSpec := { name := "paxParts", fn := fun _ => fun
  | [d1, d2] => { results := [.lit (.bool true)], args := [d1, d2] }
  | _ => none }
def paxPartsRow : OpenClaim := { program := "ytbcjhmeeonhmaaadoor", sum := "47a0eb60febd92c74e1976a44504f580311c78ae87e4ba88df339123a53ea858", func := "pleacher/pleacherlaw09.PaxParts", spec := "paxParts", inPlace := ["internal/bytealg.IndexByteString", "internal/bytealg.IndexString", "internal/reflectlite.TypeOf", "sync/atomic.AddInt32", "internal/reflectlite.ValueOf", "(internal/reflectlite.Value).Type", "(internal/reflectlite.Value).IsNil", "(internal/reflectlite.Value).Elem", "(internal/reflectlite.Value).Set", "internal/abi.NoEscape"], unfollowed := true, recurses := true, named := ["internal/bytealg.MaxLen", "pleacher/num.errBase", "pleacher/num.errNum", "errors.errorType"], apart := false, laid := [("errors.errorType", laid_errors_errorType), ("pleacher/num.errBase", laid_pleacher_num_errBase), ("pleacher/num.errNum", laid_pleacher_num_errNum)] }
def PaxPartsSaid : Prop := paxPartsRow.holds Tryd.pinned (OpenSpec.ofChange paxPartsSpec)

/-- ITS FALSE NEIGHBOUR: 'it returns false'. Refute it at one input. -/
def paxPartsWrong : ChangeSpec := { name := "paxParts", fn := fun _ => fun
  | [d1, d2] => { results := [.lit (.bool false)], args := [d1, d2] }
  | _ => none }
def PaxPartsWrongFalsely : Prop := paxPartsRow.holds Tryd.pinned (OpenSpec.ofChange paxPartsWrong)

/-- 'pleacherlaw09.PaxFinds': WHATEVER THE INPUT: true; the input reads as it did. -/
def paxFindsSpec : ChangeSpec := { name := "paxFinds", fn := fun _ => fun
  | [d1, d2] => { results := [.lit (.bool true)], args := [d1, d2] }
  | _ => none }
def paxFindsRow : OpenClaim := { program := "ytbcjhmeeonhmaaadoor", sum := "47a0eb60febd92c74e1976a44504f580311c78ae87e4ba88df339123a53ea858", func := "pleacher/pleacherlaw09.PaxFinds", spec := "paxFinds", inPlace := ["internal/bytealg.IndexByteString", "internal/bytealg.IndexString", "internal/reflectlite.TypeOf", "sync/atomic.AddInt32", "internal/reflectlite.ValueOf", "(internal/reflectlite.Value).Type", "(internal/reflectlite.Value).IsNil", "(internal/reflectlite.Value).Elem", "(internal/reflectlite.Value).Set", "internal/abi.NoEscape"], unfollowed := true, recurses := true, named := ["internal/bytealg.MaxLen", "pleacher/num.errBase", "pleacher/num.errNum", "errors.errorType"], apart := false, laid := [("errors.errorType", laid_errors_errorType), ("pleacher/num.errBase", laid_pleacher_num_errBase), ("pleacher/num.errNum", laid_pleacher_num_errNum)] }
def PaxFindsSaid : Prop := paxFindsRow.holds Tryd.pinned (OpenSpec.ofChange paxFindsSpec)

/-- ITS FALSE NEIGHBOUR: 'it returns false'. Refute it at one input. -/
def paxFindsWrong : ChangeSpec := { name := "paxFinds", fn := fun _ => fun
  | [d1, d2] => { results := [.lit (.bool false)], args := [d1, d2] }
  | _ => none }
def PaxFindsWrongFalsely : Prop := paxFindsRow.holds Tryd.pinned (OpenSpec.ofChange paxFindsWrong)

/- THE SECOND FORM. 'bulk': how many values and letters a reading holds, each counted each time it is reached (what is shared counts as often as it is met; a slice's spare places count too). A statement '..UptoSaid' is the law's where the arguments, and the package variables that the reading takes, are together of bulk at most 1048576: NARROWER than '..Said'. Prove '..Said' where nothing that the law and all that it calls make is longer than what came in: it says more and counts as full. Else prove '..UptoSaid'. A law counts once. -/
mutual
def uptoBulk {H : Type} : DataW H → Nat
  | .lit (.string bytes) => bytes.length + 1
  | .lit _ => 1
  | .nil => 1
  | .ptr d => uptoBulk d + 1
  | .slice elems spare => uptoBulkAll elems + uptoBulkAll spare + 1
  | .agg parts => uptoBulkAll parts + 1
  | .iface _ d => uptoBulk d + 1
  | .map entries => uptoBulkEntries entries + 1
  | .held _ => 1
def uptoBulkAll {H : Type} : List (DataW H) → Nat
  | [] => 0
  | d :: r => uptoBulk d + uptoBulkAll r
def uptoBulkEntries {H : Type} : List (Lit × DataW H) → Nat
  | [] => 0
  | x :: r => uptoBulkEntry x + uptoBulkEntries r
def uptoBulkEntry {H : Type} : Lit × DataW H → Nat
  | (.string bytes, d) => bytes.length + uptoBulk d + 1
  | (_, d) => uptoBulk d + 1
 end
def uptoSmall : (H : Type) → List (DataW H) → Bool := fun _ ds => decide (uptoBulkAll ds ≤ 1048576)
def OpenSpec.upto (s : _root_.Go.ChangeSpec) : _root_.Go.OpenSpec := { _root_.Go.OpenSpec.ofChange s with cond := some uptoSmall }

/-- 'pleacherlaw09.PaxGets', WHERE WHAT IT READS IS OF BULK AT MOST 1048576: true; the input reads as it did. -/
def paxGetsUptoRow : OpenClaim := { program := "ytbcjhmeeonhmaaadoor", sum := "47a0eb60febd92c74e1976a44504f580311c78ae87e4ba88df339123a53ea858", func := "pleacher/pleacherlaw09.PaxGets", spec := "paxGets", inPlace := ["internal/bytealg.IndexByteString", "internal/bytealg.IndexString", "internal/reflectlite.TypeOf", "sync/atomic.AddInt32", "internal/reflectlite.ValueOf", "(internal/reflectlite.Value).Type", "(internal/reflectlite.Value).IsNil", "(internal/reflectlite.Value).Elem", "(internal/reflectlite.Value).Set"], unfollowed := true, recurses := true, named := ["internal/bytealg.MaxLen", "pleacher/num.errBase", "pleacher/num.errNum", "errors.errorType"], apart := false, laid := [("errors.errorType", laid_errors_errorType), ("pleacher/num.errBase", laid_pleacher_num_errBase), ("pleacher/num.errNum", laid_pleacher_num_errNum)], narrowed := true }
def PaxGetsUptoSaid : Prop := paxGetsUptoRow.holds Tryd.pinned (OpenSpec.upto paxGetsSpec)

/-- 'pleacherlaw09.PaxCounts', WHERE WHAT IT READS IS OF BULK AT MOST 1048576: true; the input reads as it did. -/
def paxCountsUptoRow : OpenClaim := { program := "ytbcjhmeeonhmaaadoor", sum := "47a0eb60febd92c74e1976a44504f580311c78ae87e4ba88df339123a53ea858", func := "pleacher/pleacherlaw09.PaxCounts", spec := "paxCounts", inPlace := ["internal/bytealg.IndexByteString", "internal/bytealg.IndexString", "internal/reflectlite.TypeOf", "sync/atomic.AddInt32", "internal/reflectlite.ValueOf", "(internal/reflectlite.Value).Type", "(internal/reflectlite.Value).IsNil", "(internal/reflectlite.Value).Elem", "(internal/reflectlite.Value).Set"], unfollowed := true, recurses := true, named := ["internal/bytealg.MaxLen", "pleacher/num.errBase", "pleacher/num.errNum", "errors.errorType"], apart := false, laid := [("errors.errorType", laid_errors_errorType), ("pleacher/num.errBase", laid_pleacher_num_errBase), ("pleacher/num.errNum", laid_pleacher_num_errNum)], narrowed := true }
def PaxCountsUptoSaid : Prop := paxCountsUptoRow.holds Tryd.pinned (OpenSpec.upto paxCountsSpec)

/-- 'pleacherlaw09.PaxBack', WHERE WHAT IT READS IS OF BULK AT MOST 1048576: true; the input reads as it did. -/
def paxBackUptoRow : OpenClaim := { program := "ytbcjhmeeonhmaaadoor", sum := "47a0eb60febd92c74e1976a44504f580311c78ae87e4ba88df339123a53ea858", func := "pleacher/pleacherlaw09.PaxBack", spec := "paxBack", inPlace := ["internal/bytealg.IndexByteString", "internal/bytealg.IndexString", "internal/reflectlite.TypeOf", "sync/atomic.AddInt32", "internal/reflectlite.ValueOf", "(internal/reflectlite.Value).Type", "(internal/reflectlite.Value).IsNil", "(internal/reflectlite.Value).Elem", "(internal/reflectlite.Value).Set", "internal/abi.NoEscape"], unfollowed := true, recurses := true, named := ["internal/bytealg.MaxLen", "pleacher/num.errBase", "pleacher/num.errNum", "errors.errorType"], apart := false, laid := [("errors.errorType", laid_errors_errorType), ("pleacher/num.errBase", laid_pleacher_num_errBase), ("pleacher/num.errNum", laid_pleacher_num_errNum)], narrowed := true }
def PaxBackUptoSaid : Prop := paxBackUptoRow.holds Tryd.pinned (OpenSpec.upto paxBackSpec)

/-- 'pleacherlaw09.PaxPuts', WHERE WHAT IT READS IS OF BULK AT MOST 1048576: true; the input reads as it did. -/
def paxPutsUptoRow : OpenClaim := { program := "ytbcjhmeeonhmaaadoor", sum := "47a0eb60febd92c74e1976a44504f580311c78ae87e4ba88df339123a53ea858", func := "pleacher/pleacherlaw09.PaxPuts", spec := "paxPuts", inPlace := ["internal/bytealg.IndexByteString", "internal/bytealg.IndexString", "internal/reflectlite.TypeOf", "sync/atomic.AddInt32", "internal/reflectlite.ValueOf", "(internal/reflectlite.Value).Type", "(internal/reflectlite.Value).IsNil", "(internal/reflectlite.Value).Elem", "(internal/reflectlite.Value).Set", "internal/abi.NoEscape"], unfollowed := true, recurses := true, named := ["internal/bytealg.MaxLen", "pleacher/num.errBase", "pleacher/num.errNum", "errors.errorType"], apart := false, laid := [("errors.errorType", laid_errors_errorType), ("pleacher/num.errBase", laid_pleacher_num_errBase), ("pleacher/num.errNum", laid_pleacher_num_errNum)], narrowed := true }
def PaxPutsUptoSaid : Prop := paxPutsUptoRow.holds Tryd.pinned (OpenSpec.upto paxPutsSpec)

/-- 'pleacherlaw09.PaxParts', WHERE WHAT IT READS IS OF BULK AT MOST 1048576: true; the input reads as it did. -/
def paxPartsUptoRow : OpenClaim := { program := "ytbcjhmeeonhmaaadoor", sum := "47a0eb60febd92c74e1976a44504f580311c78ae87e4ba88df339123a53ea858", func := "pleacher/pleacherlaw09.PaxParts", spec := "paxParts", inPlace := ["internal/bytealg.IndexByteString", "internal/bytealg.IndexString", "internal/reflectlite.TypeOf", "sync/atomic.AddInt32", "internal/reflectlite.ValueOf", "(internal/reflectlite.Value).Type", "(internal/reflectlite.Value).IsNil", "(internal/reflectlite.Value).Elem", "(internal/reflectlite.Value).Set", "internal/abi.NoEscape"], unfollowed := true, recurses := true, named := ["internal/bytealg.MaxLen", "pleacher/num.errBase", "pleacher/num.errNum", "errors.errorType"], apart := false, laid := [("errors.errorType", laid_errors_errorType), ("pleacher/num.errBase", laid_pleacher_num_errBase), ("pleacher/num.errNum", laid_pleacher_num_errNum)], narrowed := true }
def PaxPartsUptoSaid : Prop := paxPartsUptoRow.holds Tryd.pinned (OpenSpec.upto paxPartsSpec)

/-- 'pleacherlaw09.PaxFinds', WHERE WHAT IT READS IS OF BULK AT MOST 1048576: true; the input reads as it did. -/
def paxFindsUptoRow : OpenClaim := { program := "ytbcjhmeeonhmaaadoor", sum := "47a0eb60febd92c74e1976a44504f580311c78ae87e4ba88df339123a53ea858", func := "pleacher/pleacherlaw09.PaxFinds", spec := "paxFinds", inPlace := ["internal/bytealg.IndexByteString", "internal/bytealg.IndexString", "internal/reflectlite.TypeOf", "sync/atomic.AddInt32", "internal/reflectlite.ValueOf", "(internal/reflectlite.Value).Type", "(internal/reflectlite.Value).IsNil", "(internal/reflectlite.Value).Elem", "(internal/reflectlite.Value).Set", "internal/abi.NoEscape"], unfollowed := true, recurses := true, named := ["internal/bytealg.MaxLen", "pleacher/num.errBase", "pleacher/num.errNum", "errors.errorType"], apart := false, laid := [("errors.errorType", laid_errors_errorType), ("pleacher/num.errBase", laid_pleacher_num_errBase), ("pleacher/num.errNum", laid_pleacher_num_errNum)], narrowed := true }
def PaxFindsUptoSaid : Prop := paxFindsUptoRow.holds Tryd.pinned (OpenSpec.upto paxFindsSpec)

end Rows
end Go.Proofs.YtbcjhmeeonhmaaaDoor
