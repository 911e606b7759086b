/-
  NARROWER THAN 'FOR EVERY INPUT', by the rows' own cells (each row's printed sentence says how): EscapeGets: laid · EscapeJoins: laid · EscapeRefs: laid · EscapePlain: laid · EscapeBack: laid · EscapeLines: laid · EscapePuts: laid.
  DERIVED. THE GIVEN ROWS OF THIS SEAT. 7 by the template 'for every input the law returns true; each argument reads behind the call as it read before'; 0 by the template 'total and deterministic' (their statements: YtbcjhmeeonhmaaaGreatDoorTotals.lean).
  GIVEN WITH THE SEED: the statements are not yours to turn. If you find one false, say at which input.
  Laid BY PROGRAM, IN A SANDBOX (cutbox-rows.mjs): the forced cells as the released guide's own fill.sh prints them over the translation 21f4f2d93949fc23… (all of the seat's roots in one cut). By AI agents, Wed Nov 11 2026. No macro, syntax, notation, axiom, sorry.
-/
import Derived.Test.YtbcjhmeeonhmaaaGreatDoorChecked
import GoSem.PinnedTables
import GoSem.Claim
import GoSem.ClaimJoined
import GoSem.ClaimMapViews
import Derived.JoinedTies
import Derived.KernelRfl
namespace Go.Proofs.YtbcjhmeeonhmaaaGreatDoor
/- THE CELL 'sum', in the pinned program and in every row, IS THE sha256 OF THE DUMP (.gsa) THAT YtbcjhmeeonhmaaaGreatDoorProg.lean LOADS. Nothing in Lean hashes anything: it is a label: what it is worth is what the hold of that sum in a sandbox is worth. -/
noncomputable def Tryz.pinned : Pinned := { name := "ytbcjhmeeonhmaaagreatdoor", sum := "21f4f2d93949fc23c11e2ed7c7714a1a3bef2c4672f825dbccee048fcc1ce3a2", checked := Tryz.checked }
namespace Rows
def none {H : Type} : Left H := { results := [], args := [] }

/- WHAT THE LISTED PACKAGE-LEVEL VARIABLES READ AS WHEN THE CALL BEGINS. Each datum BY PROGRAM (the guide's laid-datum.mjs) off the statement by which the dump's own 'gosem.cut.vars' lays the variable. In a bare row this is a premise. The card (YtbcjhmeeonhmaaaGreatDoorCards.lean) ties it to the program's text. -/
def laid_errors_errorType {H : Type} : DataW H := .iface "internal/reflectlite.rtype" (.agg [.ptr (.lit (.string [101, 114, 114, 111, 114]))])
def laid_pleacher_num_errBase {H : Type} : DataW H := .iface "*errors.errorString" (.ptr (.agg [.lit (.string [110, 111, 32, 98, 97, 115, 101])]))
def laid_pleacher_num_errNum {H : Type} : DataW H := .iface "*errors.errorString" (.ptr (.agg [.lit (.string [110, 111, 32, 110, 117, 109, 98, 101, 114])]))
def laid_unicode_utf8_acceptRanges {H : Type} : DataW H := .agg [.agg [.lit (.int .u8 128), .lit (.int .u8 191)], .agg [.lit (.int .u8 160), .lit (.int .u8 191)], .agg [.lit (.int .u8 128), .lit (.int .u8 159)], .agg [.lit (.int .u8 144), .lit (.int .u8 191)], .agg [.lit (.int .u8 128), .lit (.int .u8 143)], .agg [.lit (.int .u8 0), .lit (.int .u8 0)], .agg [.lit (.int .u8 0), .lit (.int .u8 0)], .agg [.lit (.int .u8 0), .lit (.int .u8 0)], .agg [.lit (.int .u8 0), .lit (.int .u8 0)], .agg [.lit (.int .u8 0), .lit (.int .u8 0)], .agg [.lit (.int .u8 0), .lit (.int .u8 0)], .agg [.lit (.int .u8 0), .lit (.int .u8 0)], .agg [.lit (.int .u8 0), .lit (.int .u8 0)], .agg [.lit (.int .u8 0), .lit (.int .u8 0)], .agg [.lit (.int .u8 0), .lit (.int .u8 0)], .agg [.lit (.int .u8 0), .lit (.int .u8 0)]]
/-- One of Go's own tables, pinned by name: the form's constant. -/
def laid_unicode_utf8_first : DataW Unit := Go.Pinned.utf8First

/-- 'pleacherlaw04.EscapeGets': WHATEVER THE INPUT: true; the input reads as it did. -/
def escapeGetsSpec : ChangeSpec := { name := "escapeGets", fn := fun _ => fun
  | [d] => { results := [.lit (.bool true)], args := [d] }
  | _ => none }
def escapeGetsRow : OpenClaim := { program := "ytbcjhmeeonhmaaagreatdoor", sum := "21f4f2d93949fc23c11e2ed7c7714a1a3bef2c4672f825dbccee048fcc1ce3a2", func := "pleacher/pleacherlaw04.EscapeGets", spec := "escapeGets", inPlace := ["sync/atomic.LoadUint32", "(*internal/sync.Mutex).Lock", "internal/race.Disable", "sync/atomic.CompareAndSwapInt32", "internal/race.Enable", "internal/race.Acquire", "(*internal/sync.Mutex).lockSlow", "internal/sync.runtime_canSpin", "internal/sync.runtime_doSpin", "internal/sync.throw", "internal/sync.runtime_nanotime", "internal/sync.runtime_SemacquireMutex", "sync/atomic.AddInt32", "(*internal/sync.Mutex).Unlock", "internal/race.ReleaseMerge", "(*internal/sync.Mutex).unlockSlow", "internal/sync.fatal", "internal/sync.runtime_Semrelease", "sync/atomic.StoreUint32", "internal/abi.NoEscape", "sync/atomic.AddInt64", "internal/bytealg.IndexByteString", "internal/reflectlite.TypeOf", "internal/reflectlite.ValueOf", "(internal/reflectlite.Value).Type", "(internal/reflectlite.Value).IsNil", "(internal/reflectlite.Value).Elem", "(internal/reflectlite.Value).Set"], unfollowed := true, recurses := true, named := ["pleacher/num.errBase", "pleacher/num.errNum", "errors.errorType"], apart := false, laid := [("errors.errorType", laid_errors_errorType), ("pleacher/num.errBase", laid_pleacher_num_errBase), ("pleacher/num.errNum", laid_pleacher_num_errNum)] }
def EscapeGetsSaid : Prop := escapeGetsRow.holds Tryz.pinned (OpenSpec.ofChange escapeGetsSpec)

/-- ITS FALSE NEIGHBOUR: 'it returns false'. Refute it at one input. -/
def escapeGetsWrong : ChangeSpec := { name := "escapeGets", fn := fun _ => fun
  | [d] => { results := [.lit (.bool false)], args := [d] }
  | _ => none }
def EscapeGetsWrongFalsely : Prop := escapeGetsRow.holds Tryz.pinned (OpenSpec.ofChange escapeGetsWrong)

/-- 'pleacherlaw04.EscapeJoins': WHATEVER THE INPUT: true; the input reads as it did. -/
def escapeJoinsSpec : ChangeSpec := { name := "escapeJoins", fn := fun _ => fun
  | [d1, d2] => { results := [.lit (.bool true)], args := [d1, d2] }
  | _ => none }
def escapeJoinsRow : OpenClaim := { program := "ytbcjhmeeonhmaaagreatdoor", sum := "21f4f2d93949fc23c11e2ed7c7714a1a3bef2c4672f825dbccee048fcc1ce3a2", func := "pleacher/pleacherlaw04.EscapeJoins", spec := "escapeJoins", inPlace := ["sync/atomic.LoadUint32", "(*internal/sync.Mutex).Lock", "internal/race.Disable", "sync/atomic.CompareAndSwapInt32", "internal/race.Enable", "internal/race.Acquire", "(*internal/sync.Mutex).lockSlow", "internal/sync.runtime_canSpin", "internal/sync.runtime_doSpin", "internal/sync.throw", "internal/sync.runtime_nanotime", "internal/sync.runtime_SemacquireMutex", "sync/atomic.AddInt32", "(*internal/sync.Mutex).Unlock", "internal/race.ReleaseMerge", "(*internal/sync.Mutex).unlockSlow", "internal/sync.fatal", "internal/sync.runtime_Semrelease", "sync/atomic.StoreUint32", "internal/abi.NoEscape", "sync/atomic.AddInt64", "internal/bytealg.IndexByteString", "internal/reflectlite.TypeOf", "internal/reflectlite.ValueOf", "(internal/reflectlite.Value).Type", "(internal/reflectlite.Value).IsNil", "(internal/reflectlite.Value).Elem", "(internal/reflectlite.Value).Set"], unfollowed := true, recurses := true, named := ["pleacher/num.errBase", "pleacher/num.errNum", "errors.errorType"], apart := false, laid := [("errors.errorType", laid_errors_errorType), ("pleacher/num.errBase", laid_pleacher_num_errBase), ("pleacher/num.errNum", laid_pleacher_num_errNum)] }
def EscapeJoinsSaid : Prop := escapeJoinsRow.holds Tryz.pinned (OpenSpec.ofChange escapeJoinsSpec)

/-- ITS FALSE NEIGHBOUR: 'it returns false'. Refute it at one input. -/
def escapeJoinsWrong : ChangeSpec := { name := "escapeJoins", fn := fun _ => fun
  | [d1, d2] => { results := [.lit (.bool false)], args := [d1, d2] }
  | _ => none }
def EscapeJoinsWrongFalsely : Prop := escapeJoinsRow.holds Tryz.pinned (OpenSpec.ofChange escapeJoinsWrong)

/-- 'pleacherlaw04.EscapeRefs': WHATEVER THE INPUT: true; the input reads as it did. -/
def escapeRefsSpec : ChangeSpec := { name := "escapeRefs", fn := fun _ => fun
  | [d] => { results := [.lit (.bool true)], args := [d] }
  | _ => none }
def escapeRefsRow : OpenClaim := { program := "ytbcjhmeeonhmaaagreatdoor", sum := "21f4f2d93949fc23c11e2ed7c7714a1a3bef2c4672f825dbccee048fcc1ce3a2", func := "pleacher/pleacherlaw04.EscapeRefs", spec := "escapeRefs", inPlace := ["sync/atomic.LoadUint32", "(*internal/sync.Mutex).Lock", "internal/race.Disable", "sync/atomic.CompareAndSwapInt32", "internal/race.Enable", "internal/race.Acquire", "(*internal/sync.Mutex).lockSlow", "internal/sync.runtime_canSpin", "internal/sync.runtime_doSpin", "internal/sync.throw", "internal/sync.runtime_nanotime", "internal/sync.runtime_SemacquireMutex", "sync/atomic.AddInt32", "(*internal/sync.Mutex).Unlock", "internal/race.ReleaseMerge", "(*internal/sync.Mutex).unlockSlow", "internal/sync.fatal", "internal/sync.runtime_Semrelease", "sync/atomic.StoreUint32", "internal/abi.NoEscape", "sync/atomic.AddInt64", "internal/bytealg.IndexByteString", "internal/reflectlite.TypeOf", "internal/reflectlite.ValueOf", "(internal/reflectlite.Value).Type", "(internal/reflectlite.Value).IsNil", "(internal/reflectlite.Value).Elem", "(internal/reflectlite.Value).Set"], unfollowed := true, recurses := true, named := ["pleacher/num.errBase", "pleacher/num.errNum", "errors.errorType"], apart := false, laid := [("errors.errorType", laid_errors_errorType), ("pleacher/num.errBase", laid_pleacher_num_errBase), ("pleacher/num.errNum", laid_pleacher_num_errNum)] }
def EscapeRefsSaid : Prop := escapeRefsRow.holds Tryz.pinned (OpenSpec.ofChange escapeRefsSpec)

/-- ITS FALSE NEIGHBOUR: 'it returns false'. Refute it at one input. -/
def escapeRefsWrong : ChangeSpec := { name := "escapeRefs", fn := fun _ => fun
  | [d] => { results := [.lit (.bool false)], args := [d] }
  | _ => none }
def EscapeRefsWrongFalsely : Prop := escapeRefsRow.holds Tryz.pinned (OpenSpec.ofChange escapeRefsWrong)

/-- 'pleacherlaw04.EscapePlain': WHATEVER THE INPUT: true; the input reads as it did. -/
def escapePlainSpec : ChangeSpec := { name := "escapePlain", fn := fun _ => fun
  | [d] => { results := [.lit (.bool true)], args := [d] }
  | _ => none }
def escapePlainRow : OpenClaim := { program := "ytbcjhmeeonhmaaagreatdoor", sum := "21f4f2d93949fc23c11e2ed7c7714a1a3bef2c4672f825dbccee048fcc1ce3a2", func := "pleacher/pleacherlaw04.EscapePlain", spec := "escapePlain", inPlace := ["sync/atomic.LoadUint32", "(*internal/sync.Mutex).Lock", "internal/race.Disable", "sync/atomic.CompareAndSwapInt32", "internal/race.Enable", "internal/race.Acquire", "(*internal/sync.Mutex).lockSlow", "internal/sync.runtime_canSpin", "internal/sync.runtime_doSpin", "internal/sync.throw", "internal/sync.runtime_nanotime", "internal/sync.runtime_SemacquireMutex", "sync/atomic.AddInt32", "(*internal/sync.Mutex).Unlock", "internal/race.ReleaseMerge", "(*internal/sync.Mutex).unlockSlow", "internal/sync.fatal", "internal/sync.runtime_Semrelease", "sync/atomic.StoreUint32", "internal/abi.NoEscape", "sync/atomic.AddInt64", "internal/bytealg.IndexByteString", "internal/reflectlite.TypeOf", "internal/reflectlite.ValueOf", "(internal/reflectlite.Value).Type", "(internal/reflectlite.Value).IsNil", "(internal/reflectlite.Value).Elem", "(internal/reflectlite.Value).Set"], unfollowed := true, recurses := true, named := ["pleacher/num.errBase", "pleacher/num.errNum", "errors.errorType"], apart := false, laid := [("errors.errorType", laid_errors_errorType), ("pleacher/num.errBase", laid_pleacher_num_errBase), ("pleacher/num.errNum", laid_pleacher_num_errNum)] }
def EscapePlainSaid : Prop := escapePlainRow.holds Tryz.pinned (OpenSpec.ofChange escapePlainSpec)

/-- ITS FALSE NEIGHBOUR: 'it returns false'. Refute it at one input. -/
def escapePlainWrong : ChangeSpec := { name := "escapePlain", fn := fun _ => fun
  | [d] => { results := [.lit (.bool false)], args := [d] }
  | _ => none }
def EscapePlainWrongFalsely : Prop := escapePlainRow.holds Tryz.pinned (OpenSpec.ofChange escapePlainWrong)

/-- 'pleacherlaw04.EscapeBack': WHATEVER THE INPUT: true; the input reads as it did. -/
def escapeBackSpec : ChangeSpec := { name := "escapeBack", fn := fun _ => fun
  | [d] => { results := [.lit (.bool true)], args := [d] }
  | _ => none }
def escapeBackRow : OpenClaim := { program := "ytbcjhmeeonhmaaagreatdoor", sum := "21f4f2d93949fc23c11e2ed7c7714a1a3bef2c4672f825dbccee048fcc1ce3a2", func := "pleacher/pleacherlaw04.EscapeBack", spec := "escapeBack", inPlace := ["sync/atomic.LoadUint32", "(*internal/sync.Mutex).Lock", "internal/race.Disable", "sync/atomic.CompareAndSwapInt32", "internal/race.Enable", "internal/race.Acquire", "(*internal/sync.Mutex).lockSlow", "internal/sync.runtime_canSpin", "internal/sync.runtime_doSpin", "internal/sync.throw", "internal/sync.runtime_nanotime", "internal/sync.runtime_SemacquireMutex", "sync/atomic.AddInt32", "(*internal/sync.Mutex).Unlock", "internal/race.ReleaseMerge", "(*internal/sync.Mutex).unlockSlow", "internal/sync.fatal", "internal/sync.runtime_Semrelease", "sync/atomic.StoreUint32", "internal/abi.NoEscape", "sync/atomic.AddInt64", "internal/bytealg.IndexByteString", "internal/reflectlite.TypeOf", "internal/reflectlite.ValueOf", "(internal/reflectlite.Value).Type", "(internal/reflectlite.Value).IsNil", "(internal/reflectlite.Value).Elem", "(internal/reflectlite.Value).Set", "sync/atomic.LoadInt64"], unfollowed := true, recurses := true, named := ["pleacher/num.errBase", "pleacher/num.errNum", "errors.errorType"], apart := false, laid := [("errors.errorType", laid_errors_errorType), ("pleacher/num.errBase", laid_pleacher_num_errBase), ("pleacher/num.errNum", laid_pleacher_num_errNum)] }
def EscapeBackSaid : Prop := escapeBackRow.holds Tryz.pinned (OpenSpec.ofChange escapeBackSpec)

/-- ITS FALSE NEIGHBOUR: 'it returns false'. Refute it at one input. -/
def escapeBackWrong : ChangeSpec := { name := "escapeBack", fn := fun _ => fun
  | [d] => { results := [.lit (.bool false)], args := [d] }
  | _ => none }
def EscapeBackWrongFalsely : Prop := escapeBackRow.holds Tryz.pinned (OpenSpec.ofChange escapeBackWrong)

/-- 'pleacherlaw04.EscapeLines': WHATEVER THE INPUT: true; the input reads as it did. -/
def escapeLinesSpec : ChangeSpec := { name := "escapeLines", fn := fun _ => fun
  | [d] => { results := [.lit (.bool true)], args := [d] }
  | _ => none }
def escapeLinesRow : OpenClaim := { program := "ytbcjhmeeonhmaaagreatdoor", sum := "21f4f2d93949fc23c11e2ed7c7714a1a3bef2c4672f825dbccee048fcc1ce3a2", func := "pleacher/pleacherlaw04.EscapeLines", spec := "escapeLines", inPlace := ["sync/atomic.LoadUint32", "(*internal/sync.Mutex).Lock", "internal/race.Disable", "sync/atomic.CompareAndSwapInt32", "internal/race.Enable", "internal/race.Acquire", "(*internal/sync.Mutex).lockSlow", "internal/sync.runtime_canSpin", "internal/sync.runtime_doSpin", "internal/sync.throw", "internal/sync.runtime_nanotime", "internal/sync.runtime_SemacquireMutex", "sync/atomic.AddInt32", "(*internal/sync.Mutex).Unlock", "internal/race.ReleaseMerge", "(*internal/sync.Mutex).unlockSlow", "internal/sync.fatal", "internal/sync.runtime_Semrelease", "sync/atomic.StoreUint32", "internal/abi.NoEscape", "sync/atomic.AddInt64", "internal/bytealg.IndexByteString", "internal/reflectlite.TypeOf", "internal/reflectlite.ValueOf", "(internal/reflectlite.Value).Type", "(internal/reflectlite.Value).IsNil", "(internal/reflectlite.Value).Elem", "(internal/reflectlite.Value).Set", "internal/bytealg.CountString", "internal/bytealg.IndexString", "internal/bytealg.MakeNoZero"], unfollowed := true, recurses := true, named := ["pleacher/num.errBase", "pleacher/num.errNum", "errors.errorType", "internal/bytealg.MaxLen", "unicode/utf8.first", "unicode/utf8.acceptRanges"], apart := false, laid := [("unicode/utf8.acceptRanges", laid_unicode_utf8_acceptRanges), ("errors.errorType", laid_errors_errorType), ("pleacher/num.errBase", laid_pleacher_num_errBase), ("pleacher/num.errNum", laid_pleacher_num_errNum), ("unicode/utf8.first", laid_unicode_utf8_first)] }
def EscapeLinesSaid : Prop := escapeLinesRow.holds Tryz.pinned (OpenSpec.ofChange escapeLinesSpec)

/-- ITS FALSE NEIGHBOUR: 'it returns false'. Refute it at one input. -/
def escapeLinesWrong : ChangeSpec := { name := "escapeLines", fn := fun _ => fun
  | [d] => { results := [.lit (.bool false)], args := [d] }
  | _ => none }
def EscapeLinesWrongFalsely : Prop := escapeLinesRow.holds Tryz.pinned (OpenSpec.ofChange escapeLinesWrong)

/-- 'pleacherlaw04.EscapePuts': WHATEVER THE INPUT: true; the input reads as it did. -/
def escapePutsSpec : ChangeSpec := { name := "escapePuts", fn := fun _ => fun
  | [d] => { results := [.lit (.bool true)], args := [d] }
  | _ => none }
def escapePutsRow : OpenClaim := { program := "ytbcjhmeeonhmaaagreatdoor", sum := "21f4f2d93949fc23c11e2ed7c7714a1a3bef2c4672f825dbccee048fcc1ce3a2", func := "pleacher/pleacherlaw04.EscapePuts", spec := "escapePuts", inPlace := ["sync/atomic.LoadUint32", "(*internal/sync.Mutex).Lock", "internal/race.Disable", "sync/atomic.CompareAndSwapInt32", "internal/race.Enable", "internal/race.Acquire", "(*internal/sync.Mutex).lockSlow", "internal/sync.runtime_canSpin", "internal/sync.runtime_doSpin", "internal/sync.throw", "internal/sync.runtime_nanotime", "internal/sync.runtime_SemacquireMutex", "sync/atomic.AddInt32", "(*internal/sync.Mutex).Unlock", "internal/race.ReleaseMerge", "(*internal/sync.Mutex).unlockSlow", "internal/sync.fatal", "internal/sync.runtime_Semrelease", "sync/atomic.StoreUint32", "internal/abi.NoEscape", "sync/atomic.AddInt64", "internal/bytealg.IndexByteString", "internal/reflectlite.TypeOf", "internal/reflectlite.ValueOf", "(internal/reflectlite.Value).Type", "(internal/reflectlite.Value).IsNil", "(internal/reflectlite.Value).Elem", "(internal/reflectlite.Value).Set", "sync/atomic.LoadInt64", "internal/bytealg.CountString", "internal/bytealg.IndexString", "internal/bytealg.MakeNoZero"], unfollowed := true, recurses := true, named := ["pleacher/num.errBase", "pleacher/num.errNum", "errors.errorType", "internal/bytealg.MaxLen", "unicode/utf8.first", "unicode/utf8.acceptRanges"], apart := false, laid := [("unicode/utf8.acceptRanges", laid_unicode_utf8_acceptRanges), ("errors.errorType", laid_errors_errorType), ("pleacher/num.errBase", laid_pleacher_num_errBase), ("pleacher/num.errNum", laid_pleacher_num_errNum), ("unicode/utf8.first", laid_unicode_utf8_first)] }
def EscapePutsSaid : Prop := escapePutsRow.holds Tryz.pinned (OpenSpec.ofChange escapePutsSpec)

/-- ITS FALSE NEIGHBOUR: 'it returns false'. Refute it at one input. -/
def escapePutsWrong : ChangeSpec := { name := "escapePuts", fn := fun _ => fun
  | [d] => { results := [.lit (.bool false)], args := [d] }
  | _ => none }
def EscapePutsWrongFalsely : Prop := escapePutsRow.holds Tryz.pinned (OpenSpec.ofChange escapePutsWrong)

/- THE SECOND FORM. 'bulk': how many values and letters a reading holds, each counted each time it is reached (what is shared counts as often as it is met; a slice's spare places count too). A statement '..UptoSaid' is the law's where the arguments, and the package variables that the reading takes, are together of bulk at most 1048576: NARROWER than '..Said'. Prove '..Said' where nothing that the law and all that it calls make is longer than what came in: it says more and counts as full. Else prove '..UptoSaid'. A law counts once. -/
mutual
def uptoBulk {H : Type} : DataW H → Nat
  | .lit (.string bytes) => bytes.length + 1
  | .lit _ => 1
  | .nil => 1
  | .ptr d => uptoBulk d + 1
  | .slice elems spare => uptoBulkAll elems + uptoBulkAll spare + 1
  | .agg parts => uptoBulkAll parts + 1
  | .iface _ d => uptoBulk d + 1
  | .map entries => uptoBulkEntries entries + 1
  | .held _ => 1
def uptoBulkAll {H : Type} : List (DataW H) → Nat
  | [] => 0
  | d :: r => uptoBulk d + uptoBulkAll r
def uptoBulkEntries {H : Type} : List (Lit × DataW H) → Nat
  | [] => 0
  | x :: r => uptoBulkEntry x + uptoBulkEntries r
def uptoBulkEntry {H : Type} : Lit × DataW H → Nat
  | (.string bytes, d) => bytes.length + uptoBulk d + 1
  | (_, d) => uptoBulk d + 1
 end
def uptoSmall : (H : Type) → List (DataW H) → Bool := fun _ ds => decide (uptoBulkAll ds ≤ 1048576)
def OpenSpec.upto (s : _root_.Go.ChangeSpec) : _root_.Go.OpenSpec := { _root_.Go.OpenSpec.ofChange s with cond := some uptoSmall }

/-- 'pleacherlaw04.EscapeGets', WHERE WHAT IT READS IS OF BULK AT MOST 1048576: true; the input reads as it did. -/
def escapeGetsUptoRow : OpenClaim := { program := "ytbcjhmeeonhmaaagreatdoor", sum := "21f4f2d93949fc23c11e2ed7c7714a1a3bef2c4672f825dbccee048fcc1ce3a2", func := "pleacher/pleacherlaw04.EscapeGets", spec := "escapeGets", inPlace := ["sync/atomic.LoadUint32", "(*internal/sync.Mutex).Lock", "internal/race.Disable", "sync/atomic.CompareAndSwapInt32", "internal/race.Enable", "internal/race.Acquire", "(*internal/sync.Mutex).lockSlow", "internal/sync.runtime_canSpin", "internal/sync.runtime_doSpin", "internal/sync.throw", "internal/sync.runtime_nanotime", "internal/sync.runtime_SemacquireMutex", "sync/atomic.AddInt32", "(*internal/sync.Mutex).Unlock", "internal/race.ReleaseMerge", "(*internal/sync.Mutex).unlockSlow", "internal/sync.fatal", "internal/sync.runtime_Semrelease", "sync/atomic.StoreUint32", "internal/abi.NoEscape", "sync/atomic.AddInt64", "internal/bytealg.IndexByteString", "internal/reflectlite.TypeOf", "internal/reflectlite.ValueOf", "(internal/reflectlite.Value).Type", "(internal/reflectlite.Value).IsNil", "(internal/reflectlite.Value).Elem", "(internal/reflectlite.Value).Set"], unfollowed := true, recurses := true, named := ["pleacher/num.errBase", "pleacher/num.errNum", "errors.errorType"], apart := false, laid := [("errors.errorType", laid_errors_errorType), ("pleacher/num.errBase", laid_pleacher_num_errBase), ("pleacher/num.errNum", laid_pleacher_num_errNum)], narrowed := true }
def EscapeGetsUptoSaid : Prop := escapeGetsUptoRow.holds Tryz.pinned (OpenSpec.upto escapeGetsSpec)

/-- 'pleacherlaw04.EscapeJoins', WHERE WHAT IT READS IS OF BULK AT MOST 1048576: true; the input reads as it did. -/
def escapeJoinsUptoRow : OpenClaim := { program := "ytbcjhmeeonhmaaagreatdoor", sum := "21f4f2d93949fc23c11e2ed7c7714a1a3bef2c4672f825dbccee048fcc1ce3a2", func := "pleacher/pleacherlaw04.EscapeJoins", spec := "escapeJoins", inPlace := ["sync/atomic.LoadUint32", "(*internal/sync.Mutex).Lock", "internal/race.Disable", "sync/atomic.CompareAndSwapInt32", "internal/race.Enable", "internal/race.Acquire", "(*internal/sync.Mutex).lockSlow", "internal/sync.runtime_canSpin", "internal/sync.runtime_doSpin", "internal/sync.throw", "internal/sync.runtime_nanotime", "internal/sync.runtime_SemacquireMutex", "sync/atomic.AddInt32", "(*internal/sync.Mutex).Unlock", "internal/race.ReleaseMerge", "(*internal/sync.Mutex).unlockSlow", "internal/sync.fatal", "internal/sync.runtime_Semrelease", "sync/atomic.StoreUint32", "internal/abi.NoEscape", "sync/atomic.AddInt64", "internal/bytealg.IndexByteString", "internal/reflectlite.TypeOf", "internal/reflectlite.ValueOf", "(internal/reflectlite.Value).Type", "(internal/reflectlite.Value).IsNil", "(internal/reflectlite.Value).Elem", "(internal/reflectlite.Value).Set"], unfollowed := true, recurses := true, named := ["pleacher/num.errBase", "pleacher/num.errNum", "errors.errorType"], apart := false, laid := [("errors.errorType", laid_errors_errorType), ("pleacher/num.errBase", laid_pleacher_num_errBase), ("pleacher/num.errNum", laid_pleacher_num_errNum)], narrowed := true }
def EscapeJoinsUptoSaid : Prop := escapeJoinsUptoRow.holds Tryz.pinned (OpenSpec.upto escapeJoinsSpec)

/-- 'pleacherlaw04.EscapeRefs', WHERE WHAT IT READS IS OF BULK AT MOST 1048576: true; the input reads as it did. -/
def escapeRefsUptoRow : OpenClaim := { program := "ytbcjhmeeonhmaaagreatdoor", sum := "21f4f2d93949fc23c11e2ed7c7714a1a3bef2c4672f825dbccee048fcc1ce3a2", func := "pleacher/pleacherlaw04.EscapeRefs", spec := "escapeRefs", inPlace := ["sync/atomic.LoadUint32", "(*internal/sync.Mutex).Lock", "internal/race.Disable", "sync/atomic.CompareAndSwapInt32", "internal/race.Enable", "internal/race.Acquire", "(*internal/sync.Mutex).lockSlow", "internal/sync.runtime_canSpin", "internal/sync.runtime_doSpin", "internal/sync.throw", "internal/sync.runtime_nanotime", "internal/sync.runtime_SemacquireMutex", "sync/atomic.AddInt32", "(*internal/sync.Mutex).Unlock", "internal/race.ReleaseMerge", "(*internal/sync.Mutex).unlockSlow", "internal/sync.fatal", "internal/sync.runtime_Semrelease", "sync/atomic.StoreUint32", "internal/abi.NoEscape", "sync/atomic.AddInt64", "internal/bytealg.IndexByteString", "internal/reflectlite.TypeOf", "internal/reflectlite.ValueOf", "(internal/reflectlite.Value).Type", "(internal/reflectlite.Value).IsNil", "(internal/reflectlite.Value).Elem", "(internal/reflectlite.Value).Set"], unfollowed := true, recurses := true, named := ["pleacher/num.errBase", "pleacher/num.errNum", "errors.errorType"], apart := false, laid := [("errors.errorType", laid_errors_errorType), ("pleacher/num.errBase", laid_pleacher_num_errBase), ("pleacher/num.errNum", laid_pleacher_num_errNum)], narrowed := true }
def EscapeRefsUptoSaid : Prop := escapeRefsUptoRow.holds Tryz.pinned (OpenSpec.upto escapeRefsSpec)

/-- 'pleacherlaw04.EscapePlain', WHERE WHAT IT READS IS OF BULK AT MOST 1048576: true; the input reads as it did. -/
def escapePlainUptoRow : OpenClaim := { program := "ytbcjhmeeonhmaaagreatdoor", sum := "21f4f2d93949fc23c11e2ed7c7714a1a3bef2c4672f825dbccee048fcc1ce3a2", func := "pleacher/pleacherlaw04.EscapePlain", spec := "escapePlain", inPlace := ["sync/atomic.LoadUint32", "(*internal/sync.Mutex).Lock", "internal/race.Disable", "sync/atomic.CompareAndSwapInt32", "internal/race.Enable", "internal/race.Acquire", "(*internal/sync.Mutex).lockSlow", "internal/sync.runtime_canSpin", "internal/sync.runtime_doSpin", "internal/sync.throw", "internal/sync.runtime_nanotime", "internal/sync.runtime_SemacquireMutex", "sync/atomic.AddInt32", "(*internal/sync.Mutex).Unlock", "internal/race.ReleaseMerge", "(*internal/sync.Mutex).unlockSlow", "internal/sync.fatal", "internal/sync.runtime_Semrelease", "sync/atomic.StoreUint32", "internal/abi.NoEscape", "sync/atomic.AddInt64", "internal/bytealg.IndexByteString", "internal/reflectlite.TypeOf", "internal/reflectlite.ValueOf", "(internal/reflectlite.Value).Type", "(internal/reflectlite.Value).IsNil", "(internal/reflectlite.Value).Elem", "(internal/reflectlite.Value).Set"], unfollowed := true, recurses := true, named := ["pleacher/num.errBase", "pleacher/num.errNum", "errors.errorType"], apart := false, laid := [("errors.errorType", laid_errors_errorType), ("pleacher/num.errBase", laid_pleacher_num_errBase), ("pleacher/num.errNum", laid_pleacher_num_errNum)], narrowed := true }
def EscapePlainUptoSaid : Prop := escapePlainUptoRow.holds Tryz.pinned (OpenSpec.upto escapePlainSpec)

/-- 'pleacherlaw04.EscapeBack', WHERE WHAT IT READS IS OF BULK AT MOST 1048576: true; the input reads as it did. -/
def escapeBackUptoRow : OpenClaim := { program := "ytbcjhmeeonhmaaagreatdoor", sum := "21f4f2d93949fc23c11e2ed7c7714a1a3bef2c4672f825dbccee048fcc1ce3a2", func := "pleacher/pleacherlaw04.EscapeBack", spec := "escapeBack", inPlace := ["sync/atomic.LoadUint32", "(*internal/sync.Mutex).Lock", "internal/race.Disable", "sync/atomic.CompareAndSwapInt32", "internal/race.Enable", "internal/race.Acquire", "(*internal/sync.Mutex).lockSlow", "internal/sync.runtime_canSpin", "internal/sync.runtime_doSpin", "internal/sync.throw", "internal/sync.runtime_nanotime", "internal/sync.runtime_SemacquireMutex", "sync/atomic.AddInt32", "(*internal/sync.Mutex).Unlock", "internal/race.ReleaseMerge", "(*internal/sync.Mutex).unlockSlow", "internal/sync.fatal", "internal/sync.runtime_Semrelease", "sync/atomic.StoreUint32", "internal/abi.NoEscape", "sync/atomic.AddInt64", "internal/bytealg.IndexByteString", "internal/reflectlite.TypeOf", "internal/reflectlite.ValueOf", "(internal/reflectlite.Value).Type", "(internal/reflectlite.Value).IsNil", "(internal/reflectlite.Value).Elem", "(internal/reflectlite.Value).Set", "sync/atomic.LoadInt64"], unfollowed := true, recurses := true, named := ["pleacher/num.errBase", "pleacher/num.errNum", "errors.errorType"], apart := false, laid := [("errors.errorType", laid_errors_errorType), ("pleacher/num.errBase", laid_pleacher_num_errBase), ("pleacher/num.errNum", laid_pleacher_num_errNum)], narrowed := true }
def EscapeBackUptoSaid : Prop := escapeBackUptoRow.holds Tryz.pinned (OpenSpec.upto escapeBackSpec)

/-- 'pleacherlaw04.EscapeLines', WHERE WHAT IT READS IS OF BULK AT MOST 1048576: true; the input reads as it did. -/
def escapeLinesUptoRow : OpenClaim := { program := "ytbcjhmeeonhmaaagreatdoor", sum := "21f4f2d93949fc23c11e2ed7c7714a1a3bef2c4672f825dbccee048fcc1ce3a2", func := "pleacher/pleacherlaw04.EscapeLines", spec := "escapeLines", inPlace := ["sync/atomic.LoadUint32", "(*internal/sync.Mutex).Lock", "internal/race.Disable", "sync/atomic.CompareAndSwapInt32", "internal/race.Enable", "internal/race.Acquire", "(*internal/sync.Mutex).lockSlow", "internal/sync.runtime_canSpin", "internal/sync.runtime_doSpin", "internal/sync.throw", "internal/sync.runtime_nanotime", "internal/sync.runtime_SemacquireMutex", "sync/atomic.AddInt32", "(*internal/sync.Mutex).Unlock", "internal/race.ReleaseMerge", "(*internal/sync.Mutex).unlockSlow", "internal/sync.fatal", "internal/sync.runtime_Semrelease", "sync/atomic.StoreUint32", "internal/abi.NoEscape", "sync/atomic.AddInt64", "internal/bytealg.IndexByteString", "internal/reflectlite.TypeOf", "internal/reflectlite.ValueOf", "(internal/reflectlite.Value).Type", "(internal/reflectlite.Value).IsNil", "(internal/reflectlite.Value).Elem", "(internal/reflectlite.Value).Set", "internal/bytealg.CountString", "internal/bytealg.IndexString", "internal/bytealg.MakeNoZero"], unfollowed := true, recurses := true, named := ["pleacher/num.errBase", "pleacher/num.errNum", "errors.errorType", "internal/bytealg.MaxLen", "unicode/utf8.first", "unicode/utf8.acceptRanges"], apart := false, laid := [("unicode/utf8.acceptRanges", laid_unicode_utf8_acceptRanges), ("errors.errorType", laid_errors_errorType), ("pleacher/num.errBase", laid_pleacher_num_errBase), ("pleacher/num.errNum", laid_pleacher_num_errNum), ("unicode/utf8.first", laid_unicode_utf8_first)], narrowed := true }
def EscapeLinesUptoSaid : Prop := escapeLinesUptoRow.holds Tryz.pinned (OpenSpec.upto escapeLinesSpec)

/-- 'pleacherlaw04.EscapePuts', WHERE WHAT IT READS IS OF BULK AT MOST 1048576: true; the input reads as it did. -/
def escapePutsUptoRow : OpenClaim := { program := "ytbcjhmeeonhmaaagreatdoor", sum := "21f4f2d93949fc23c11e2ed7c7714a1a3bef2c4672f825dbccee048fcc1ce3a2", func := "pleacher/pleacherlaw04.EscapePuts", spec := "escapePuts", inPlace := ["sync/atomic.LoadUint32", "(*internal/sync.Mutex).Lock", "internal/race.Disable", "sync/atomic.CompareAndSwapInt32", "internal/race.Enable", "internal/race.Acquire", "(*internal/sync.Mutex).lockSlow", "internal/sync.runtime_canSpin", "internal/sync.runtime_doSpin", "internal/sync.throw", "internal/sync.runtime_nanotime", "internal/sync.runtime_SemacquireMutex", "sync/atomic.AddInt32", "(*internal/sync.Mutex).Unlock", "internal/race.ReleaseMerge", "(*internal/sync.Mutex).unlockSlow", "internal/sync.fatal", "internal/sync.runtime_Semrelease", "sync/atomic.StoreUint32", "internal/abi.NoEscape", "sync/atomic.AddInt64", "internal/bytealg.IndexByteString", "internal/reflectlite.TypeOf", "internal/reflectlite.ValueOf", "(internal/reflectlite.Value).Type", "(internal/reflectlite.Value).IsNil", "(internal/reflectlite.Value).Elem", "(internal/reflectlite.Value).Set", "sync/atomic.LoadInt64", "internal/bytealg.CountString", "internal/bytealg.IndexString", "internal/bytealg.MakeNoZero"], unfollowed := true, recurses := true, named := ["pleacher/num.errBase", "pleacher/num.errNum", "errors.errorType", "internal/bytealg.MaxLen", "unicode/utf8.first", "unicode/utf8.acceptRanges"], apart := false, laid := [("unicode/utf8.acceptRanges", laid_unicode_utf8_acceptRanges), ("errors.errorType", laid_errors_errorType), ("pleacher/num.errBase", laid_pleacher_num_errBase), ("pleacher/num.errNum", laid_pleacher_num_errNum), ("unicode/utf8.first", laid_unicode_utf8_first)], narrowed := true }
def EscapePutsUptoSaid : Prop := escapePutsUptoRow.holds Tryz.pinned (OpenSpec.upto escapePutsSpec)

end Rows
end Go.Proofs.YtbcjhmeeonhmaaaGreatDoor
