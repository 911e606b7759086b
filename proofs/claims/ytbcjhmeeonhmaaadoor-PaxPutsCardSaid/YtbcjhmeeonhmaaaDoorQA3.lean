/-
The statement about PaxPuts, as a card: for every argument the law's answer is 'true'. There is no condition.
-/
import Derived.Test.YtbcjhmeeonhmaaaDoorQA2
import Derived.RangeFuncBox
import Derived.Maps.AppendAt
import Derived.Test.YtbcjhmeeonhmaaaDoorCards
import Derived.Test.YtbcjhmeeonhmaaaDoorTie
import Derived.ProofKit
import Derived.OpenShut
import Derived.Deep.DeepHandedRow
import Derived.Deep.SlicePairs
import Derived.Stop.LaidTwo
import Derived.LaidMore
import Derived.LaidHandle
import Derived.Carry
import Derived.ChangeMaps5
import Derived.Deep.DeepWitnessRowRef
set_option linter.unusedVariables false
set_option linter.unusedSimpArgs false
/-
What reflectlite answers where errors.As is asked for an error of no record.
-/
section
set_option linter.unusedVariables false
set_option maxRecDepth 100000
namespace Go.Proofs.YtbcjhmeeonhmaaaDoor.H
open Go Go.RowKit Go.Extern

/-! What reflectlite answers at these two types. -/
theorem as_unpackP (b : Addr) (w : World) : (ReflectliteValue.unpack (.iface 78 (.pointer (some b)))).run Tryd.prog w = .ok (.agg #[.pointer (some ⟨4, 78, none⟩), .pointer (some ⟨w.heap.size, 0, none⟩), .int .u64 150]) (w.alloc (.cells #[.pointer (some b)] 78)) := by kernel_rfl
theorem as_unpackE (n : Int) (w : World) : (ReflectliteValue.unpack (.iface 76 (.agg #[.int .i64 n]))).run Tryd.prog w = .ok (.agg #[.pointer (some ⟨4, 76, none⟩), .pointer (some ⟨w.heap.size, 0, none⟩), .int .u64 153]) (w.alloc (.cells #[.int .i64 n] 76)) := by kernel_rfl
def asVF : Array Value → Sem Value := fun args => ReflectliteValue.unpack (args.getD 0 (.tuple #[]))
theorem as_vP (b : Addr) (w : World) : (asVF #[.iface 78 (.pointer (some b))]).run Tryd.prog w = .ok (.agg #[.pointer (some ⟨4, 78, none⟩), .pointer (some ⟨w.heap.size, 0, none⟩), .int .u64 150]) (w.alloc (.cells #[.pointer (some b)] 78)) := as_unpackP b w
theorem as_vE (n : Int) (w : World) : (asVF #[.iface 76 (.agg #[.int .i64 n])]).run Tryd.prog w = .ok (.agg #[.pointer (some ⟨4, 76, none⟩), .pointer (some ⟨w.heap.size, 0, none⟩), .int .u64 153]) (w.alloc (.cells #[.int .i64 n] 76)) := as_unpackE n w
def asTyF : Array Value → Sem Value := ReflectliteValue.methodAny (ReflectliteValue.valueError "reflectlite.Value.Type" 0) fun t _ _ _ => ReflectliteType.toType t
theorem as_ty (p : Addr) (w : World) : (asTyF #[.agg #[.pointer (some ⟨4, 78, none⟩), .pointer (some p), .int .u64 150]]).run Tryd.prog w = .ok (.iface 124 (.agg #[.pointer (some ⟨4, 78, none⟩)])) w := by kernel_rfl
def asImF : Array Value → Sem Value := ReflectliteType.relation "Implements" ReflectliteType.implements_
theorem as_im (w : World) : (asImF #[.agg #[.pointer (some ⟨4, 76, none⟩)], .iface 124 (.agg #[.pointer (some ⟨4, 45, none⟩)])]).run Tryd.prog w = .ok (.bool true) w := by kernel_rfl
def asAsF : Array Value → Sem Value := ReflectliteType.relation "AssignableTo" ReflectliteType.assignableTo
theorem as_as (w : World) : (asAsF #[.agg #[.pointer (some ⟨4, 76, none⟩)], .iface 124 (.agg #[.pointer (some ⟨4, 76, none⟩)])]).run Tryd.prog w = .ok (.bool true) w := by kernel_rfl
def asElF : Array Value → Sem Value := ReflectliteType.method ReflectliteType.elem
theorem as_el (w : World) : (asElF #[.agg #[.pointer (some ⟨4, 78, none⟩)]]).run Tryd.prog w = .ok (.iface 124 (.agg #[.pointer (some ⟨4, 76, none⟩)])) w := by kernel_rfl
def asKiF : Array Value → Sem Value := ReflectliteType.abiMethod fun t => do pure (.int .u8 (← Rtype.kind t))
theorem as_kiP (w : World) : (asKiF #[.pointer (some ⟨4, 78, none⟩)]).run Tryd.prog w = .ok (.int .u8 22) w := by kernel_rfl
theorem as_kiE (w : World) : (asKiF #[.pointer (some ⟨4, 76, none⟩)]).run Tryd.prog w = .ok (.int .u8 25) w := by kernel_rfl
theorem as_mKind (h : Addr) (w : World) : (Go.method 311 124 (.agg #[.pointer (some h)]) "Kind").run Tryd.prog w = .ok (109, .pointer (some h)) w := by kernel_rfl
theorem as_mElem (v : Value) (w : World) : (Go.method 311 124 v "Elem").run Tryd.prog w = .ok (121, v) w := by kernel_rfl
theorem as_mImpl (v : Value) (w : World) : (Go.method 311 124 v "Implements").run Tryd.prog w = .ok (122, v) w := by kernel_rfl
theorem as_mAss (v : Value) (w : World) : (Go.method 311 124 v "AssignableTo").run Tryd.prog w = .ok (119, v) w := by kernel_rfl
theorem as_typeOf (v : Value) (w : World) : (ReflectliteType.typeOf #[.iface 76 v]).run Tryd.prog w = .ok (.iface 124 (.agg #[.pointer (some ⟨4, 76, none⟩)])) w := by kernel_rfl
def asNilF : Array Value → Sem Value := ReflectliteValue.method (ReflectliteValue.valueError "reflectlite.Value.IsNil" 0) ReflectliteValue.isNil
def asEF : Array Value → Sem Value := ReflectliteValue.method (ReflectliteValue.valueError "reflectlite.Value.Elem" 0) ReflectliteValue.elem
theorem as_partsP (p : Addr) (w : World) : (ReflectliteValue.parts (.agg #[.pointer (some ⟨4, 78, none⟩), .pointer (some p), .int .u64 150])).run Tryd.prog w = .ok (some (78, p, 150)) w := by kernel_rfl
theorem as_partsE (p : Addr) (w : World) : (ReflectliteValue.parts (.agg #[.pointer (some ⟨4, 76, none⟩), .pointer (some p), .int .u64 153])).run Tryd.prog w = .ok (some (76, p, 153)) w := by kernel_rfl
theorem as_partsD (p : Addr) (w : World) : (ReflectliteValue.parts (.agg #[.pointer (some ⟨4, 76, none⟩), .pointer (some p), .int .u64 409])).run Tryd.prog w = .ok (some (76, p, 409)) w := by kernel_rfl
theorem as_aggP (w : World) : (isAgg 78).run Tryd.prog w = .ok false w := by kernel_rfl
theorem as_aggE (w : World) : (isAgg 76).run Tryd.prog w = .ok true w := by kernel_rfl
theorem as_szE (w : World) : (sizeOf 76).run Tryd.prog w = .ok 1 w := by kernel_rfl
theorem as_load (a : Addr) (v : Value) (w : World) (hc : w.cell? a = some v) : (loadVar 78 a).run Tryd.prog w = .ok v w := by
  simp [loadVar, as_aggP, Result.andThen, hc]
theorem as_isNil (a b : Addr) (w : World) (hc : w.cell? a = some (.pointer (some b))) : (asNilF #[.agg #[.pointer (some ⟨4, 78, none⟩), .pointer (some a), .int .u64 150]]).run Tryd.prog w = .ok (.bool false) w := by
  change Sem.run Tryd.prog (do
    match ← ReflectliteValue.parts (.agg #[.pointer (some ⟨4, 78, none⟩), .pointer (some a), .int .u64 150]) with
    | none => ReflectliteValue.valueError "reflectlite.Value.IsNil" 0
    | some (t, a, fl) => ReflectliteValue.isNil t a fl (fl % 32)) w = _
  rw [Sem.run_bind, as_partsP]
  change Sem.run Tryd.prog (ReflectliteValue.isNil 78 a 150 22) w = _
  change Sem.run Tryd.prog (do
    match ← loadVar 78 a with
    | .chan none | .nilFunc | .nilIface | .map none | .pointer none | .slice none _ _ => (pure (Value.bool true) : Sem Value)
    | _ => (pure (Value.bool false) : Sem Value)) w = _
  rw [Sem.run_bind, as_load a _ w hc]
  rfl
theorem as_elemT (w : World) : (Rtype.elem? 78).run Tryd.prog w = .ok (some 76) w := by kernel_rfl
theorem as_mk (b : Addr) (w : World) : (ReflectliteValue.mk 76 b ReflectliteValue.flagAddr).run Tryd.prog w = .ok (.agg #[.pointer (some ⟨4, 76, none⟩), .pointer (some b), .int .u64 409]) w := by kernel_rfl
theorem as_vElem (a b : Addr) (w : World) (hc : w.cell? a = some (.pointer (some b))) : (asEF #[.agg #[.pointer (some ⟨4, 78, none⟩), .pointer (some a), .int .u64 150]]).run Tryd.prog w = .ok (.agg #[.pointer (some ⟨4, 76, none⟩), .pointer (some b), .int .u64 409]) w := by
  change Sem.run Tryd.prog (do
    match ← ReflectliteValue.parts (.agg #[.pointer (some ⟨4, 78, none⟩), .pointer (some a), .int .u64 150]) with
    | none => ReflectliteValue.valueError "reflectlite.Value.Elem" 0
    | some (t, a, fl) => ReflectliteValue.elem t a fl (fl % 32)) w = _
  rw [Sem.run_bind, as_partsP]
  change Sem.run Tryd.prog (ReflectliteValue.elem 78 a 150 22) w = _
  change Sem.run Tryd.prog (do
    let x ← loadVar 78 a
    let y ← Rtype.elem? 78
    match (22 : Nat), x, y with
    | 20, i, _ => ReflectliteValue.unpack i
    | 22, .pointer none, _ => pure ReflectliteValue.zeroV
    | 22, .pointer (some p), some e => ReflectliteValue.mk e p ReflectliteValue.flagAddr
    | _, _, _ => ReflectliteValue.valueError "reflectlite.Value.Elem" 22) w = _
  rw [Sem.run_bind, as_load a _ w hc]
  change Sem.run Tryd.prog (do
    let y ← Rtype.elem? 78
    match (22 : Nat), Value.pointer (some b), y with
    | 20, i, _ => ReflectliteValue.unpack i
    | 22, .pointer none, _ => pure ReflectliteValue.zeroV
    | 22, .pointer (some p), some e => ReflectliteValue.mk e p ReflectliteValue.flagAddr
    | _, _, _ => ReflectliteValue.valueError "reflectlite.Value.Elem" 22) w = _
  rw [Sem.run_bind, as_elemT]
  exact as_mk b w
theorem as_dir (w : World) : (Rtype.directlyAssignable 76 76).run Tryd.prog w = .ok true w := by kernel_rfl
theorem as_loadE (a : Nat) (v : Value) (w : World) (hc : w.cell? ⟨a, 0, none⟩ = some v) : (loadVar 76 ⟨a, 0, none⟩).run Tryd.prog w = .ok (.agg #[v]) w := by
  have h0 : ((⟨a, 0, none⟩ : Addr).add 0) = ⟨a, 0, none⟩ := rfl
  simp [loadVar, as_aggE, as_szE, Result.andThen, loadCells, loadCellsFrom, h0, hc]
theorem as_storeE (a : Nat) (n : Int) (v : Value) (w : World) (hc : w.cell? ⟨a, 0, none⟩ = some v) (hf : w.frozen? ⟨a, 0, none⟩ = false) : (storeVar 76 ⟨a, 0, none⟩ (.agg #[.int .i64 n])).run Tryd.prog w = .ok () (w.setCell ⟨a, 0, none⟩ (.int .i64 n)) := by
  have h0 : ((⟨a, 0, none⟩ : Addr).add 0) = ⟨a, 0, none⟩ := rfl
  have hst := run_store Tryd.prog w ⟨a, 0, none⟩ (.int .i64 n) .plain rfl
  simp [storeVar, as_szE, Result.andThen, storeCells, Value.cells, h0]
  rw [hst]
  simp [hc, hf]
theorem as_set (p q : Nat) (n : Int) (v : Value) (w : World) (hp : w.cell? ⟨p, 0, none⟩ = some v) (hf : w.frozen? ⟨p, 0, none⟩ = false) (hq : w.cell? ⟨q, 0, none⟩ = some (.int .i64 n)) :
    (ReflectliteValue.set #[.agg #[.pointer (some ⟨4, 76, none⟩), .pointer (some ⟨p, 0, none⟩), .int .u64 409], .agg #[.pointer (some ⟨4, 76, none⟩), .pointer (some ⟨q, 0, none⟩), .int .u64 153]]).run Tryd.prog w = .ok (.tuple #[]) (w.setCell ⟨p, 0, none⟩ (.int .i64 n)) := by
  change Sem.run Tryd.prog (do
    let (some (dst, a, fl), some (src, b, _)) := (← ReflectliteValue.parts (.agg #[.pointer (some ⟨4, 76, none⟩), .pointer (some ⟨p, 0, none⟩), .int .u64 409]), ← ReflectliteValue.parts (.agg #[.pointer (some ⟨4, 76, none⟩), .pointer (some ⟨q, 0, none⟩), .int .u64 153]))
      | unsupported (.noEntry "extern/(internal/reflectlite.Value).Set.zeroValue")
    if fl / ReflectliteValue.flagAddr % 2 == 0 then unsupported (.noEntry "extern/(internal/reflectlite.Value).Set.unaddressable")
    let val ← loadVar src b
    if ← Rtype.directlyAssignable dst src then storeVar dst a val
    else if ← Rtype.implements dst src then
      if (← Rtype.kind src) == 20 then
        match val with
        | .nilIface => unsupported (.noEntry "extern/reflectlite: a nil value of one interface type handed on as a value of another")
        | _ => storeVar dst a val
      else storeVar dst a (.iface src val)
    else panicString ("reflectlite.Set: value of type " ++ (← Rtype.spelt src) ++ " is not assignable to type " ++ (← Rtype.spelt dst))
    pure (Value.tuple #[])) w = _
  rw [Sem.run_bind, as_partsD]
  simp only [Result.andThen]
  rw [Sem.run_bind, as_partsE]
  simp only [Result.andThen]
  rw [if_neg (by decide), Sem.run_bind, as_loadE q _ w hq]
  simp only [Result.andThen]
  rw [Sem.run_bind, as_dir]
  simp only [Result.andThen]
  rw [if_pos trivial, Sem.run_bind, as_storeE p n v w hp hf]
  rfl
theorem ex_valueOf (args : Array Value) (w : World) : (callFunc 49 args).run Tryd.prog w = (((asVF) args).run Tryd.prog w).andThen fun v w' => .ok (.value v) w' := @run_callFunc_extern Tryd.prog 49 _ (asVF) Tryd.func49 (by kernel_rfl) (by kernel_rfl) (by kernel_rfl) (by kernel_rfl) args w
theorem ex_type (args : Array Value) (w : World) : (callFunc 50 args).run Tryd.prog w = (((asTyF) args).run Tryd.prog w).andThen fun v w' => .ok (.value v) w' := @run_callFunc_extern Tryd.prog 50 _ (asTyF) Tryd.func50 (by kernel_rfl) (by kernel_rfl) (by kernel_rfl) (by kernel_rfl) args w
theorem ex_isNil (args : Array Value) (w : World) : (callFunc 51 args).run Tryd.prog w = (((asNilF) args).run Tryd.prog w).andThen fun v w' => .ok (.value v) w' := @run_callFunc_extern Tryd.prog 51 _ (asNilF) Tryd.func51 (by kernel_rfl) (by kernel_rfl) (by kernel_rfl) (by kernel_rfl) args w
theorem ex_vElem (args : Array Value) (w : World) : (callFunc 64 args).run Tryd.prog w = (((asEF) args).run Tryd.prog w).andThen fun v w' => .ok (.value v) w' := @run_callFunc_extern Tryd.prog 64 _ (asEF) Tryd.func64 (by kernel_rfl) (by kernel_rfl) (by kernel_rfl) (by kernel_rfl) args w
theorem ex_set (args : Array Value) (w : World) : (callFunc 65 args).run Tryd.prog w = (((ReflectliteValue.set) args).run Tryd.prog w).andThen fun v w' => .ok (.value v) w' := @run_callFunc_extern Tryd.prog 65 _ (ReflectliteValue.set) Tryd.func65 (by kernel_rfl) (by kernel_rfl) (by kernel_rfl) (by kernel_rfl) args w
theorem ex_typeOf (args : Array Value) (w : World) : (callFunc 63 args).run Tryd.prog w = (((ReflectliteType.typeOf) args).run Tryd.prog w).andThen fun v w' => .ok (.value v) w' := @run_callFunc_extern Tryd.prog 63 _ (ReflectliteType.typeOf) Tryd.func63 (by kernel_rfl) (by kernel_rfl) (by kernel_rfl) (by kernel_rfl) args w
theorem ex_impl (args : Array Value) (w : World) : (callFunc 122 args).run Tryd.prog w = (((asImF) args).run Tryd.prog w).andThen fun v w' => .ok (.value v) w' := @run_callFunc_extern Tryd.prog 122 _ (asImF) Tryd.func122 (by kernel_rfl) (by kernel_rfl) (by kernel_rfl) (by kernel_rfl) args w
theorem ex_ass (args : Array Value) (w : World) : (callFunc 119 args).run Tryd.prog w = (((asAsF) args).run Tryd.prog w).andThen fun v w' => .ok (.value v) w' := @run_callFunc_extern Tryd.prog 119 _ (asAsF) Tryd.func119 (by kernel_rfl) (by kernel_rfl) (by kernel_rfl) (by kernel_rfl) args w
theorem ex_elem (args : Array Value) (w : World) : (callFunc 121 args).run Tryd.prog w = (((asElF) args).run Tryd.prog w).andThen fun v w' => .ok (.value v) w' := @run_callFunc_extern Tryd.prog 121 _ (asElF) Tryd.func121 (by kernel_rfl) (by kernel_rfl) (by kernel_rfl) (by kernel_rfl) args w
theorem ex_kind (args : Array Value) (w : World) : (callFunc 109 args).run Tryd.prog w = (((asKiF) args).run Tryd.prog w).andThen fun v w' => .ok (.value v) w' := @run_callFunc_extern Tryd.prog 109 _ (asKiF) Tryd.func109 (by kernel_rfl) (by kernel_rfl) (by kernel_rfl) (by kernel_rfl) args w

end Go.Proofs.YtbcjhmeeonhmaaaDoor.H
end

/-
pax.told: errors.As at an error of no record.
-/
section
set_option linter.unusedVariables false
set_option maxRecDepth 100000
namespace Go.Proofs.YtbcjhmeeonhmaaaDoor.H
open Go Go.RowKit Go.Extern

set_option maxHeartbeats 4000000 in
theorem as_ (n : Int) (b a : Nat) (w : World) (hb : w.cell? ⟨b, 0, none⟩ = some (.int .i64 0)) (hf : w.frozen? ⟨b, 0, none⟩ = false) (ha : w.cell? ⟨a, 0, none⟩ = some (.pointer (some ⟨b, 0, none⟩))) :
    Calls Tryd.prog 52 #[wrongV n, .iface 78 (.pointer (some ⟨b, 0, none⟩)), .agg #[.pointer (some ⟨4, 78, none⟩), .pointer (some ⟨a, 0, none⟩), .int .u64 150], .iface 124 (.agg #[.pointer (some ⟨4, 76, none⟩)])] w fun e w' =>
      e = .returned (.bool true) ∧ w.grownBy w' (some b) ∧ w'.cell? ⟨b, 0, none⟩ = some (.int .i64 n) := by
  have hbl := World.block_lt_of_cell? w _ hb
  have hal := World.block_lt_of_cell? w _ ha
  have e1 := ex_typeOf
  have e2 := as_typeOf
  have e3 := ex_ass
  have e4 := as_as
  have e5 := as_mAss
  have e6 := ex_vElem
  have e8 := ex_valueOf
  have e9 := as_vE
  have e10 := ex_set
  obtain ⟨W1, hW1⟩ : ∃ W1, w.alloc (.cells #[.pointer (some ⟨4, 78, none⟩), .pointer (some ⟨a, 0, none⟩), .int .u64 150] 102) = W1 := ⟨_, rfl⟩
  have hB1 : Below w.heap.size w W1 := by rw [← hW1]; exact below_one _ _
  have hc0 : W1.cell? ⟨w.heap.size, 0, none⟩ = some (.pointer (some ⟨4, 78, none⟩)) := by rw [← hW1]; exact cel_new w _ _ 0 rfl
  have hc1 : W1.cell? ⟨w.heap.size, 1, none⟩ = some (.pointer (some ⟨a, 0, none⟩)) := by rw [← hW1]; exact cel_new w _ _ 1 rfl
  have hc2 : W1.cell? ⟨w.heap.size, 2, none⟩ = some (.int .u64 150) := by rw [← hW1]; exact cel_new w _ _ 2 rfl
  have f1 := as_vElem ⟨a, 0, none⟩ ⟨b, 0, none⟩ W1 (celB hB1 ha)
  obtain ⟨W2, hW2⟩ : ∃ W2, W1.alloc (.cells #[.int .i64 n] 76) = W2 := ⟨_, rfl⟩
  have hB2 : Below w.heap.size w W2 := by rw [← hW2]; exact below_al hB1 _
  have hb2 := celB hB2 hb
  have hf2 : W2.frozen? ⟨b, 0, none⟩ = false := by rw [← hf]; unfold World.frozen?; simp only []; rw [hB2.block b hbl]
  have hq : W2.cell? ⟨W1.heap.size, 0, none⟩ = some (.int .i64 n) := by rw [← hW2]; exact cel_new W1 _ _ 0 rfl
  have f2 := as_set b W1.heap.size n _ W2 hb2 hf2 hq
  have hg : w.grownBy (W2.setCell ⟨b, 0, none⟩ (.int .i64 n)) (some b) := Lib.grownBy_setB (grown_of_below hB2 _) 0 _
  have hd : (W2.setCell ⟨b, 0, none⟩ (.int .i64 n)).cell? ⟨b, 0, none⟩ = some (.int .i64 n) := World.cell?_setCell_same' _ _ _ (by rw [hb2]; rfl)
  unfold wrongV
  go_enter Tryd.func52, Tryd.ntmps52
  go_wp2
  refine wp_loop_rounds 1 ?_
  rw [rounds_succ]
  go_wp2
  go_ret
  exact ⟨rfl, hg, hd⟩

set_option maxHeartbeats 4000000 in
theorem As_ (n : Int) (b : Nat) (w : World) (hG : GW w) (hb : w.cell? ⟨b, 0, none⟩ = some (.int .i64 0)) (hf : w.frozen? ⟨b, 0, none⟩ = false) :
    Calls Tryd.prog 35 #[wrongV n, .iface 78 (.pointer (some ⟨b, 0, none⟩))] w fun e w' =>
      e = .returned (.bool true) ∧ w.grownBy w' (some b) ∧ w'.cell? ⟨b, 0, none⟩ = some (.int .i64 n) := by
  have hbl := World.block_lt_of_cell? w _ hb
  obtain ⟨_, _, _, _, _, _, _, _, _, _, _, g6⟩ := id hG
  have e8 := ex_valueOf
  have e9 := as_vP
  have e10 := ex_type
  have e11 := as_ty
  have e12 := ex_kind
  have e13 := as_kiP
  have e14 := as_kiE
  have e15 := as_mKind
  have e16 := ex_isNil
  have e17 := ex_elem
  have e18 := as_el
  have e19 := as_mElem
  have e20 := ex_impl
  have e21 := as_im
  have e22 := as_mImpl
  obtain ⟨W1, hW1⟩ : ∃ W1, w.alloc (.cells #[.pointer (some ⟨b, 0, none⟩)] 78) = W1 := ⟨_, rfl⟩
  have hB1 : Below w.heap.size w W1 := by rw [← hW1]; exact below_one _ _
  have hz1 : W1.heap.size = w.heap.size + 1 := by rw [← hW1]; simp
  have hx1 : W1.cell? ⟨w.heap.size, 0, none⟩ = some (.pointer (some ⟨b, 0, none⟩)) := by rw [← hW1]; exact cel_new w _ _ 0 rfl
  obtain ⟨W2, hW2⟩ : ∃ W2, W1.alloc (.cells #[.pointer (some ⟨4, 78, none⟩), .pointer (some ⟨w.heap.size, 0, none⟩), .int .u64 150] 102) = W2 := ⟨_, rfl⟩
  have hB2 : Below w.heap.size w W2 := by rw [← hW2]; exact below_al hB1 _
  have hc0 : W2.cell? ⟨w.heap.size + 1, 0, none⟩ = some (.pointer (some ⟨4, 78, none⟩)) := by rw [← hW2, ← hz1]; exact cel_new W1 _ _ 0 rfl
  have hc1 : W2.cell? ⟨w.heap.size + 1, 1, none⟩ = some (.pointer (some ⟨w.heap.size, 0, none⟩)) := by rw [← hW2, ← hz1]; exact cel_new W1 _ _ 1 rfl
  have hc2 : W2.cell? ⟨w.heap.size + 1, 2, none⟩ = some (.int .u64 150) := by rw [← hW2, ← hz1]; exact cel_new W1 _ _ 2 rfl
  have hx2 : W2.cell? ⟨w.heap.size, 0, none⟩ = some (.pointer (some ⟨b, 0, none⟩)) := by rw [← hW2]; exact cel_al hx1 _
  have f1 := as_isNil ⟨w.heap.size, 0, none⟩ ⟨b, 0, none⟩ W2 hx2
  have hb2 := celB hB2 hb
  have hf2 : W2.frozen? ⟨b, 0, none⟩ = false := by rw [← hf]; unfold World.frozen?; simp only []; rw [hB2.block b hbl]
  have g62 := celB hB2 g6
  have HA := as_ n b w.heap.size W2 hb2 hf2 hx2
  unfold wrongV at HA ⊢
  have HA := Lib.hid HA
  go_enter Tryd.func35, Tryd.ntmps35
  go_wp2_with fail
  refine HA.out.mono ?_
  rintro e W3 ⟨rfl, hg3, hd3⟩
  go_wp2
  go_ret
  exact ⟨rfl, ⟨hg3.os.trans hB2.os, hg3.tape.trans hB2.tape, hg3.output.trans hB2.output, Nat.le_trans hB2.size hg3.size, fun i hi hr => (hg3.block i (Nat.lt_of_lt_of_le hi hB2.size) hr).trans (hB2.block i hi)⟩, hd3⟩

set_option maxHeartbeats 4000000 in
theorem pax_told (n : Int) (w : World) (hG : GW w) :
    Calls Tryd.prog 23 #[wrongV n] w fun e w' => e = .returned (.tuple #[.int .i64 n, .int .i64 90]) ∧ Below w.heap.size w w' := by
  have hA := As_ n w.heap.size (w.alloc (.cells #[.int .i64 0] 76)) (hG.below (below_one _ _)) (cel_new w _ _ 0 rfl) (by unfold World.frozen?; simp only []; rw [World.alloc_heap_new]; rfl)
  have HA := Lib.hid hA
  clear hA
  go_enter Tryd.func23, Tryd.ntmps23
  go_wp2_with fail
  refine HA.out.mono ?_
  rintro e W1 ⟨rfl, hg, hd⟩
  go_wp2
  exact bodyPost_ret (v := .tuple #[.int .i64 n, .int .i64 90]) (by simp [results, Tryd.results23, go_sem]) rfl ⟨rfl, (below_one w (.cells #[.int .i64 0] 76)).trans ⟨hg.os, hg.tape, hg.output, hg.size, fun i hi => hg.block i (by simp; omega) (by intro e; injection e; omega)⟩⟩
end Go.Proofs.YtbcjhmeeonhmaaaDoor.H
end

/-
A range over a function, where the round's variable has a block of its own (it is captured, or its address is taken): one law for the caller, out of the iterator's contract. Over any program. By this session.
-/
section
set_option linter.unusedVariables false
namespace Go.Proofs.YtbcjhmeeonhmaaaDoor.H
open Go Go.RowKit

theorem wp_rangeFunc_iterA {P : Program} {α : Type} {g : Operand} {ps : Array Tmp} {assign body : Code} {Q : Exit → Act → World → Prop} {a : Act} {w : World}
    {gf : Nat} {lb : Array Value} (hg : a.eval g = .func (.func gf) #[] lb) (eg : ∀ args w, (callFunc gf args).run P w = .ok (.enter gf args) w)
    {encs : α → Array Value} {St Kp : World → World → Prop} {Yp : List α → α → World → Prop} {S Sp : List α → World → Prop} {P0 : World → Prop} (hseq : Iter P gf lb encs St Kp Yp S Sp P0)
    (hSt : ∀ A B, St A B → ∀ k o, w.heap.size ≤ k → A.heap[k]? = some o → o.isCells = false → o.isWalk = false → B.heap[k]? = some o) (hP0 : ∀ W, Below w.heap.size w W → P0 W)
    (hKt : ∀ {A B C : World}, Kp A B → Kp B C → Kp A C) (hKa : ∀ (W : World) (o : Obj), w.heap.size ≤ W.heap.size → Kp W (W.alloc o)) (hKb : ∀ (W : World) (l : Nat) (o o' : Obj), w.heap.size ≤ l → W.heap[l]? = some o → o.isCells = false → o.isWalk = false → Kp W (W.putObj l o')) (hps : ∀ x, (encs x).size = ps.size)
    (I : List α → World → Prop) (Ix : Code → List α → World → Prop) (hI : OwnFrom w.heap.size I) (hIx : ∀ c, OwnFrom w.heap.size (Ix c))
    (hIs : ∀ s A B, I s A → St A B → I s B) (hIxs : ∀ c s A B, Ix c s A → St A B → Ix c s B)
    (hY : ∀ x, OwnFrom w.heap.size (fun pre W => Yp pre x W)) (hS : OwnFrom w.heap.size S) (hSp : OwnFrom w.heap.size Sp) (h0 : I [] w) (a₁ : α → Nat → Act) (ob : α → Obj) (hob : ∀ x, (ob x).isCells = true)
    (hassign : ∀ (l : Nat) (x : α) (W : World) (K : Act → World → Prop), K (a₁ x W.heap.size) (W.alloc (ob x)) →
      assign.wpIn (Fence.wide.inRound l) 0 P (Exit.then K (fun _ _ _ => False)) { tmps := (ps.zip (encs x)).foldl (fun t (p, v) => t.setIfInBounds p v) a.tmps, defers := [] } W)
    (hbody : ∀ (l : Nat) (pre : List α) (x : α) (W : World) (b : Nat), w.heap.size ≤ b → W.heap[b]? = some (ob x) → I pre W → Yp pre x W → body.wpIn (Fence.wide.inRound l) 0 P (iterPost w.heap.size Kp I Ix (pre ++ [x]) W) (a₁ x b) W)
    (hdone : ∀ (D : Nat) (xs : List α) (W : World), w.heap.size ≤ D → S xs W → I xs W → W.heap[D]? = some (.deferred (some [])) → Q .normal { a with defers := { target := .collected D, args := #[] } :: a.defers } W)
    (hstop : ∀ (D : Nat) (c : Code) (pre : List α) (W : World), w.heap.size ≤ D → Sp pre W → Ix c pre W → W.heap[D]? = some (.deferred (some [])) → c.wpIn Fence.wide 0 P Q { a with defers := { target := .collected D, args := #[] } :: a.defers } W) :
    (Code.rangeFunc g ps assign body).wpIn Fence.wide 0 P Q a w := by
  refine wpIn_rangeFunc ?_
  intro fn hfn
  rw [Fence.wide_round]
  obtain ⟨rec, hrec⟩ : ∃ rec : LoopState → Option Code → Loop, rec = fun st pe => { state := st, pending := pe, fn, tmps := a.tmps, params := ps, assign, body, defers := w.heap.size } := ⟨_, rfl⟩
  obtain ⟨W1, hW1⟩ : ∃ W1, (w.alloc (.deferred (some []))).alloc (.loop (rec .ready none)) = W1 := ⟨_, rfl⟩
  have hL1 : W1.heap[w.heap.size + 1]? = some (.loop (rec .ready none)) := by
    rw [← hW1]; have := World.alloc_heap_new (w.alloc (.deferred (some []))) (.loop (rec .ready none)); rwa [World.size_alloc] at this
  have hK1 : W1.heap[w.heap.size]? = some (.deferred (some [])) := by
    rw [← hW1]; exact (Below.heap_alloc _ _ _ (by simp)).trans (World.alloc_heap_new w _)
  have own_al : ∀ {β : Type} {I : β → World → Prop} (_ : OwnFrom w.heap.size I) {s : β} {W : World} (o : Obj), I s W → I s (W.alloc o) := fun h s W o hs => h _ _ _ none hs (World.grownBy_alloc W o none) (fun r e => by cases e)
  have own_put : ∀ {β : Type} {I : β → World → Prop} (_ : OwnFrom w.heap.size I) {s : β} {W : World} {l : Nat} {o : Obj} (o' : Obj), I s W → w.heap.size ≤ l → W.heap[l]? = some o → o.isCells = false → I s (W.putObj l o') :=
    fun h s W l o o' hs hl ho hc => h _ _ _ (some l) hs (grownBy_putObj' W l o') (fun r e => by cases e; exact ⟨hl, o, ho, hc⟩)
  have hI1 : I [] W1 := by rw [← hW1]; exact own_al hI _ (own_al hI _ h0)
  have hb1 : Below w.heap.size w W1 := by
    rw [← hW1]; exact ((Below.refl _ w).alloc (Nat.le_refl _) _).alloc (by simp) _
  refine ⟨w.heap.size + 1, [{ target := .collected w.heap.size, args := #[] }], W1, { target := .fn (.func gf) lb, args := #[.func (.yield (w.heap.size + 1)) #[] #[]] }, W1, gf,
    #[.func (.yield (w.heap.size + 1)) #[] #[]] ++ lb, W1, ?_, ?_, ?_, ?_, (fun h => by cases h), ?_⟩
  · rw [← hW1, hrec]; exact run_enterLoop_outer _ _ _ _ _
  · simp only [resolve, hg]
    simp [go_sem]
  · intro f' hf'; trivial
  · simp [invoke, go_sem, eg]
  · refine callsIn_wide.2 ?_
    refine (hseq (w.heap.size + 1)
      (fun pre W => I pre W ∧ W.heap[w.heap.size + 1]? = some (.loop (rec .ready none)) ∧ W.heap[w.heap.size]? = some (.deferred (some [])))
      (fun pre W => ∃ c, Ix c pre W ∧ W.heap[w.heap.size + 1]? = some (.loop (rec .done (some c))) ∧ W.heap[w.heap.size]? = some (.deferred (some [])))
      W1
      (fun s A B hs hst => ⟨hIs s A B hs.1 hst, hSt A B hst _ _ (by omega) hs.2.1 rfl rfl, hSt A B hst _ _ (Nat.le_refl _) hs.2.2 rfl rfl⟩)
      (fun s A B hs hst => by
        obtain ⟨c, hc, hl, hk⟩ := hs
        exact ⟨c, hIxs c s A B hc hst, hSt A B hst _ _ (by omega) hl rfl rfl, hSt A B hst _ _ (Nat.le_refl _) hk rfl rfl⟩)
      (hP0 W1 hb1) ?_ ⟨hI1, hL1, hK1⟩).mono ?_
    · -- ONE ROUND
      rintro pre x W ⟨hi, hl, hk⟩ hyp
      have hlt0 : w.heap.size + 1 < W.heap.size := (Array.getElem?_eq_some_iff.1 hl).1
      have hy := run_yield (P := P) (args := encs x) hl (by rw [hrec]; exact hps x)
      rw [hrec] at hy
      obtain ⟨Wa, hWa⟩ : ∃ Wa, W.alloc (ob x) = Wa := ⟨_, rfl⟩
      have hbx : Wa.heap[W.heap.size]? = some (ob x) := by rw [← hWa]; exact World.alloc_heap_new _ _
      have hla : Wa.heap[w.heap.size + 1]? = some (.loop (rec .ready none)) := by rw [← hWa]; exact (Below.heap_alloc _ _ _ hlt0).trans hl
      have hka : Wa.heap[w.heap.size]? = some (.deferred (some [])) := by rw [← hWa]; exact (Below.heap_alloc _ _ _ (by omega)).trans hk
      have hia : I pre Wa := by rw [← hWa]; exact own_al hI _ hi
      have hya : Yp pre x Wa := by rw [← hWa]; exact own_al (I := fun pre W => Yp pre x W) (hY x) _ hyp
      have hKaa : Kp W Wa := by rw [← hWa]; exact hKa _ _ (by omega)
      have hlt : w.heap.size + 1 < Wa.heap.size := (Array.getElem?_eq_some_iff.1 hla).1
      have hne : W.heap.size ≠ w.heap.size + 1 := by omega
      refine ⟨fn, _, assign, body, hy, roundIn_of_wpIn trivial (hassign _ x W _ ?_)⟩
      rw [hWa]
      refine ⟨_, run_beginRound hla (by rw [hrec]), ?_⟩
      have hl2 : (Wa.putObj (w.heap.size + 1) (.loop { rec .ready none with state := .busy })).heap[w.heap.size + 1]? = some (.loop { rec .ready none with state := .busy }) := World.putObj_heap_same hlt
      have hk2 : (Wa.putObj (w.heap.size + 1) (.loop { rec .ready none with state := .busy })).heap[w.heap.size]? = some (.deferred (some [])) := (World.putObj_heap_other (by omega)).trans hka
      have hw2 : Kp W (Wa.putObj (w.heap.size + 1) (.loop { rec .ready none with state := .busy })) := hKt hKaa (hKb _ _ _ _ (by omega) hla rfl rfl)
      refine wpIn_mono (hbody _ pre x _ W.heap.size (by omega) ((World.putObj_heap_other hne).trans hbx) (own_put hI _ hia (by omega) hla rfl) (own_put (I := fun pre W => Yp pre x W) (hY x) _ hya (by omega) hla rfl)) ?_
      have fin : ∀ (jump : Option Code) (W3 : World), KeepsFrom w.heap.size (Wa.putObj (w.heap.size + 1) (.loop { rec .ready none with state := .busy })) W3 →
          (Instr.endRound (w.heap.size + 1) jump).run P W3 = .ok (.bool jump.isNone) (W3.putObj (w.heap.size + 1) (.loop (rec (if jump.isNone then .ready else .done) jump))) ∧
          W3.heap[w.heap.size + 1]? = some (.loop { rec .ready none with state := .busy }) ∧
          (W3.putObj (w.heap.size + 1) (.loop (rec (if jump.isNone then .ready else .done) jump))).heap[w.heap.size + 1]? = some (.loop (rec (if jump.isNone then .ready else .done) jump)) ∧
          (W3.putObj (w.heap.size + 1) (.loop (rec (if jump.isNone then .ready else .done) jump))).heap[w.heap.size]? = some (.deferred (some [])) := fun jump W3 hk3 => by
        have hl3 := hk3.same _ _ (by omega) hl2 rfl
        have := run_endRound (P := P) jump hl3
        rw [hrec] at this ⊢
        exact ⟨this, by rw [hrec] at hl3; exact hl3, World.putObj_heap_same (Array.getElem?_eq_some_iff.1 hl3).1, (World.putObj_heap_other (by omega)).trans (hk3.same _ _ (Nat.le_refl _) hk2 rfl)⟩
      have lv : ∀ (c : Code) (W3 : World), KeepsFrom w.heap.size (Wa.putObj (w.heap.size + 1) (.loop { rec .ready none with state := .busy })) W3 → Kp (Wa.putObj (w.heap.size + 1) (.loop { rec .ready none with state := .busy })) W3 → Ix c (pre ++ [x]) W3 →
          ∃ v w', (Instr.endRound (w.heap.size + 1) (some c)).run P W3 = .ok v w' ∧ ((Ending.returned v = .returned (.bool true) ∧ (I (pre ++ [x]) w' ∧ w'.heap[w.heap.size + 1]? = some (.loop (rec .ready none)) ∧ w'.heap[w.heap.size]? = some (.deferred (some []))) ∧ Kp W w') ∨
            (Ending.returned v = .returned (.bool false) ∧ (∃ c, Ix c (pre ++ [x]) w' ∧ w'.heap[w.heap.size + 1]? = some (.loop (rec .done (some c))) ∧ w'.heap[w.heap.size]? = some (.deferred (some []))) ∧ Kp W w')) := fun c W3 hk3 hkp3 hi3 => by
        obtain ⟨hr, hl3, hl4, hk4⟩ := fin (some c) W3 hk3
        exact ⟨_, _, hr, .inr ⟨rfl, ⟨c, own_put (hIx c) _ hi3 (by omega) hl3 rfl, hl4, hk4⟩, hKt (hKt hw2 hkp3) (hKb _ _ _ _ (by omega) hl3 rfl rfl)⟩⟩
      rintro e a3 W3 hp
      cases e with
      | normal =>
        obtain ⟨hk3, hkp3, hi3⟩ := hp
        obtain ⟨hr, hl3, hl4, hk4⟩ := fin none W3 hk3
        exact ⟨_, _, hr, .inl ⟨rfl, ⟨own_put hI _ hi3 (by omega) hl3 rfl, hl4, hk4⟩, hKt (hKt hw2 hkp3) (hKb _ _ _ _ (by omega) hl3 rfl rfl)⟩⟩
      | ret => exact lv _ W3 hp.1 hp.2.1 hp.2.2
      | exit id => exact lv _ W3 hp.1 hp.2.1 hp.2.2
      | goto t => exact lv _ W3 hp.1 hp.2.1 hp.2.2
      | panic ch => exact hp.elim
      | outgrown => exact hp.elim
    · -- BEHIND THE ITERATOR
      rintro e W2 ⟨⟨v, rfl⟩, (⟨xs, hS2, hi, hl, hk⟩ | ⟨pre, hSp2, c, hi, hl, hk⟩)⟩
      · exact ⟨none, _, by have := run_endLoop (P := P) hl (by rw [hrec]; simp); rw [hrec] at this; exact this, hdone _ xs _ (Nat.le_refl _) (own_put hS _ hS2 (by omega) hl rfl) (own_put hI _ hi (by omega) hl rfl) ((World.putObj_heap_other (by omega)).trans hk)⟩
      · exact ⟨some c, _, by have := run_endLoop (P := P) hl (by rw [hrec]; simp); rw [hrec] at this; exact this, hstop _ c pre _ (Nat.le_refl _) (own_put hSp _ hSp2 (by omega) hl rfl) (own_put (hIx c) _ hi (by omega) hl rfl) ((World.putObj_heap_other (by omega)).trans hk)⟩
end Go.Proofs.YtbcjhmeeonhmaaaDoor.H
end

/-
pax.Get, walked.
-/
section
set_option linter.unusedVariables false
set_option maxRecDepth 100000
namespace Go.Proofs.YtbcjhmeeonhmaaaDoor.H
open Go Go.RowKit Go.Proofs.YtbcjhmeeonhmaaaDoorW.PrintWords Go.Proofs.YtbcjhmeeonhmaaaDoorW.PrintMore Go.Proofs.YtbcjhmeeonhmaaaDoor.M
attribute [local go_sem] Oper.semAt_some

/-- The records of bytes, and where there is none. -/
def recF : Nat → List S31 → ByteArray → List S31 × Option ByteArray
  | 0, pre, t => (pre, none)
  | k + 1, pre, t => if t.size = 0 then (pre, none) else match firstS t with
    | none => (pre, some t)
    | some (n, v, m) => if pre.length + 1 ≤ 30 ∧ n ∉ pre.map (·.f0) then recF k (pre ++ [⟨n, v⟩]) (t.extract m t.size) else (pre, some t)
def getsS (s : ByteArray) : List S31 × Int × Int := match recF 40 [] s with
  | (xs, none) => (xs, 0, 0)
  | (_, some t) => ([], (s.size : Int) - t.size, 90)
theorem Rec.run {s t : ByteArray} {pre : List S31} (h : Rec s pre t) : ∀ k, recF (pre.length + k) [] s = recF k pre t := by
  induction h with
  | nil => intro k; simp
  | snoc h h0 hf hn ih =>
    intro k
    rw [List.length_append, List.length_singleton, Nat.add_assoc, ih, Nat.add_comm 1 k]
    simp only [recF, if_neg h0, hf]
    rw [if_pos hn]
theorem getsS_done {s t : ByteArray} {xs : List S31} (h : Rec s xs t) (ht : t.size = 0) : getsS s = (xs, 0, 0) := by
  have hl := h.size
  have := h.run (39 - xs.length + 1)
  rw [show xs.length + (39 - xs.length + 1) = 40 from by omega] at this
  unfold getsS
  rw [this, recF, if_pos ht]
theorem getsS_bad {s t : ByteArray} {xs : List S31} (h : Rec s xs t) (hb : Bad xs t) : getsS s = ([], (s.size : Int) - t.size, 90) := by
  have hl := h.size
  have := h.run (39 - xs.length + 1)
  rw [show xs.length + (39 - xs.length + 1) = 40 from by omega] at this
  unfold getsS
  rw [this, recF, if_neg hb.1]
  rcases hb.2 with h1 | ⟨n, v, k, h1, h2⟩
  · rw [h1]
  · rw [h1]; simp only []; rw [if_neg h2]

theorem records_mk (X : Nat) (w : World) : Calls Tryd.prog 22 #[.pointer (some ⟨X, 0, none⟩)] w fun e w' =>
    e = .returned (.func (.func 33) #[] #[.pointer (some ⟨w.heap.size, 0, none⟩)]) ∧ w.alloc (.cells #[.pointer (some ⟨X, 0, none⟩)] 41) = w' := by
  have hmf : ∀ (fn : Fn) (first cap : Array Value) (w : World), (Instr.makeFunc fn first cap).run Tryd.prog w = .ok (.func fn first cap) w := fun _ _ _ _ => rfl
  go_enter Tryd.func22, Tryd.ntmps22
  go_wp2
  go_ret
  exact ⟨rfl, rfl⟩

/-- Records' cells. -/
def cellsA (xs : List S31) : List Value := xs.flatMap fun x => [.string x.f0, .string x.f1]
theorem cellsA_snoc (xs : List S31) (x : S31) : cellsA (xs ++ [x]) = cellsA xs ++ [.string x.f0, .string x.f1] := by simp [cellsA]
theorem R_of_cells {w : World} {base : Nat} {v : Value} {xs : List S31} (h : w.ownsRow base 31 2 v xs.length (cellsA xs)) : Kd.R k31 31 w base (fun _ => True) v xs := by
  refine ⟨fun _ _ => trivial, _, h, ?_⟩
  clear h
  have : ∀ (R : S31 → List Value → Prop), (∀ x : S31, R x [.string x.f0, .string x.f1]) → Reps R 2 xs (cellsA xs) := by
    intro R hR
    induction xs with
    | nil => exact Reps.none _ _
    | cons x t ih =>
      show Reps R 2 (x :: t) (Value.string x.f0 :: Value.string x.f1 :: cellsA t)
      exact Reps.c2 (hR x) ih
  exact this _ (fun x => k31_mkM _ _ _ x)

theorem cell_two_new (w : World) (x y : Value) (t : TypeId) : ∀ j u, [x, y][j]? = some u → (w.alloc (.cells #[x, y] t)).cell? ((⟨w.heap.size, 0, none⟩ : Addr).add j) = some u := by
  intro j u hj
  have h := two_cells (World.alloc_heap_new w (.cells #[x, y] t))
  match j, hj with
  | 0, hj => simp at hj; subst hj; exact h.1
  | 1, hj => simp at hj; subst hj; exact h.2.1
  | j + 2, hj => simp at hj
theorem own_block_kind {W : World} {base : Nat} {e : TypeId} {size n : Nat} {v : Value} {xs : List Value} (hr : W.ownsRow base e size v n xs) {k : Nat} {o : Obj} (hk : W.heap[k]? = some o) (ho : ∀ c fz, o ≠ .cells c e fz) : some k ≠ v.ownBlock := by
  rcases hr.2 with ⟨rfl, _⟩ | ⟨g, cap, cur, rfl, hb, hgb, _⟩
  · simp [Value.ownBlock]
  · intro h
    simp only [Value.ownBlock, Option.some.injEq] at h
    subst h
    rw [hgb] at hk
    exact ho _ _ (Option.some.inj hk).symm
theorem ownsRow_step {w0 W W' : World} {R base : Nat} {e : TypeId} {size n : Nat} {v : Value} {xs : List Value} (hr : W.ownsRow base e size v n xs) (h : RecStep w0 R W W') (hR : R < base) (he : e ≠ 69) : W'.ownsRow base e size v n xs := by
  refine ⟨hr.1, ?_⟩
  rcases hr.2 with h1 | ⟨g, cap, cur, h1, hb, hg, h2⟩
  · exact .inl h1
  · exact .inr ⟨g, cap, cur, h1, hb, h.1.2.2.2.2 g _ hg (by omega) (by intro c fz e'; injection e' with _ e' _; exact he e') rfl, h2⟩
theorem boxed_step {w0 W W' : World} {R B : Nat} {t : TypeId} {v : Value} (h : Boxed W B t v) (hs : RecStep w0 R W W') (hB : B ≠ R) (ht : t ≠ 69) : Boxed W' B t v :=
  hs.1.2.2.2.2 B _ h hB (by intro c fz e'; injection e' with _ e' _; exact ht e') rfl
/-- What Get hands back. -/
def GotA (s : ByteArray) (w : World) (e : Ending) (w' : World) : Prop :=
  ∃ v0 : Value, e = .returned (.tuple #[v0, .int .i64 (getsS s).2.1, .int .i64 (getsS s).2.2]) ∧ Kd.R k31 31 w' w.heap.size (fun _ => True) v0 (getsS s).1 ∧ Below w.heap.size w w'

set_option maxHeartbeats 4000000 in
theorem paxGet (s : ByteArray) (w : World) (hG : GW w) (hs : s.size ≤ 1073741824) : Calls Tryd.prog 10 #[.string s] w (GotA s w) := by
  have HS := Lib.hid hs
  obtain ⟨i0, hi, hz0, hz1, hz2⟩ := info_parts info31
  refine (callsIn_wide (n := 0)).1 ?_
  refine callsIn_of_wp_marks Tryd.func10 rfl trivial ?_ rfl
  simp only [Tryd.ntmps10, List.size_toArray, List.length_cons, List.length_nil, Nat.reduceAdd, Nat.reduceSub, Array.replicate_succ, Array.replicate_zero, List.push_toArray, List.append_toArray, List.nil_append, List.cons_append]
  gi_wp2_with (refine ⟨trivial, rfl, ?_⟩; gi_at_call 22; refine callsIn_wide.2 ((records_mk _ _).mono ?_); rintro e w' ⟨rfl, rfl⟩)
  obtain ⟨W0, hW0⟩ : ∃ W0, ((w.alloc (.cells #[.string s, .int .i64 s.size, .nilIface] 47)).alloc (.cells #[.slice none 0 0] 23)).alloc (.cells #[.pointer (some ⟨w.heap.size, 0, none⟩)] 41) = W0 := ⟨_, rfl⟩
  have hz : W0.heap.size = w.heap.size + 3 := by rw [← hW0]; simp
  have hB0 : Below w.heap.size w W0 := by rw [← hW0]; exact (((Below.refl _ w).alloc (Nat.le_refl _) _).alloc (by simp) _).alloc (by simp; omega) _
  have hRd : RdAt w.heap.size s s.size .nilIface W0 := by rw [← hW0]; exact heap_al (heap_al (World.alloc_heap_new _ _) _) _
  have hbL : Boxed W0 (w.heap.size + 1) 23 (.slice none 0 0) := by rw [← hW0]; have := Boxed.new (w.alloc (.cells #[.string s, .int .i64 s.size, .nilIface] 47)) 23 (.slice none 0 0); rw [World.size_alloc] at this; exact this.alloc _
  have hbB : Boxed W0 (w.heap.size + 1 + 1) 41 (.pointer (some ⟨w.heap.size, 0, none⟩)) := by rw [← hW0]; have := Boxed.new ((w.alloc (.cells #[.string s, .int .i64 s.size, .nilIface] 47)).alloc (.cells #[.slice none 0 0] 23)) 41 (.pointer (some ⟨w.heap.size, 0, none⟩)); rw [World.size_alloc, World.size_alloc] at this; exact this
  rw [hW0]
  clear hW0 hs
  refine wp_rangeFunc_iterA (gf := 33) (lb := #[.pointer (some ⟨w.heap.size + 1 + 1, 0, none⟩)]) rfl (enters_of Tryd.func33 (by kernel_rfl) rfl)
    (records_iter w hG w.heap.size (w.heap.size + 1 + 1) (Nat.le_refl _) s HS.out)
    (fun A B h k o hk h1 h2 h3 => h.1.2.2.2.2 k o h1 (by omega) (by rintro c fz rfl; cases h2) h3)
    (fun W h => ⟨celB (h.mono (Nat.le_refl _)) hbB.cell, hRd.below h, hB0.trans (h.mono (by omega)), by omega⟩)
    (fun h k => ⟨k.1.trans h.1, k.2.1.trans h.2.1, fun i c fz e => k.2.2.1 i c fz (h.2.2.1 i c fz e), fun i es c e => k.2.2.2.1 i es c (h.2.2.2.1 i es c e), fun b => k.2.2.2.2 (h.2.2.2.2 b)⟩)
    (fun W o hW => ⟨Below.heap_alloc _ _ _ (by omega), Below.heap_alloc _ _ _ (by omega), fun i c fz e => heap_al e _, fun i es c e => heap_al e _, fun b => b.alloc b.size _⟩)
    (fun W l o o' hl h h1 h2 => ⟨World.putObj_heap_other (by omega), World.putObj_heap_other (by omega), fun i c fz e => (World.putObj_heap_other (by rintro rfl; rw [h] at e; cases e; cases h1)).trans e, fun i es c e => (World.putObj_heap_other (by rintro rfl; rw [h] at e; cases e; cases h2)).trans e,
      fun b => b.trans ⟨rfl, rfl, rfl, by rw [World.putObj_size]; exact Nat.le_refl _, fun i hi => World.putObj_heap_other (by have := b.size; omega)⟩⟩) (fun _ => rfl)
    (fun pre W => (∃ v, Boxed W (w.heap.size + 1) 23 v ∧ W.ownsRow (w.heap.size + 1) 31 2 v pre.length (cellsA pre)) ∧ Boxed W (w.heap.size + 1 + 1) 41 (.pointer (some ⟨w.heap.size, 0, none⟩)) ∧ Below w.heap.size w W ∧ w.heap.size + 3 ≤ W.heap.size ∧ w.heap.size < W.heap.size)
    (fun _ _ _ => False) ?hI (fun _ _ _ _ _ hs _ _ => hs) ?hIs (fun _ _ _ _ h _ => h) ?hY ?hS ?hSp
    ⟨⟨_, hbL, World.ownsRow_nil _ _ _ _⟩, hbB, hB0, by omega, by omega⟩
    (fun x b => { tmps := #[.string s, undef, .slice none 0 0, .int .i64 0, .int .i64 0, .pointer (some ⟨w.heap.size, 0, none⟩), .pointer (some ⟨w.heap.size + 1, 0, none⟩), .pointer (some ⟨b, 0, none⟩), undef, undef, .string s, .agg #[.string s], .string s, .int .i64 s.size, .agg #[.string s, .int .i64 s.size, .nilIface], .pointer (some ⟨w.heap.size, 0, none⟩), .pointer (some ⟨w.heap.size, 0, none⟩), .func (.func 33) #[] #[.pointer (some ⟨w.heap.size + 1 + 1, 0, none⟩)], .agg #[.string x.f0, .string x.f1], undef, undef, undef, undef, undef, undef, undef, undef, undef, undef, undef, undef, undef, undef, undef, undef, undef, undef, undef, undef], defers := [] })
    (fun x => .cells #[.string x.f0, .string x.f1] 31) (fun _ => rfl) ?assign ?body ?done ?stop
  case hI =>
    rintro pre A B row ⟨⟨v, hv, hr⟩, hBx, hB, hz', hz''⟩ hg hrow
    exact ⟨⟨v, hv.kept hg (fun e => by have := hrow _ e.symm; omega), hr.kept hg (ownBlock_ne_row hr hrow)⟩, hBx.kept hg (fun e => by have := hrow _ e.symm; omega), hB.grown hg (by omega) (fun k e => by have := hrow _ e; omega), Nat.le_trans hz' hg.size, by have := hg.size; omega⟩
  case hIs =>
    rintro pre A B ⟨⟨v, hv, hr⟩, hBx, hB, hz', hz''⟩ hst
    exact ⟨⟨v, boxed_step hv hst (by omega) (by decide), ownsRow_step hr hst (by omega) (by decide)⟩, boxed_step hBx hst (by omega) (by decide), hst.2 hB, Nat.le_trans hz' hst.1.2.2.2.1, by have := hst.1.2.2.2.1; omega⟩
  case hY => intro x; exact ownFrom_pure _ _
  case hS =>
    rintro xs A B row ⟨t, h1, h2⟩ hg hrow
    have hk : ∀ {t' : ByteArray} {ev : Value}, RdAt w.heap.size t' s.size ev A → RdAt w.heap.size t' s.size ev B := fun h => h.same (hg.block _ (lt_of_heap h) (fun e => by have := hrow _ e.symm; omega))
    exact ⟨t, h1, h2.elim (fun ⟨a, t', b⟩ => .inl ⟨a, t', hk b⟩) (fun ⟨a, t', b⟩ => .inr ⟨a, t', hk b⟩)⟩
  case hSp => exact ownFrom_pure _ _
  case assign =>
    intro l x W K hK
    unfold encA
    gi_wp2
    exact hK
  case stop =>
    rintro D c pre W _ _ h _
    exact h.elim
  case body =>
    rintro l pre x W b hb0 hbx ⟨⟨v, hv, hrow⟩, hBx, hB, hz', hz''⟩ ⟨hlen, _⟩
    have hc := hv.cell
    obtain ⟨x0, x1, _⟩ := two_cells hbx
    gi_wp2_with (gi_at_builtin; refine wpListIn_append_own _ rfl _ _ 23 rfl (w.heap.size + 1) 31 i0 (.agg #[.string ⟨#[]⟩, .string ⟨#[]⟩]) 2 32 Tryd.underlying23 hi hz0 hz1 hz2 rfl (by decide) _ _ _ rfl (hrow.alloc _) ⟨W.heap.size, 0, none⟩ 1 1 [.string x.f0, .string x.f1] rfl rfl (cell_two_new _ _ _ _) (by simp [Value.oneCell']) (by unfold maxLen; omega) (by omega) (by have := hB.size; simp; omega) ?_; intro v' w1 hown' hgrow _; obtain ⟨g', cap', rfl⟩ := ownsRow_succ hown'; obtain ⟨hv1, hv2, hr2, hk2, hb2⟩ := hv.appended (by decide) hrow (by omega) (Nat.le_refl _) hown' hgrow; have hc1 := hv1.cell; have hf1 := hv1.frozen)
    have hg2 : (W.alloc (.cells #[.string x.f0, .string x.f1] 31)).grownBy w1 v.ownBlock := hgrow
    have oth : ∀ (C : Nat) (o : Obj), W.heap[C]? = some o → (∀ c fz, o ≠ .cells c 31 fz) → C ≠ w.heap.size + 1 → (w1.setCell ⟨w.heap.size + 1, 0, none⟩ (.slice (some ⟨g', 0, none⟩) (pre.length + 1) cap')).heap[C]? = some o := fun C o h1 h2 h3 =>
      (appended_other (C := C) (v' := .slice (some ⟨g', 0, none⟩) (pre.length + 1) cap') hg2 (lt_of_heap h1) (B := w.heap.size + 1) h3 (own_block_kind hrow h1 h2)).trans h1
    have oX := appended_other (C := w.heap.size) (v' := .slice (some ⟨g', 0, none⟩) (pre.length + 1) cap') hg2 (by omega) (B := w.heap.size + 1) (by omega) (fun e => by rcases ownBlock_ne_of_base hrow (X := w.heap.size) (by omega) with h | h; rw [h] at e; cases e; exact h e.symm)
    have oB := appended_other (C := w.heap.size + 1 + 1) (v' := .slice (some ⟨g', 0, none⟩) (pre.length + 1) cap') hg2 (by omega) (B := w.heap.size + 1) (by omega) (hBx.not_row (by decide) hrow)
    have hBn : ∀ c fz, W.heap[w.heap.size + 1]? ≠ some (.cells c 69 fz) := fun c fz e => by rw [show W.heap[w.heap.size + 1]? = _ from hv] at e; injection e with e; injection e with _ e _; cases e
    have hBm : ∀ es c, W.heap[w.heap.size + 1]? ≠ some (.map es c) := fun es c e => by rw [show W.heap[w.heap.size + 1]? = _ from hv] at e; cases e
    have hBB : Below w.heap.size w (w1.setCell ⟨w.heap.size + 1, 0, none⟩ (.slice (some ⟨g', 0, none⟩) (pre.length + 1) cap')) := hB.trans (hb2.mono (by omega))
    exact ⟨hk2.from _, ⟨oX, oB, fun k c fz e => oth k _ e (by intro c' fz' e'; injection e' with _ e' _; cases e') (by rintro rfl; exact hBn _ _ e), fun k es c e => oth k _ e (by intro c' fz' e'; cases e') (by rintro rfl; exact hBm _ _ e), fun _ => hBB⟩,
      ⟨⟨_, hv2, by rw [cellsA_snoc]; simpa using hr2⟩, oB.trans hBx, hBB, by have := hb2.size; omega, by have := hb2.size; omega⟩⟩
  case done =>
    rintro D ys W hD ⟨t, hE, hend⟩ ⟨⟨v, hv, hrow⟩, hBx, hB, hz', hz''⟩ hK
    have hc := hv.cell
    rcases hend with ⟨ht, t', hR⟩ | ⟨hbad, t', hR⟩
    · have hg := getsS_done hE ht
      have c2 := hR.c2
      have HGS := Lib.hid hg
      clear hg ht hE
      gi_wp2
      refine ⟨by simp, .inl ⟨_, _, rfl, run_takeDeferred hK, ?_⟩⟩
      refine ⟨_, results_tmp3 rfl _ _ _, ?_⟩
      refine ⟨v, by rw [HGS.out]; rfl, ?_, ?_⟩
      · rw [HGS.out]; exact R_of_cells (ownsRow_base (ownsRow_putObj (W := W) (l := D) hrow _ hK rfl) (by omega))
      · exact hB.trans (belowK_b (w := w) (Nat.le_refl _) W D _ _ (by omega) hK rfl rfl)
    · have hg := getsS_bad hE hbad
      have c2 := hR.c2
      have HGS := Lib.hid hg
      obtain ⟨n, hn⟩ : ∃ n, (s.size : Int) - t.size = n := ⟨_, rfl⟩
      rw [hn] at HGS c2
      have HT := Lib.hid (pax_told n W (hG.below hB))
      unfold wrongV at c2 HT
      clear hg hbad hE hn
      gi_wp2_with fail
      refine ⟨trivial, rfl, callsIn_wide.2 (HT.out.mono ?_)⟩
      rintro _ W2 ⟨rfl, hb2⟩
      have hK2 := heapB hb2 (lt_of_heap hK) hK
      gi_wp2
      refine ⟨by simp, .inl ⟨_, _, rfl, run_takeDeferred hK2, ?_⟩⟩
      refine ⟨_, results_tmp3 rfl _ _ _, ?_⟩
      refine ⟨.slice none 0 0, by rw [HGS.out]; rfl, ?_, ?_⟩
      · rw [HGS.out]; exact Kd.R_nil _ _ _ _ _
      · exact (hB.trans (hb2.mono hB.size)).trans (belowK_b (w := w) (Nat.le_refl _) W2 D _ _ (by omega) hK2 rfl rfl)
end Go.Proofs.YtbcjhmeeonhmaaaDoor.H
end

-- Laid by a program of this session for this claim.
section
namespace Go.Proofs.YtbcjhmeeonhmaaaDoor.M
open Go.RowKit Go.Proofs.YtbcjhmeeonhmaaaDoorW.PrintWords Go.Proofs.YtbcjhmeeonhmaaaDoorW.PrintLast Go.Proofs.YtbcjhmeeonhmaaaDoorW.PrintMore
attribute [local go_sem] max2_int min2_int max_two min_two max_three min_three max_four min_four   -- for this text's walks alone
set_option linter.unusedVariables false
set_option linter.unusedSimpArgs false

/-! ### pax_Get: function 10 -/
-- IMPORT Derived.Test.YtbcjhmeeonhmaaaDoorHPaxGet Derived.Test.YtbcjhmeeonhmaaaDoorHGm
def pax_Get.f (a0 : ByteArray) : Option (List S31 × Int × Int) := if a0.size ≤ 1073741824 then some (H.getsS a0) else none
theorem pax_Get.calls (a0 : ByteArray) (r1 : List S31) (r2 : Int) (r3 : Int) (w : World) (hG : GW w) (h : pax_Get.f a0 = some (r1, r2, r3)) :
    Calls Tryd.prog 10 #[.string a0] w fun e w' => ∃ v0_ : Value, e = .returned (.tuple #[v0_, .int .i64 r2, .int .i64 r3]) ∧ Kd.R k31 31 w' w.heap.size (fun _ => True) v0_ r1 ∧ Below w.heap.size w w' := by
  unfold pax_Get.f at h
  by_cases hh : a0.size ≤ 1073741824
  · rw [if_pos hh] at h
    have := H.paxGet a0 w hG hh
    unfold H.GotA at this
    rw [Option.some.inj h] at this
    exact this
  · rw [if_neg hh] at h; cases h

end Go.Proofs.YtbcjhmeeonhmaaaDoor.M
end

-- Laid by a program of this session for this claim.
section
namespace Go.Proofs.YtbcjhmeeonhmaaaDoor.M
open Go.RowKit Go.Proofs.YtbcjhmeeonhmaaaDoorW.PrintWords Go.Proofs.YtbcjhmeeonhmaaaDoorW.PrintLast Go.Proofs.YtbcjhmeeonhmaaaDoorW.PrintMore
attribute [local go_sem] max2_int min2_int max_two min_two max_three min_three max_four min_four   -- for this text's walks alone
set_option linter.unusedVariables false
set_option linter.unusedSimpArgs false

/-! ### pax_One: function 15 -/
-- IMPORT Derived.Test.YtbcjhmeeonhmaaaDoorHOneW
def pax_One.f (a0_0 : ByteArray) (a0_1 : ByteArray) : Option (ByteArray × Int) := some (H.oneS a0_0 a0_1)
theorem pax_One.calls (a0_0 : ByteArray) (a0_1 : ByteArray) (r1 : ByteArray) (r2 : Int) (w : World) (h : pax_One.f a0_0 a0_1 = some (r1, r2)) :
    Calls Tryd.prog 15 #[.agg #[.string a0_0, .string a0_1]] w fun e w' => e = .returned (.tuple #[.string r1, .int .i64 r2]) ∧ Below w.heap.size w w' := by
  have := H.one a0_0 a0_1 w
  rw [Option.some.inj h] at this
  exact this

end Go.Proofs.YtbcjhmeeonhmaaaDoor.M
end

-- Laid by a program of this session for this claim.
section
namespace Go.Proofs.YtbcjhmeeonhmaaaDoor.M
open Go.RowKit Go.Proofs.YtbcjhmeeonhmaaaDoorW.PrintWords Go.Proofs.YtbcjhmeeonhmaaaDoorW.PrintLast Go.Proofs.YtbcjhmeeonhmaaaDoorW.PrintMore
attribute [local go_sem] max2_int min2_int max_two min_two max_three min_three max_four min_four   -- for this text's walks alone
set_option linter.unusedVariables false
set_option linter.unusedSimpArgs false

/-! ### pax_Size: function 14 -/
def pax_Size.f (a0_0 : ByteArray) (a0_1 : ByteArray) : Option (Int) := (pax_One.f a0_0 a0_1).bind fun bt179 => (some (bt179.1.size : Int))
set_option maxHeartbeats 8000000 in
set_option maxRecDepth 100000 in
theorem pax_Size.calls (a0_0 : ByteArray) (a0_1 : ByteArray) (r : Int) (w : World) (h : pax_Size.f a0_0 a0_1 = some r) :
    Calls Tryd.prog 14 #[.agg #[.string a0_0, .string a0_1]] w fun e w' => e = .returned (.int .i64 r) ∧ Below w.heap.size w w' := by
  have hu31 := Tryd.underlying31
  have HB := Aside0.mk (Below.refl w.heap.size w)
  have H : ((pax_One.f a0_0 a0_1).bind fun bt179 => (some (bt179.1.size : Int))) = some r := h
  clear h
  replace H := Option.bind_eq_some_iff.mp H
  obtain ⟨⟨t179, t180⟩, A20, H⟩ := H
  replace H : (some (t179.size : Int)) = some r := H
  have A2 := Aside0.mk A20
  clear A20
  obtain rfl := Option.some.inj H
  go_enter Tryd.func14, Tryd.ntmps14
  go_wp2_with (first | ((with_reducible refine gate_dst (N := 1) rfl ?_); refine box_event ?hg (N := 1) ?hd (cs := #[.string a0_0, .string a0_1]) (t := 31) ?hr ?_; (case hd => rfl); (case hg => rfl); (case hr => first | (go_simp; done) | (go_simp; rfl)); intro gb178 hg w3 hbox hb; have n0_ := Aside0.mk (below_step (by repeat (first | (with_reducible first | exact HB.out | apply below_alloc | apply pw_below_drewN | apply below_drew1) | exact HB.out)) hb); have n1_ := Aside0.mk (hbox); have n2_ := Aside0.mk ((by rw [hg]; exact (below_size (by repeat (first | (with_reducible first | exact HB.out | apply below_alloc | apply pw_below_drewN | apply below_drew1) | exact HB.out))) : w.heap.size ≤ gb178)); have n3_ := Aside0.mk ((by rw [hg]; exact (below_size (by repeat (first | (with_reducible first | exact HB.out | apply below_alloc | apply pw_below_drewN | apply below_drew1) | exact HB.out))) : w.heap.size ≤ gb178)); clear HB; have HB := n0_; have BK178 := n1_; have GW178 := n2_; have GE178 := n3_; clear n0_ n1_ n2_ n3_; clear hb hbox hg; have hcz4_0 : w3.cell? ⟨gb178, 0, none⟩ = some (.string a0_0) := (blk_cell BK178.out 0).trans rfl; have hcz4_1 : w3.cell? ⟨gb178, 1, none⟩ = some (.string a0_1) := (blk_cell BK178.out 1).trans rfl; have hfz4_0 := blk_frozen BK178.out 0; have hfz4_1 := blk_frozen BK178.out 1) | ((with_reducible refine gate_callee (f := 15) rfl ?_); refine goesL_ (some 7) rfl rfl Tryd.func15 (by kernel_rfl) rfl #[.agg #[.string a0_0, .string a0_1]] rfl (by (try simp only [List.map_toArray, List.map_cons, List.map_nil]); first | done | rfl | (simp only [List.length_drop, List.length_take]; rfl)) ?_; (with_reducible refine (pax_One.calls a0_0 a0_1 t179 t180 _ A2.out).mono ?_); rintro e w5 ⟨rfl, hb⟩; refine ⟨_, rfl, ?_⟩; have n0_ := Aside0.mk (blk_below (g := gb178) (o := .cells #[.string a0_0, .string a0_1] 31 (0, 0)) (by (with_reducible repeat (first | refine blk_drewN ?_ _ | refine blk_drew ?_ | refine blk_alloc ?_ _)); exact BK178.out) hb); have n1_ := Aside0.mk (below_step (by repeat (first | (with_reducible first | exact HB.out | apply below_alloc | apply pw_below_drewN | apply below_drew1 | refine below_set ?_ GE178.out) | exact HB.out)) hb); clear BK178; clear HB; have BK178 := n0_; have HB := n1_; clear n0_ n1_; (try clear hb); (try clear hb2); (try clear hk); (try clear hi)))
  go_ret
  exact ⟨by first | rfl | (simp [errW_none, errW_some] <;> rfl) | (simp [*, errW_none, errW_some] <;> rfl), by repeat (first | (with_reducible first | exact HB.out | apply below_alloc | apply pw_below_drewN | apply below_drew1 | refine below_set ?_ GE178.out) | exact HB.out)⟩

end Go.Proofs.YtbcjhmeeonhmaaaDoor.M
end

-- Laid by a program of this session for this claim.
section
namespace Go.Proofs.YtbcjhmeeonhmaaaDoor.M
open Go.RowKit Go.Proofs.YtbcjhmeeonhmaaaDoorW.PrintWords Go.Proofs.YtbcjhmeeonhmaaaDoorW.PrintLast Go.Proofs.YtbcjhmeeonhmaaaDoorW.PrintMore
attribute [local go_sem] max2_int min2_int max_two min_two max_three min_three max_four min_four   -- for this text's walks alone
set_option linter.unusedVariables false
set_option linter.unusedSimpArgs false

/-! ### pleacherlaw09_shown: function 9 -/
def pleacherlaw09_shown.f  : Option (Bool) := (pax_One.f (⟨#[112, 97, 116, 104]⟩ : ByteArray) (⟨#[97]⟩ : ByteArray)).bind fun bt181 => ((pax_Get.f (⟨#[57, 32, 112, 97, 116, 104, 61, 97, 10, 53, 32, 107, 61, 10]⟩ : ByteArray)).bind fun bt183 => ((pax_Get.f (⟨#[57, 32, 112, 97, 116, 104, 61, 97, 10, 54, 32, 107, 61, 10]⟩ : ByteArray)).bind fun bt188 => (if bt181.1.toList = ([57, 32, 112, 97, 116, 104, 61, 97, 10] : List UInt8) then (if bt181.2 = 0 then (if (bt183.1.length : Int) = 2 then (if bt183.2.1 = 0 then (if bt183.2.2 = 0 then (if bt188.2.1 = 9 then (if bt188.2.2 = 90 then ((pax_Size.f (⟨#[107]⟩ : ByteArray) (⟨#[]⟩ : ByteArray)).bind fun t193 => (some (t193 == 5))) else (some false)) else (some false)) else (some false)) else (some false)) else (some false)) else (some false)) else (some false))))
set_option maxHeartbeats 8000000 in
set_option maxRecDepth 100000 in
theorem pleacherlaw09_shown.calls  (r : Bool) (w : World) (hG : GW w) (h : pleacherlaw09_shown.f  = some r) :
    Calls Tryd.prog 9 #[] w fun e w' => e = .returned (.bool r) ∧ Below w.heap.size w w' := by
  have HG := Aside0.mk hG
  clear hG
  have hu31 := Tryd.underlying31
  have HB := Aside0.mk (Below.refl w.heap.size w)
  have H : ((pax_One.f (⟨#[112, 97, 116, 104]⟩ : ByteArray) (⟨#[97]⟩ : ByteArray)).bind fun bt181 => ((pax_Get.f (⟨#[57, 32, 112, 97, 116, 104, 61, 97, 10, 53, 32, 107, 61, 10]⟩ : ByteArray)).bind fun bt183 => ((pax_Get.f (⟨#[57, 32, 112, 97, 116, 104, 61, 97, 10, 54, 32, 107, 61, 10]⟩ : ByteArray)).bind fun bt188 => (if bt181.1.toList = ([57, 32, 112, 97, 116, 104, 61, 97, 10] : List UInt8) then (if bt181.2 = 0 then (if (bt183.1.length : Int) = 2 then (if bt183.2.1 = 0 then (if bt183.2.2 = 0 then (if bt188.2.1 = 9 then (if bt188.2.2 = 90 then ((pax_Size.f (⟨#[107]⟩ : ByteArray) (⟨#[]⟩ : ByteArray)).bind fun t193 => (some (t193 == 5))) else (some false)) else (some false)) else (some false)) else (some false)) else (some false)) else (some false)) else (some false))))) = some r := h
  clear h
  replace H := Option.bind_eq_some_iff.mp H
  obtain ⟨⟨t181, t182⟩, A10, H⟩ := H
  replace H : ((pax_Get.f (⟨#[57, 32, 112, 97, 116, 104, 61, 97, 10, 53, 32, 107, 61, 10]⟩ : ByteArray)).bind fun bt183 => ((pax_Get.f (⟨#[57, 32, 112, 97, 116, 104, 61, 97, 10, 54, 32, 107, 61, 10]⟩ : ByteArray)).bind fun bt188 => (if t181.toList = ([57, 32, 112, 97, 116, 104, 61, 97, 10] : List UInt8) then (if t182 = 0 then (if (bt183.1.length : Int) = 2 then (if bt183.2.1 = 0 then (if bt183.2.2 = 0 then (if bt188.2.1 = 9 then (if bt188.2.2 = 90 then ((pax_Size.f (⟨#[107]⟩ : ByteArray) (⟨#[]⟩ : ByteArray)).bind fun t193 => (some (t193 == 5))) else (some false)) else (some false)) else (some false)) else (some false)) else (some false)) else (some false)) else (some false)))) = some r := H
  have A1 := Aside0.mk A10
  clear A10
  replace H := Option.bind_eq_some_iff.mp H
  obtain ⟨⟨t183, t184, t185⟩, A20, H⟩ := H
  replace H : ((pax_Get.f (⟨#[57, 32, 112, 97, 116, 104, 61, 97, 10, 54, 32, 107, 61, 10]⟩ : ByteArray)).bind fun bt188 => (if t181.toList = ([57, 32, 112, 97, 116, 104, 61, 97, 10] : List UInt8) then (if t182 = 0 then (if (t183.length : Int) = 2 then (if t184 = 0 then (if t185 = 0 then (if bt188.2.1 = 9 then (if bt188.2.2 = 90 then ((pax_Size.f (⟨#[107]⟩ : ByteArray) (⟨#[]⟩ : ByteArray)).bind fun t193 => (some (t193 == 5))) else (some false)) else (some false)) else (some false)) else (some false)) else (some false)) else (some false)) else (some false))) = some r := H
  have A2 := Aside0.mk A20
  clear A20
  replace H := Option.bind_eq_some_iff.mp H
  obtain ⟨⟨t188, t189, t190⟩, A30, H⟩ := H
  replace H : (if t181.toList = ([57, 32, 112, 97, 116, 104, 61, 97, 10] : List UInt8) then (if t182 = 0 then (if (t183.length : Int) = 2 then (if t184 = 0 then (if t185 = 0 then (if t189 = 9 then (if t190 = 90 then ((pax_Size.f (⟨#[107]⟩ : ByteArray) (⟨#[]⟩ : ByteArray)).bind fun t193 => (some (t193 == 5))) else (some false)) else (some false)) else (some false)) else (some false)) else (some false)) else (some false)) else (some false)) = some r := H
  have A3 := Aside0.mk A30
  clear A30
  by_cases c4 : t181.toList = ([57, 32, 112, 97, 116, 104, 61, 97, 10] : List UInt8)
  · rw [if_pos c4] at H
    have c4b0 : (t181.toList == ([57, 32, 112, 97, 116, 104, 61, 97, 10] : List UInt8)) = true := beq_iff_eq.mpr c4
    have c4b1 : (t181.toList != ([57, 32, 112, 97, 116, 104, 61, 97, 10] : List UInt8)) = false := bne_eq_false_iff_eq.mpr c4
    clear c4
    by_cases c5 : t182 = 0
    · rw [if_pos c5] at H
      have c5b0 : (t182 == 0) = true := beq_iff_eq.mpr c5
      have c5b1 : (t182 != 0) = false := bne_eq_false_iff_eq.mpr c5
      clear c5
      by_cases c6 : (t183.length : Int) = 2
      · rw [if_pos c6] at H
        have c6b0 : ((t183.length : Int) == 2) = true := beq_iff_eq.mpr c6
        have c6b1 : ((t183.length : Int) != 2) = false := bne_eq_false_iff_eq.mpr c6
        clear c6
        by_cases c7 : t184 = 0
        · rw [if_pos c7] at H
          have c7b0 : (t184 == 0) = true := beq_iff_eq.mpr c7
          have c7b1 : (t184 != 0) = false := bne_eq_false_iff_eq.mpr c7
          clear c7
          by_cases c8 : t185 = 0
          · rw [if_pos c8] at H
            have c8b0 : (t185 == 0) = true := beq_iff_eq.mpr c8
            have c8b1 : (t185 != 0) = false := bne_eq_false_iff_eq.mpr c8
            clear c8
            by_cases c9 : t189 = 9
            · rw [if_pos c9] at H
              have c9b0 : (t189 == 9) = true := beq_iff_eq.mpr c9
              have c9b1 : (t189 != 9) = false := bne_eq_false_iff_eq.mpr c9
              clear c9
              by_cases c10 : t190 = 90
              · rw [if_pos c10] at H
                have c10b0 : (t190 == 90) = true := beq_iff_eq.mpr c10
                have c10b1 : (t190 != 90) = false := bne_eq_false_iff_eq.mpr c10
                clear c10
                replace H := Option.bind_eq_some_iff.mp H
                obtain ⟨t193, A110, H⟩ := H
                replace H : (some (t193 == 5)) = some r := H
                have A11 := Aside0.mk A110
                clear A110
                obtain rfl := Option.some.inj H
                go_enter Tryd.func9, Tryd.ntmps9
                go_wp2_with (first | ((with_reducible refine gate_callee (f := 15) rfl ?_); refine goesL_ (some 11) rfl rfl Tryd.func15 (by kernel_rfl) rfl #[.agg #[.string (⟨#[112, 97, 116, 104]⟩ : ByteArray), .string (⟨#[97]⟩ : ByteArray)]] rfl (by (try simp only [List.map_toArray, List.map_cons, List.map_nil]); first | done | rfl | (simp only [List.length_drop, List.length_take]; rfl)) ?_; (with_reducible refine (pax_One.calls (⟨#[112, 97, 116, 104]⟩ : ByteArray) (⟨#[97]⟩ : ByteArray) t181 t182 _ A1.out).mono ?_); rintro e w12 ⟨rfl, hb⟩; refine ⟨_, rfl, ?_⟩; have n0_ := Aside0.mk (below_step (by repeat (first | (with_reducible first | exact HB.out | apply below_alloc | apply pw_below_drewN | apply below_drew1) | exact HB.out)) hb); clear HB; have HB := n0_; clear n0_; (try clear hb); (try clear hb2); (try clear hk); (try clear hi)) | ((with_reducible refine gate_callee (f := 10) rfl ?_); refine goesL_ (some 15) rfl rfl Tryd.func10 (by kernel_rfl) rfl #[.string (⟨#[57, 32, 112, 97, 116, 104, 61, 97, 10, 53, 32, 107, 61, 10]⟩ : ByteArray)] rfl (by (try simp only [List.map_toArray, List.map_cons, List.map_nil]); first | done | rfl | (simp only [List.length_drop, List.length_take]; rfl)) ?_; (with_reducible refine (pax_Get.calls (⟨#[57, 32, 112, 97, 116, 104, 61, 97, 10, 53, 32, 107, 61, 10]⟩ : ByteArray) t183 t184 t185 _ ?side1 A2.out).mono ?_); (case side1 => exact GW.below HG.out (by repeat (first | (with_reducible first | exact HB.out | apply below_alloc | apply pw_below_drewN | apply below_drew1) | exact HB.out))); rintro e w13 ⟨v186, rfl, ho0, hb⟩; refine ⟨_, rfl, ?_⟩; have n0_ := Aside0.mk (Kd.R_lower ho0 (below_size (by repeat (first | (with_reducible first | exact HB.out | apply below_alloc | apply pw_below_drewN | apply below_drew1) | exact HB.out)))); have n1_ := Aside0.mk (below_step (by repeat (first | (with_reducible first | exact HB.out | apply below_alloc | apply pw_below_drewN | apply below_drew1) | exact HB.out)) hb); clear HB; have HO187 := n0_; have HB := n1_; clear n0_ n1_; (try clear hb); (try clear hb2); (try clear hk); (try clear hi); (try clear ho0)) | ((with_reducible refine gate_callee (f := 10) rfl ?_); refine goesL_ (some 20) rfl rfl Tryd.func10 (by kernel_rfl) rfl #[.string (⟨#[57, 32, 112, 97, 116, 104, 61, 97, 10, 54, 32, 107, 61, 10]⟩ : ByteArray)] rfl (by (try simp only [List.map_toArray, List.map_cons, List.map_nil]); first | done | rfl | (simp only [List.length_drop, List.length_take]; rfl)) ?_; (with_reducible refine (pax_Get.calls (⟨#[57, 32, 112, 97, 116, 104, 61, 97, 10, 54, 32, 107, 61, 10]⟩ : ByteArray) t188 t189 t190 _ ?side1 A3.out).mono ?_); (case side1 => exact GW.below HG.out (by repeat (first | (with_reducible first | exact HB.out | apply below_alloc | apply pw_below_drewN | apply below_drew1) | exact HB.out))); rintro e w14 ⟨v191, rfl, ho0, hb⟩; refine ⟨_, rfl, ?_⟩; have n0_ := Aside0.mk (Kd.R_elder' (by (with_reducible repeat (first | apply Kd.R_alloc | apply Kd.R_drewN | apply Kd.R_drew)); exact HO187.out) (Kd.R_base ho0) hb); have n1_ := Aside0.mk (Kd.R_lower (Kd.R_new' ho0 (Kd.R_lt (by (with_reducible repeat (first | apply Kd.R_alloc | apply Kd.R_drewN | apply Kd.R_drew)); exact HO187.out))) (below_size (by repeat (first | (with_reducible first | exact HB.out | apply below_alloc | apply pw_below_drewN | apply below_drew1) | exact HB.out)))); have n2_ := Aside0.mk (below_step (by repeat (first | (with_reducible first | exact HB.out | apply below_alloc | apply pw_below_drewN | apply below_drew1) | exact HB.out)) hb); clear HO187; clear HB; have HO187 := n0_; have HO192 := n1_; have HB := n2_; clear n0_ n1_ n2_; (try clear hb); (try clear hb2); (try clear hk); (try clear hi); (try clear ho0); obtain ⟨Ao15, co15, eo15⟩ := Kd.R_slice HO187.out; subst eo15) | (go_at_call 14; (with_reducible refine (pax_Size.calls (⟨#[107]⟩ : ByteArray) (⟨#[]⟩ : ByteArray) t193 _ A11.out).mono ?_); rintro e w16 ⟨rfl, hb⟩; have n0_ := Aside0.mk (Kd.R_below (by (with_reducible repeat (first | apply Kd.R_alloc | apply Kd.R_drewN | apply Kd.R_drew)); exact HO187.out) hb); have n1_ := Aside0.mk (Kd.R_below (by (with_reducible repeat (first | apply Kd.R_alloc | apply Kd.R_drewN | apply Kd.R_drew)); exact HO192.out) hb); have n2_ := Aside0.mk (below_step (by repeat (first | (with_reducible first | exact HB.out | apply below_alloc | apply pw_below_drewN | apply below_drew1) | exact HB.out)) hb); clear HO187; clear HO192; clear HB; have HO187 := n0_; have HO192 := n1_; have HB := n2_; clear n0_ n1_ n2_; (try clear hb); (try clear hb2); (try clear hk); (try clear hi)))
                go_ret
                exact ⟨by first | rfl | (simp [errW_none, errW_some] <;> rfl) | (simp [*, errW_none, errW_some] <;> rfl), by repeat (first | (with_reducible first | exact HB.out | apply below_alloc | apply pw_below_drewN | apply below_drew1) | exact HB.out)⟩
              · rw [if_neg c10] at H
                have c10b0 : (t190 == 90) = false := beq_eq_false_iff_ne.mpr c10
                have c10b1 : (t190 != 90) = true := bne_iff_ne.mpr c10
                obtain rfl := Option.some.inj H
                go_enter Tryd.func9, Tryd.ntmps9
                go_wp2_with (first | ((with_reducible refine gate_callee (f := 15) rfl ?_); refine goesL_ (some 11) rfl rfl Tryd.func15 (by kernel_rfl) rfl #[.agg #[.string (⟨#[112, 97, 116, 104]⟩ : ByteArray), .string (⟨#[97]⟩ : ByteArray)]] rfl (by (try simp only [List.map_toArray, List.map_cons, List.map_nil]); first | done | rfl | (simp only [List.length_drop, List.length_take]; rfl)) ?_; (with_reducible refine (pax_One.calls (⟨#[112, 97, 116, 104]⟩ : ByteArray) (⟨#[97]⟩ : ByteArray) t181 t182 _ A1.out).mono ?_); rintro e w17 ⟨rfl, hb⟩; refine ⟨_, rfl, ?_⟩; have n0_ := Aside0.mk (below_step (by repeat (first | (with_reducible first | exact HB.out | apply below_alloc | apply pw_below_drewN | apply below_drew1) | exact HB.out)) hb); clear HB; have HB := n0_; clear n0_; (try clear hb); (try clear hb2); (try clear hk); (try clear hi)) | ((with_reducible refine gate_callee (f := 10) rfl ?_); refine goesL_ (some 15) rfl rfl Tryd.func10 (by kernel_rfl) rfl #[.string (⟨#[57, 32, 112, 97, 116, 104, 61, 97, 10, 53, 32, 107, 61, 10]⟩ : ByteArray)] rfl (by (try simp only [List.map_toArray, List.map_cons, List.map_nil]); first | done | rfl | (simp only [List.length_drop, List.length_take]; rfl)) ?_; (with_reducible refine (pax_Get.calls (⟨#[57, 32, 112, 97, 116, 104, 61, 97, 10, 53, 32, 107, 61, 10]⟩ : ByteArray) t183 t184 t185 _ ?side1 A2.out).mono ?_); (case side1 => exact GW.below HG.out (by repeat (first | (with_reducible first | exact HB.out | apply below_alloc | apply pw_below_drewN | apply below_drew1) | exact HB.out))); rintro e w18 ⟨v186, rfl, ho0, hb⟩; refine ⟨_, rfl, ?_⟩; have n0_ := Aside0.mk (Kd.R_lower ho0 (below_size (by repeat (first | (with_reducible first | exact HB.out | apply below_alloc | apply pw_below_drewN | apply below_drew1) | exact HB.out)))); have n1_ := Aside0.mk (below_step (by repeat (first | (with_reducible first | exact HB.out | apply below_alloc | apply pw_below_drewN | apply below_drew1) | exact HB.out)) hb); clear HB; have HO187 := n0_; have HB := n1_; clear n0_ n1_; (try clear hb); (try clear hb2); (try clear hk); (try clear hi); (try clear ho0)) | ((with_reducible refine gate_callee (f := 10) rfl ?_); refine goesL_ (some 20) rfl rfl Tryd.func10 (by kernel_rfl) rfl #[.string (⟨#[57, 32, 112, 97, 116, 104, 61, 97, 10, 54, 32, 107, 61, 10]⟩ : ByteArray)] rfl (by (try simp only [List.map_toArray, List.map_cons, List.map_nil]); first | done | rfl | (simp only [List.length_drop, List.length_take]; rfl)) ?_; (with_reducible refine (pax_Get.calls (⟨#[57, 32, 112, 97, 116, 104, 61, 97, 10, 54, 32, 107, 61, 10]⟩ : ByteArray) t188 t189 t190 _ ?side1 A3.out).mono ?_); (case side1 => exact GW.below HG.out (by repeat (first | (with_reducible first | exact HB.out | apply below_alloc | apply pw_below_drewN | apply below_drew1) | exact HB.out))); rintro e w19 ⟨v191, rfl, ho0, hb⟩; refine ⟨_, rfl, ?_⟩; have n0_ := Aside0.mk (Kd.R_elder' (by (with_reducible repeat (first | apply Kd.R_alloc | apply Kd.R_drewN | apply Kd.R_drew)); exact HO187.out) (Kd.R_base ho0) hb); have n1_ := Aside0.mk (Kd.R_lower (Kd.R_new' ho0 (Kd.R_lt (by (with_reducible repeat (first | apply Kd.R_alloc | apply Kd.R_drewN | apply Kd.R_drew)); exact HO187.out))) (below_size (by repeat (first | (with_reducible first | exact HB.out | apply below_alloc | apply pw_below_drewN | apply below_drew1) | exact HB.out)))); have n2_ := Aside0.mk (below_step (by repeat (first | (with_reducible first | exact HB.out | apply below_alloc | apply pw_below_drewN | apply below_drew1) | exact HB.out)) hb); clear HO187; clear HB; have HO187 := n0_; have HO192 := n1_; have HB := n2_; clear n0_ n1_ n2_; (try clear hb); (try clear hb2); (try clear hk); (try clear hi); (try clear ho0); obtain ⟨Ao20, co20, eo20⟩ := Kd.R_slice HO187.out; subst eo20))
                go_ret
                exact ⟨by first | rfl | (simp [errW_none, errW_some] <;> rfl) | (simp [*, errW_none, errW_some] <;> rfl), by repeat (first | (with_reducible first | exact HB.out | apply below_alloc | apply pw_below_drewN | apply below_drew1) | exact HB.out)⟩
            · rw [if_neg c9] at H
              have c9b0 : (t189 == 9) = false := beq_eq_false_iff_ne.mpr c9
              have c9b1 : (t189 != 9) = true := bne_iff_ne.mpr c9
              obtain rfl := Option.some.inj H
              go_enter Tryd.func9, Tryd.ntmps9
              go_wp2_with (first | ((with_reducible refine gate_callee (f := 15) rfl ?_); refine goesL_ (some 11) rfl rfl Tryd.func15 (by kernel_rfl) rfl #[.agg #[.string (⟨#[112, 97, 116, 104]⟩ : ByteArray), .string (⟨#[97]⟩ : ByteArray)]] rfl (by (try simp only [List.map_toArray, List.map_cons, List.map_nil]); first | done | rfl | (simp only [List.length_drop, List.length_take]; rfl)) ?_; (with_reducible refine (pax_One.calls (⟨#[112, 97, 116, 104]⟩ : ByteArray) (⟨#[97]⟩ : ByteArray) t181 t182 _ A1.out).mono ?_); rintro e w21 ⟨rfl, hb⟩; refine ⟨_, rfl, ?_⟩; have n0_ := Aside0.mk (below_step (by repeat (first | (with_reducible first | exact HB.out | apply below_alloc | apply pw_below_drewN | apply below_drew1) | exact HB.out)) hb); clear HB; have HB := n0_; clear n0_; (try clear hb); (try clear hb2); (try clear hk); (try clear hi)) | ((with_reducible refine gate_callee (f := 10) rfl ?_); refine goesL_ (some 15) rfl rfl Tryd.func10 (by kernel_rfl) rfl #[.string (⟨#[57, 32, 112, 97, 116, 104, 61, 97, 10, 53, 32, 107, 61, 10]⟩ : ByteArray)] rfl (by (try simp only [List.map_toArray, List.map_cons, List.map_nil]); first | done | rfl | (simp only [List.length_drop, List.length_take]; rfl)) ?_; (with_reducible refine (pax_Get.calls (⟨#[57, 32, 112, 97, 116, 104, 61, 97, 10, 53, 32, 107, 61, 10]⟩ : ByteArray) t183 t184 t185 _ ?side1 A2.out).mono ?_); (case side1 => exact GW.below HG.out (by repeat (first | (with_reducible first | exact HB.out | apply below_alloc | apply pw_below_drewN | apply below_drew1) | exact HB.out))); rintro e w22 ⟨v186, rfl, ho0, hb⟩; refine ⟨_, rfl, ?_⟩; have n0_ := Aside0.mk (Kd.R_lower ho0 (below_size (by repeat (first | (with_reducible first | exact HB.out | apply below_alloc | apply pw_below_drewN | apply below_drew1) | exact HB.out)))); have n1_ := Aside0.mk (below_step (by repeat (first | (with_reducible first | exact HB.out | apply below_alloc | apply pw_below_drewN | apply below_drew1) | exact HB.out)) hb); clear HB; have HO187 := n0_; have HB := n1_; clear n0_ n1_; (try clear hb); (try clear hb2); (try clear hk); (try clear hi); (try clear ho0)) | ((with_reducible refine gate_callee (f := 10) rfl ?_); refine goesL_ (some 20) rfl rfl Tryd.func10 (by kernel_rfl) rfl #[.string (⟨#[57, 32, 112, 97, 116, 104, 61, 97, 10, 54, 32, 107, 61, 10]⟩ : ByteArray)] rfl (by (try simp only [List.map_toArray, List.map_cons, List.map_nil]); first | done | rfl | (simp only [List.length_drop, List.length_take]; rfl)) ?_; (with_reducible refine (pax_Get.calls (⟨#[57, 32, 112, 97, 116, 104, 61, 97, 10, 54, 32, 107, 61, 10]⟩ : ByteArray) t188 t189 t190 _ ?side1 A3.out).mono ?_); (case side1 => exact GW.below HG.out (by repeat (first | (with_reducible first | exact HB.out | apply below_alloc | apply pw_below_drewN | apply below_drew1) | exact HB.out))); rintro e w23 ⟨v191, rfl, ho0, hb⟩; refine ⟨_, rfl, ?_⟩; have n0_ := Aside0.mk (Kd.R_elder' (by (with_reducible repeat (first | apply Kd.R_alloc | apply Kd.R_drewN | apply Kd.R_drew)); exact HO187.out) (Kd.R_base ho0) hb); have n1_ := Aside0.mk (Kd.R_lower (Kd.R_new' ho0 (Kd.R_lt (by (with_reducible repeat (first | apply Kd.R_alloc | apply Kd.R_drewN | apply Kd.R_drew)); exact HO187.out))) (below_size (by repeat (first | (with_reducible first | exact HB.out | apply below_alloc | apply pw_below_drewN | apply below_drew1) | exact HB.out)))); have n2_ := Aside0.mk (below_step (by repeat (first | (with_reducible first | exact HB.out | apply below_alloc | apply pw_below_drewN | apply below_drew1) | exact HB.out)) hb); clear HO187; clear HB; have HO187 := n0_; have HO192 := n1_; have HB := n2_; clear n0_ n1_ n2_; (try clear hb); (try clear hb2); (try clear hk); (try clear hi); (try clear ho0); obtain ⟨Ao24, co24, eo24⟩ := Kd.R_slice HO187.out; subst eo24))
              go_ret
              exact ⟨by first | rfl | (simp [errW_none, errW_some] <;> rfl) | (simp [*, errW_none, errW_some] <;> rfl), by repeat (first | (with_reducible first | exact HB.out | apply below_alloc | apply pw_below_drewN | apply below_drew1) | exact HB.out)⟩
          · rw [if_neg c8] at H
            have c8b0 : (t185 == 0) = false := beq_eq_false_iff_ne.mpr c8
            have c8b1 : (t185 != 0) = true := bne_iff_ne.mpr c8
            obtain rfl := Option.some.inj H
            go_enter Tryd.func9, Tryd.ntmps9
            go_wp2_with (first | ((with_reducible refine gate_callee (f := 15) rfl ?_); refine goesL_ (some 11) rfl rfl Tryd.func15 (by kernel_rfl) rfl #[.agg #[.string (⟨#[112, 97, 116, 104]⟩ : ByteArray), .string (⟨#[97]⟩ : ByteArray)]] rfl (by (try simp only [List.map_toArray, List.map_cons, List.map_nil]); first | done | rfl | (simp only [List.length_drop, List.length_take]; rfl)) ?_; (with_reducible refine (pax_One.calls (⟨#[112, 97, 116, 104]⟩ : ByteArray) (⟨#[97]⟩ : ByteArray) t181 t182 _ A1.out).mono ?_); rintro e w25 ⟨rfl, hb⟩; refine ⟨_, rfl, ?_⟩; have n0_ := Aside0.mk (below_step (by repeat (first | (with_reducible first | exact HB.out | apply below_alloc | apply pw_below_drewN | apply below_drew1) | exact HB.out)) hb); clear HB; have HB := n0_; clear n0_; (try clear hb); (try clear hb2); (try clear hk); (try clear hi)) | ((with_reducible refine gate_callee (f := 10) rfl ?_); refine goesL_ (some 15) rfl rfl Tryd.func10 (by kernel_rfl) rfl #[.string (⟨#[57, 32, 112, 97, 116, 104, 61, 97, 10, 53, 32, 107, 61, 10]⟩ : ByteArray)] rfl (by (try simp only [List.map_toArray, List.map_cons, List.map_nil]); first | done | rfl | (simp only [List.length_drop, List.length_take]; rfl)) ?_; (with_reducible refine (pax_Get.calls (⟨#[57, 32, 112, 97, 116, 104, 61, 97, 10, 53, 32, 107, 61, 10]⟩ : ByteArray) t183 t184 t185 _ ?side1 A2.out).mono ?_); (case side1 => exact GW.below HG.out (by repeat (first | (with_reducible first | exact HB.out | apply below_alloc | apply pw_below_drewN | apply below_drew1) | exact HB.out))); rintro e w26 ⟨v186, rfl, ho0, hb⟩; refine ⟨_, rfl, ?_⟩; have n0_ := Aside0.mk (Kd.R_lower ho0 (below_size (by repeat (first | (with_reducible first | exact HB.out | apply below_alloc | apply pw_below_drewN | apply below_drew1) | exact HB.out)))); have n1_ := Aside0.mk (below_step (by repeat (first | (with_reducible first | exact HB.out | apply below_alloc | apply pw_below_drewN | apply below_drew1) | exact HB.out)) hb); clear HB; have HO187 := n0_; have HB := n1_; clear n0_ n1_; (try clear hb); (try clear hb2); (try clear hk); (try clear hi); (try clear ho0)) | ((with_reducible refine gate_callee (f := 10) rfl ?_); refine goesL_ (some 20) rfl rfl Tryd.func10 (by kernel_rfl) rfl #[.string (⟨#[57, 32, 112, 97, 116, 104, 61, 97, 10, 54, 32, 107, 61, 10]⟩ : ByteArray)] rfl (by (try simp only [List.map_toArray, List.map_cons, List.map_nil]); first | done | rfl | (simp only [List.length_drop, List.length_take]; rfl)) ?_; (with_reducible refine (pax_Get.calls (⟨#[57, 32, 112, 97, 116, 104, 61, 97, 10, 54, 32, 107, 61, 10]⟩ : ByteArray) t188 t189 t190 _ ?side1 A3.out).mono ?_); (case side1 => exact GW.below HG.out (by repeat (first | (with_reducible first | exact HB.out | apply below_alloc | apply pw_below_drewN | apply below_drew1) | exact HB.out))); rintro e w27 ⟨v191, rfl, ho0, hb⟩; refine ⟨_, rfl, ?_⟩; have n0_ := Aside0.mk (Kd.R_elder' (by (with_reducible repeat (first | apply Kd.R_alloc | apply Kd.R_drewN | apply Kd.R_drew)); exact HO187.out) (Kd.R_base ho0) hb); have n1_ := Aside0.mk (Kd.R_lower (Kd.R_new' ho0 (Kd.R_lt (by (with_reducible repeat (first | apply Kd.R_alloc | apply Kd.R_drewN | apply Kd.R_drew)); exact HO187.out))) (below_size (by repeat (first | (with_reducible first | exact HB.out | apply below_alloc | apply pw_below_drewN | apply below_drew1) | exact HB.out)))); have n2_ := Aside0.mk (below_step (by repeat (first | (with_reducible first | exact HB.out | apply below_alloc | apply pw_below_drewN | apply below_drew1) | exact HB.out)) hb); clear HO187; clear HB; have HO187 := n0_; have HO192 := n1_; have HB := n2_; clear n0_ n1_ n2_; (try clear hb); (try clear hb2); (try clear hk); (try clear hi); (try clear ho0); obtain ⟨Ao28, co28, eo28⟩ := Kd.R_slice HO187.out; subst eo28))
            go_ret
            exact ⟨by first | rfl | (simp [errW_none, errW_some] <;> rfl) | (simp [*, errW_none, errW_some] <;> rfl), by repeat (first | (with_reducible first | exact HB.out | apply below_alloc | apply pw_below_drewN | apply below_drew1) | exact HB.out)⟩
        · rw [if_neg c7] at H
          have c7b0 : (t184 == 0) = false := beq_eq_false_iff_ne.mpr c7
          have c7b1 : (t184 != 0) = true := bne_iff_ne.mpr c7
          obtain rfl := Option.some.inj H
          go_enter Tryd.func9, Tryd.ntmps9
          go_wp2_with (first | ((with_reducible refine gate_callee (f := 15) rfl ?_); refine goesL_ (some 11) rfl rfl Tryd.func15 (by kernel_rfl) rfl #[.agg #[.string (⟨#[112, 97, 116, 104]⟩ : ByteArray), .string (⟨#[97]⟩ : ByteArray)]] rfl (by (try simp only [List.map_toArray, List.map_cons, List.map_nil]); first | done | rfl | (simp only [List.length_drop, List.length_take]; rfl)) ?_; (with_reducible refine (pax_One.calls (⟨#[112, 97, 116, 104]⟩ : ByteArray) (⟨#[97]⟩ : ByteArray) t181 t182 _ A1.out).mono ?_); rintro e w29 ⟨rfl, hb⟩; refine ⟨_, rfl, ?_⟩; have n0_ := Aside0.mk (below_step (by repeat (first | (with_reducible first | exact HB.out | apply below_alloc | apply pw_below_drewN | apply below_drew1) | exact HB.out)) hb); clear HB; have HB := n0_; clear n0_; (try clear hb); (try clear hb2); (try clear hk); (try clear hi)) | ((with_reducible refine gate_callee (f := 10) rfl ?_); refine goesL_ (some 15) rfl rfl Tryd.func10 (by kernel_rfl) rfl #[.string (⟨#[57, 32, 112, 97, 116, 104, 61, 97, 10, 53, 32, 107, 61, 10]⟩ : ByteArray)] rfl (by (try simp only [List.map_toArray, List.map_cons, List.map_nil]); first | done | rfl | (simp only [List.length_drop, List.length_take]; rfl)) ?_; (with_reducible refine (pax_Get.calls (⟨#[57, 32, 112, 97, 116, 104, 61, 97, 10, 53, 32, 107, 61, 10]⟩ : ByteArray) t183 t184 t185 _ ?side1 A2.out).mono ?_); (case side1 => exact GW.below HG.out (by repeat (first | (with_reducible first | exact HB.out | apply below_alloc | apply pw_below_drewN | apply below_drew1) | exact HB.out))); rintro e w30 ⟨v186, rfl, ho0, hb⟩; refine ⟨_, rfl, ?_⟩; have n0_ := Aside0.mk (Kd.R_lower ho0 (below_size (by repeat (first | (with_reducible first | exact HB.out | apply below_alloc | apply pw_below_drewN | apply below_drew1) | exact HB.out)))); have n1_ := Aside0.mk (below_step (by repeat (first | (with_reducible first | exact HB.out | apply below_alloc | apply pw_below_drewN | apply below_drew1) | exact HB.out)) hb); clear HB; have HO187 := n0_; have HB := n1_; clear n0_ n1_; (try clear hb); (try clear hb2); (try clear hk); (try clear hi); (try clear ho0)) | ((with_reducible refine gate_callee (f := 10) rfl ?_); refine goesL_ (some 20) rfl rfl Tryd.func10 (by kernel_rfl) rfl #[.string (⟨#[57, 32, 112, 97, 116, 104, 61, 97, 10, 54, 32, 107, 61, 10]⟩ : ByteArray)] rfl (by (try simp only [List.map_toArray, List.map_cons, List.map_nil]); first | done | rfl | (simp only [List.length_drop, List.length_take]; rfl)) ?_; (with_reducible refine (pax_Get.calls (⟨#[57, 32, 112, 97, 116, 104, 61, 97, 10, 54, 32, 107, 61, 10]⟩ : ByteArray) t188 t189 t190 _ ?side1 A3.out).mono ?_); (case side1 => exact GW.below HG.out (by repeat (first | (with_reducible first | exact HB.out | apply below_alloc | apply pw_below_drewN | apply below_drew1) | exact HB.out))); rintro e w31 ⟨v191, rfl, ho0, hb⟩; refine ⟨_, rfl, ?_⟩; have n0_ := Aside0.mk (Kd.R_elder' (by (with_reducible repeat (first | apply Kd.R_alloc | apply Kd.R_drewN | apply Kd.R_drew)); exact HO187.out) (Kd.R_base ho0) hb); have n1_ := Aside0.mk (Kd.R_lower (Kd.R_new' ho0 (Kd.R_lt (by (with_reducible repeat (first | apply Kd.R_alloc | apply Kd.R_drewN | apply Kd.R_drew)); exact HO187.out))) (below_size (by repeat (first | (with_reducible first | exact HB.out | apply below_alloc | apply pw_below_drewN | apply below_drew1) | exact HB.out)))); have n2_ := Aside0.mk (below_step (by repeat (first | (with_reducible first | exact HB.out | apply below_alloc | apply pw_below_drewN | apply below_drew1) | exact HB.out)) hb); clear HO187; clear HB; have HO187 := n0_; have HO192 := n1_; have HB := n2_; clear n0_ n1_ n2_; (try clear hb); (try clear hb2); (try clear hk); (try clear hi); (try clear ho0); obtain ⟨Ao32, co32, eo32⟩ := Kd.R_slice HO187.out; subst eo32))
          go_ret
          exact ⟨by first | rfl | (simp [errW_none, errW_some] <;> rfl) | (simp [*, errW_none, errW_some] <;> rfl), by repeat (first | (with_reducible first | exact HB.out | apply below_alloc | apply pw_below_drewN | apply below_drew1) | exact HB.out)⟩
      · rw [if_neg c6] at H
        have c6b0 : ((t183.length : Int) == 2) = false := beq_eq_false_iff_ne.mpr c6
        have c6b1 : ((t183.length : Int) != 2) = true := bne_iff_ne.mpr c6
        obtain rfl := Option.some.inj H
        go_enter Tryd.func9, Tryd.ntmps9
        go_wp2_with (first | ((with_reducible refine gate_callee (f := 15) rfl ?_); refine goesL_ (some 11) rfl rfl Tryd.func15 (by kernel_rfl) rfl #[.agg #[.string (⟨#[112, 97, 116, 104]⟩ : ByteArray), .string (⟨#[97]⟩ : ByteArray)]] rfl (by (try simp only [List.map_toArray, List.map_cons, List.map_nil]); first | done | rfl | (simp only [List.length_drop, List.length_take]; rfl)) ?_; (with_reducible refine (pax_One.calls (⟨#[112, 97, 116, 104]⟩ : ByteArray) (⟨#[97]⟩ : ByteArray) t181 t182 _ A1.out).mono ?_); rintro e w33 ⟨rfl, hb⟩; refine ⟨_, rfl, ?_⟩; have n0_ := Aside0.mk (below_step (by repeat (first | (with_reducible first | exact HB.out | apply below_alloc | apply pw_below_drewN | apply below_drew1) | exact HB.out)) hb); clear HB; have HB := n0_; clear n0_; (try clear hb); (try clear hb2); (try clear hk); (try clear hi)) | ((with_reducible refine gate_callee (f := 10) rfl ?_); refine goesL_ (some 15) rfl rfl Tryd.func10 (by kernel_rfl) rfl #[.string (⟨#[57, 32, 112, 97, 116, 104, 61, 97, 10, 53, 32, 107, 61, 10]⟩ : ByteArray)] rfl (by (try simp only [List.map_toArray, List.map_cons, List.map_nil]); first | done | rfl | (simp only [List.length_drop, List.length_take]; rfl)) ?_; (with_reducible refine (pax_Get.calls (⟨#[57, 32, 112, 97, 116, 104, 61, 97, 10, 53, 32, 107, 61, 10]⟩ : ByteArray) t183 t184 t185 _ ?side1 A2.out).mono ?_); (case side1 => exact GW.below HG.out (by repeat (first | (with_reducible first | exact HB.out | apply below_alloc | apply pw_below_drewN | apply below_drew1) | exact HB.out))); rintro e w34 ⟨v186, rfl, ho0, hb⟩; refine ⟨_, rfl, ?_⟩; have n0_ := Aside0.mk (Kd.R_lower ho0 (below_size (by repeat (first | (with_reducible first | exact HB.out | apply below_alloc | apply pw_below_drewN | apply below_drew1) | exact HB.out)))); have n1_ := Aside0.mk (below_step (by repeat (first | (with_reducible first | exact HB.out | apply below_alloc | apply pw_below_drewN | apply below_drew1) | exact HB.out)) hb); clear HB; have HO187 := n0_; have HB := n1_; clear n0_ n1_; (try clear hb); (try clear hb2); (try clear hk); (try clear hi); (try clear ho0)) | ((with_reducible refine gate_callee (f := 10) rfl ?_); refine goesL_ (some 20) rfl rfl Tryd.func10 (by kernel_rfl) rfl #[.string (⟨#[57, 32, 112, 97, 116, 104, 61, 97, 10, 54, 32, 107, 61, 10]⟩ : ByteArray)] rfl (by (try simp only [List.map_toArray, List.map_cons, List.map_nil]); first | done | rfl | (simp only [List.length_drop, List.length_take]; rfl)) ?_; (with_reducible refine (pax_Get.calls (⟨#[57, 32, 112, 97, 116, 104, 61, 97, 10, 54, 32, 107, 61, 10]⟩ : ByteArray) t188 t189 t190 _ ?side1 A3.out).mono ?_); (case side1 => exact GW.below HG.out (by repeat (first | (with_reducible first | exact HB.out | apply below_alloc | apply pw_below_drewN | apply below_drew1) | exact HB.out))); rintro e w35 ⟨v191, rfl, ho0, hb⟩; refine ⟨_, rfl, ?_⟩; have n0_ := Aside0.mk (Kd.R_elder' (by (with_reducible repeat (first | apply Kd.R_alloc | apply Kd.R_drewN | apply Kd.R_drew)); exact HO187.out) (Kd.R_base ho0) hb); have n1_ := Aside0.mk (Kd.R_lower (Kd.R_new' ho0 (Kd.R_lt (by (with_reducible repeat (first | apply Kd.R_alloc | apply Kd.R_drewN | apply Kd.R_drew)); exact HO187.out))) (below_size (by repeat (first | (with_reducible first | exact HB.out | apply below_alloc | apply pw_below_drewN | apply below_drew1) | exact HB.out)))); have n2_ := Aside0.mk (below_step (by repeat (first | (with_reducible first | exact HB.out | apply below_alloc | apply pw_below_drewN | apply below_drew1) | exact HB.out)) hb); clear HO187; clear HB; have HO187 := n0_; have HO192 := n1_; have HB := n2_; clear n0_ n1_ n2_; (try clear hb); (try clear hb2); (try clear hk); (try clear hi); (try clear ho0); obtain ⟨Ao36, co36, eo36⟩ := Kd.R_slice HO187.out; subst eo36))
        go_ret
        exact ⟨by first | rfl | (simp [errW_none, errW_some] <;> rfl) | (simp [*, errW_none, errW_some] <;> rfl), by repeat (first | (with_reducible first | exact HB.out | apply below_alloc | apply pw_below_drewN | apply below_drew1) | exact HB.out)⟩
    · rw [if_neg c5] at H
      have c5b0 : (t182 == 0) = false := beq_eq_false_iff_ne.mpr c5
      have c5b1 : (t182 != 0) = true := bne_iff_ne.mpr c5
      obtain rfl := Option.some.inj H
      go_enter Tryd.func9, Tryd.ntmps9
      go_wp2_with (first | ((with_reducible refine gate_callee (f := 15) rfl ?_); refine goesL_ (some 11) rfl rfl Tryd.func15 (by kernel_rfl) rfl #[.agg #[.string (⟨#[112, 97, 116, 104]⟩ : ByteArray), .string (⟨#[97]⟩ : ByteArray)]] rfl (by (try simp only [List.map_toArray, List.map_cons, List.map_nil]); first | done | rfl | (simp only [List.length_drop, List.length_take]; rfl)) ?_; (with_reducible refine (pax_One.calls (⟨#[112, 97, 116, 104]⟩ : ByteArray) (⟨#[97]⟩ : ByteArray) t181 t182 _ A1.out).mono ?_); rintro e w37 ⟨rfl, hb⟩; refine ⟨_, rfl, ?_⟩; have n0_ := Aside0.mk (below_step (by repeat (first | (with_reducible first | exact HB.out | apply below_alloc | apply pw_below_drewN | apply below_drew1) | exact HB.out)) hb); clear HB; have HB := n0_; clear n0_; (try clear hb); (try clear hb2); (try clear hk); (try clear hi)) | ((with_reducible refine gate_callee (f := 10) rfl ?_); refine goesL_ (some 15) rfl rfl Tryd.func10 (by kernel_rfl) rfl #[.string (⟨#[57, 32, 112, 97, 116, 104, 61, 97, 10, 53, 32, 107, 61, 10]⟩ : ByteArray)] rfl (by (try simp only [List.map_toArray, List.map_cons, List.map_nil]); first | done | rfl | (simp only [List.length_drop, List.length_take]; rfl)) ?_; (with_reducible refine (pax_Get.calls (⟨#[57, 32, 112, 97, 116, 104, 61, 97, 10, 53, 32, 107, 61, 10]⟩ : ByteArray) t183 t184 t185 _ ?side1 A2.out).mono ?_); (case side1 => exact GW.below HG.out (by repeat (first | (with_reducible first | exact HB.out | apply below_alloc | apply pw_below_drewN | apply below_drew1) | exact HB.out))); rintro e w38 ⟨v186, rfl, ho0, hb⟩; refine ⟨_, rfl, ?_⟩; have n0_ := Aside0.mk (Kd.R_lower ho0 (below_size (by repeat (first | (with_reducible first | exact HB.out | apply below_alloc | apply pw_below_drewN | apply below_drew1) | exact HB.out)))); have n1_ := Aside0.mk (below_step (by repeat (first | (with_reducible first | exact HB.out | apply below_alloc | apply pw_below_drewN | apply below_drew1) | exact HB.out)) hb); clear HB; have HO187 := n0_; have HB := n1_; clear n0_ n1_; (try clear hb); (try clear hb2); (try clear hk); (try clear hi); (try clear ho0)) | ((with_reducible refine gate_callee (f := 10) rfl ?_); refine goesL_ (some 20) rfl rfl Tryd.func10 (by kernel_rfl) rfl #[.string (⟨#[57, 32, 112, 97, 116, 104, 61, 97, 10, 54, 32, 107, 61, 10]⟩ : ByteArray)] rfl (by (try simp only [List.map_toArray, List.map_cons, List.map_nil]); first | done | rfl | (simp only [List.length_drop, List.length_take]; rfl)) ?_; (with_reducible refine (pax_Get.calls (⟨#[57, 32, 112, 97, 116, 104, 61, 97, 10, 54, 32, 107, 61, 10]⟩ : ByteArray) t188 t189 t190 _ ?side1 A3.out).mono ?_); (case side1 => exact GW.below HG.out (by repeat (first | (with_reducible first | exact HB.out | apply below_alloc | apply pw_below_drewN | apply below_drew1) | exact HB.out))); rintro e w39 ⟨v191, rfl, ho0, hb⟩; refine ⟨_, rfl, ?_⟩; have n0_ := Aside0.mk (Kd.R_elder' (by (with_reducible repeat (first | apply Kd.R_alloc | apply Kd.R_drewN | apply Kd.R_drew)); exact HO187.out) (Kd.R_base ho0) hb); have n1_ := Aside0.mk (Kd.R_lower (Kd.R_new' ho0 (Kd.R_lt (by (with_reducible repeat (first | apply Kd.R_alloc | apply Kd.R_drewN | apply Kd.R_drew)); exact HO187.out))) (below_size (by repeat (first | (with_reducible first | exact HB.out | apply below_alloc | apply pw_below_drewN | apply below_drew1) | exact HB.out)))); have n2_ := Aside0.mk (below_step (by repeat (first | (with_reducible first | exact HB.out | apply below_alloc | apply pw_below_drewN | apply below_drew1) | exact HB.out)) hb); clear HO187; clear HB; have HO187 := n0_; have HO192 := n1_; have HB := n2_; clear n0_ n1_ n2_; (try clear hb); (try clear hb2); (try clear hk); (try clear hi); (try clear ho0)))
      go_ret
      exact ⟨by first | rfl | (simp [errW_none, errW_some] <;> rfl) | (simp [*, errW_none, errW_some] <;> rfl), by repeat (first | (with_reducible first | exact HB.out | apply below_alloc | apply pw_below_drewN | apply below_drew1) | exact HB.out)⟩
  · rw [if_neg c4] at H
    have c4b0 : (t181.toList == ([57, 32, 112, 97, 116, 104, 61, 97, 10] : List UInt8)) = false := beq_eq_false_iff_ne.mpr c4
    have c4b1 : (t181.toList != ([57, 32, 112, 97, 116, 104, 61, 97, 10] : List UInt8)) = true := bne_iff_ne.mpr c4
    obtain rfl := Option.some.inj H
    go_enter Tryd.func9, Tryd.ntmps9
    go_wp2_with (first | ((with_reducible refine gate_callee (f := 15) rfl ?_); refine goesL_ (some 11) rfl rfl Tryd.func15 (by kernel_rfl) rfl #[.agg #[.string (⟨#[112, 97, 116, 104]⟩ : ByteArray), .string (⟨#[97]⟩ : ByteArray)]] rfl (by (try simp only [List.map_toArray, List.map_cons, List.map_nil]); first | done | rfl | (simp only [List.length_drop, List.length_take]; rfl)) ?_; (with_reducible refine (pax_One.calls (⟨#[112, 97, 116, 104]⟩ : ByteArray) (⟨#[97]⟩ : ByteArray) t181 t182 _ A1.out).mono ?_); rintro e w40 ⟨rfl, hb⟩; refine ⟨_, rfl, ?_⟩; have n0_ := Aside0.mk (below_step (by repeat (first | (with_reducible first | exact HB.out | apply below_alloc | apply pw_below_drewN | apply below_drew1) | exact HB.out)) hb); clear HB; have HB := n0_; clear n0_; (try clear hb); (try clear hb2); (try clear hk); (try clear hi)) | ((with_reducible refine gate_callee (f := 10) rfl ?_); refine goesL_ (some 15) rfl rfl Tryd.func10 (by kernel_rfl) rfl #[.string (⟨#[57, 32, 112, 97, 116, 104, 61, 97, 10, 53, 32, 107, 61, 10]⟩ : ByteArray)] rfl (by (try simp only [List.map_toArray, List.map_cons, List.map_nil]); first | done | rfl | (simp only [List.length_drop, List.length_take]; rfl)) ?_; (with_reducible refine (pax_Get.calls (⟨#[57, 32, 112, 97, 116, 104, 61, 97, 10, 53, 32, 107, 61, 10]⟩ : ByteArray) t183 t184 t185 _ ?side1 A2.out).mono ?_); (case side1 => exact GW.below HG.out (by repeat (first | (with_reducible first | exact HB.out | apply below_alloc | apply pw_below_drewN | apply below_drew1) | exact HB.out))); rintro e w41 ⟨v186, rfl, ho0, hb⟩; refine ⟨_, rfl, ?_⟩; have n0_ := Aside0.mk (Kd.R_lower ho0 (below_size (by repeat (first | (with_reducible first | exact HB.out | apply below_alloc | apply pw_below_drewN | apply below_drew1) | exact HB.out)))); have n1_ := Aside0.mk (below_step (by repeat (first | (with_reducible first | exact HB.out | apply below_alloc | apply pw_below_drewN | apply below_drew1) | exact HB.out)) hb); clear HB; have HO187 := n0_; have HB := n1_; clear n0_ n1_; (try clear hb); (try clear hb2); (try clear hk); (try clear hi); (try clear ho0)) | ((with_reducible refine gate_callee (f := 10) rfl ?_); refine goesL_ (some 20) rfl rfl Tryd.func10 (by kernel_rfl) rfl #[.string (⟨#[57, 32, 112, 97, 116, 104, 61, 97, 10, 54, 32, 107, 61, 10]⟩ : ByteArray)] rfl (by (try simp only [List.map_toArray, List.map_cons, List.map_nil]); first | done | rfl | (simp only [List.length_drop, List.length_take]; rfl)) ?_; (with_reducible refine (pax_Get.calls (⟨#[57, 32, 112, 97, 116, 104, 61, 97, 10, 54, 32, 107, 61, 10]⟩ : ByteArray) t188 t189 t190 _ ?side1 A3.out).mono ?_); (case side1 => exact GW.below HG.out (by repeat (first | (with_reducible first | exact HB.out | apply below_alloc | apply pw_below_drewN | apply below_drew1) | exact HB.out))); rintro e w42 ⟨v191, rfl, ho0, hb⟩; refine ⟨_, rfl, ?_⟩; have n0_ := Aside0.mk (Kd.R_elder' (by (with_reducible repeat (first | apply Kd.R_alloc | apply Kd.R_drewN | apply Kd.R_drew)); exact HO187.out) (Kd.R_base ho0) hb); have n1_ := Aside0.mk (Kd.R_lower (Kd.R_new' ho0 (Kd.R_lt (by (with_reducible repeat (first | apply Kd.R_alloc | apply Kd.R_drewN | apply Kd.R_drew)); exact HO187.out))) (below_size (by repeat (first | (with_reducible first | exact HB.out | apply below_alloc | apply pw_below_drewN | apply below_drew1) | exact HB.out)))); have n2_ := Aside0.mk (below_step (by repeat (first | (with_reducible first | exact HB.out | apply below_alloc | apply pw_below_drewN | apply below_drew1) | exact HB.out)) hb); clear HO187; clear HB; have HO187 := n0_; have HO192 := n1_; have HB := n2_; clear n0_ n1_ n2_; (try clear hb); (try clear hb2); (try clear hk); (try clear hi); (try clear ho0)))
    go_ret
    exact ⟨by first | rfl | (simp [errW_none, errW_some] <;> rfl) | (simp [*, errW_none, errW_some] <;> rfl), by repeat (first | (with_reducible first | exact HB.out | apply below_alloc | apply pw_below_drewN | apply below_drew1) | exact HB.out)⟩

end Go.Proofs.YtbcjhmeeonhmaaaDoor.M
end

/-
The law's examples.
-/
section
set_option linter.unusedVariables false
set_option maxRecDepth 100000
namespace Go.Proofs.YtbcjhmeeonhmaaaDoor.H
open Go Go.RowKit Go.Proofs.YtbcjhmeeonhmaaaDoorW.PrintWords Go.Proofs.YtbcjhmeeonhmaaaDoorW.PrintMore Go.Proofs.YtbcjhmeeonhmaaaDoor.M

/-- Digits by rounds: what the kernel can reckon. -/
def dgcF : Nat → Nat → Nat → List Int
  | 0, b, n => [chr (n % b)]
  | k + 1, b, n => if n / b = 0 ∨ b < 2 then [chr (n % b)] else chr (n % b) :: dgcF k b (n / b)
theorem dgcF_eq (b : Nat) : ∀ (k n : Nat), n ≤ k → dgc b n = dgcF k b n
  | 0, n, h => by
    obtain rfl : n = 0 := by omega
    rw [dgc_stop (by simp)]; rfl
  | k + 1, n, h => by
    unfold dgcF
    by_cases hc : n / b = 0 ∨ b < 2
    · rw [if_pos hc]
      rw [dgc, dif_pos hc]
    · rw [if_neg hc, dgc_more (by omega) (by omega)]
      rw [dgcF_eq b k (n / b) (by have := Nat.div_lt_self (n := n) (k := b) (by rcases Nat.eq_zero_or_pos n with h0 | h0; (subst h0; simp at hc); exact h0) (by omega); omega)]
def putF (b n : Nat) : ByteArray := strOfNums (dgcF n b n).reverse
theorem putS_eq : putS = putF := by
  funext b n
  unfold putS putF
  rw [dgcF_eq b n n (Nat.le_refl _)]
theorem sh1 : oneS ⟨#[112, 97, 116, 104]⟩ ⟨#[97]⟩ = (⟨#[57, 32, 112, 97, 116, 104, 61, 97, 10]⟩, 0) := by
  simp only [oneS, szL, dgl, putS_eq]; decide +kernel
theorem sh2 : oneS ⟨#[107]⟩ ⟨#[]⟩ = (⟨#[53, 32, 107, 61, 10]⟩, 0) := by
  simp only [oneS, szL, dgl, putS_eq]; decide +kernel
theorem sh3 : firstS ⟨#[57, 32, 112, 97, 116, 104, 61, 97, 10, 53, 32, 107, 61, 10]⟩ = some (⟨#[112, 97, 116, 104]⟩, ⟨#[97]⟩, 9) := by
  simp only [firstS, ownC, oneS, szL, dgl, putS_eq]; decide +kernel
theorem sh4 : firstS ⟨#[53, 32, 107, 61, 10]⟩ = some (⟨#[107]⟩, ⟨#[]⟩, 5) := by
  simp only [firstS, ownC, oneS, szL, dgl, putS_eq]; decide +kernel
theorem sh5 : firstS ⟨#[57, 32, 112, 97, 116, 104, 61, 97, 10, 54, 32, 107, 61, 10]⟩ = some (⟨#[112, 97, 116, 104]⟩, ⟨#[97]⟩, 9) := by
  simp only [firstS, ownC, oneS, szL, dgl, putS_eq]; decide +kernel
theorem sh6 : firstS ⟨#[54, 32, 107, 61, 10]⟩ = none := by
  simp only [firstS, ownC, oneS, szL, dgl, putS_eq]; decide +kernel
theorem sg1 : getsS ⟨#[57, 32, 112, 97, 116, 104, 61, 97, 10, 53, 32, 107, 61, 10]⟩ = ([⟨⟨#[112, 97, 116, 104]⟩, ⟨#[97]⟩⟩, ⟨⟨#[107]⟩, ⟨#[]⟩⟩], 0, 0) := by
  have r1 := Rec.snoc (.nil ⟨#[57, 32, 112, 97, 116, 104, 61, 97, 10, 53, 32, 107, 61, 10]⟩) (by decide) sh3 ⟨by decide, by simp⟩
  have e1 : (⟨#[57, 32, 112, 97, 116, 104, 61, 97, 10, 53, 32, 107, 61, 10]⟩ : ByteArray).extract 9 (⟨#[57, 32, 112, 97, 116, 104, 61, 97, 10, 53, 32, 107, 61, 10]⟩ : ByteArray).size = ⟨#[53, 32, 107, 61, 10]⟩ := by decide
  rw [e1] at r1
  have r2 := Rec.snoc r1 (by decide) sh4 ⟨by decide, by decide⟩
  have e2 : (⟨#[53, 32, 107, 61, 10]⟩ : ByteArray).extract 5 (⟨#[53, 32, 107, 61, 10]⟩ : ByteArray).size = ⟨#[]⟩ := by decide
  rw [e2] at r2
  exact getsS_done r2 rfl
theorem sg2 : getsS ⟨#[57, 32, 112, 97, 116, 104, 61, 97, 10, 54, 32, 107, 61, 10]⟩ = ([], 9, 90) := by
  have r1 := Rec.snoc (.nil ⟨#[57, 32, 112, 97, 116, 104, 61, 97, 10, 54, 32, 107, 61, 10]⟩) (by decide) sh5 ⟨by decide, by simp⟩
  have e1 : (⟨#[57, 32, 112, 97, 116, 104, 61, 97, 10, 54, 32, 107, 61, 10]⟩ : ByteArray).extract 9 (⟨#[57, 32, 112, 97, 116, 104, 61, 97, 10, 54, 32, 107, 61, 10]⟩ : ByteArray).size = ⟨#[54, 32, 107, 61, 10]⟩ := by decide
  rw [e1] at r1
  exact getsS_bad r1 ⟨by decide, .inl sh6⟩
theorem size_f (n v : ByteArray) : pax_Size.f n v = some ((oneS n v).1.size : Int) := by
  unfold pax_Size.f pax_One.f; rfl
theorem shown_f : pleacherlaw09_shown.f = some true := by
  unfold pleacherlaw09_shown.f pax_One.f pax_Get.f
  rw [if_pos (by decide), if_pos (by decide), sh1, sg1, sg2]
  simp only [Option.bind_some, size_f, sh2, toList_data]
  decide
end Go.Proofs.YtbcjhmeeonhmaaaDoor.H
end

-- Laid by a program of this session for this claim.
section
namespace Go.Proofs.YtbcjhmeeonhmaaaDoor.M
open Go.RowKit Go.Proofs.YtbcjhmeeonhmaaaDoorW.PrintWords Go.Proofs.YtbcjhmeeonhmaaaDoorW.PrintLast Go.Proofs.YtbcjhmeeonhmaaaDoorW.PrintMore
attribute [local go_sem] max2_int min2_int max_two min_two max_three min_three max_four min_four   -- for this text's walks alone
set_option linter.unusedVariables false
set_option linter.unusedSimpArgs false

/-! ### pleacherlaw09_one: function 27 -/
def pleacherlaw09_one.f (a0_0 : ByteArray) (a0_1 : ByteArray) : Option (ByteArray × ByteArray) := if 0 ≤ (mn (a0_0.size : Int) 410) then (if (mn (a0_0.size : Int) 410) ≤ (a0_0.size : Int) then (if 0 ≤ (mn (a0_1.size : Int) 410) then (if (mn (a0_1.size : Int) 410) ≤ (a0_1.size : Int) then (some (a0_0.extract 0 ((mn (a0_0.size : Int) 410) : Int).toNat, a0_1.extract 0 ((mn (a0_1.size : Int) 410) : Int).toNat)) else (none)) else (none)) else (none)) else (none)
def pleacherlaw09_one.T1 : Bool × List (List Nat × List Nat) := (true, [([], []), ([0], [0]), ([], []), ([2], [2]), ([3], [3]), ([4], [4]), ([1, 5], [1, 5]), ([], []), ([7], [7]), ([], []), ([9], [9]), ([10], [10]), ([11], [11]), ([8, 12], [8, 12]), ([6, 13], [6, 13]), ([14, 0, 1, 2, 3, 4, 5, 6, 7, 8, 9, 10, 11, 12, 13, 14], [14])])
def pleacherlaw09_one.B1 : List Nat := [0, 1, 0, 4, 12, 28, 63, 0, 128, 0, 512, 1536, 3584, 8064, 16383, 32767]
theorem pleacherlaw09_one.tab1 : rtab .any (opsOf Tryd.f27 1) = pleacherlaw09_one.T1 := by kernel_rfl
theorem pleacherlaw09_one.bits1 : waitsOk pleacherlaw09_one.T1.2 pleacherlaw09_one.B1 = true := by kernel_rfl
set_option maxHeartbeats 8000000 in
set_option maxRecDepth 100000 in
theorem pleacherlaw09_one.calls (a0_0 : ByteArray) (a0_1 : ByteArray) (r1 : ByteArray) (r2 : ByteArray) (w : World) (h : pleacherlaw09_one.f a0_0 a0_1 = some (r1, r2)) :
    Calls Tryd.prog 27 #[.agg #[.string a0_0, .string a0_1]] w fun e w' => e = .returned (.agg #[.string r1, .string r2]) ∧ Below w.heap.size w w' := by
  have hu31 := Tryd.underlying31
  have HB := Aside0.mk (Below.refl w.heap.size w)
  have H : (if 0 ≤ (mn (a0_0.size : Int) 410) then (if (mn (a0_0.size : Int) 410) ≤ (a0_0.size : Int) then (if 0 ≤ (mn (a0_1.size : Int) 410) then (if (mn (a0_1.size : Int) 410) ≤ (a0_1.size : Int) then (some (a0_0.extract 0 ((mn (a0_0.size : Int) 410) : Int).toNat, a0_1.extract 0 ((mn (a0_1.size : Int) 410) : Int).toNat)) else (none)) else (none)) else (none)) else (none)) = some (r1, r2) := h
  clear h
  obtain ⟨ji2, hji2⟩ : ∃ j_ : Int, (mn (a0_0.size : Int) 410) = j_ := ⟨_, rfl⟩
  replace H : (if 0 ≤ (ji2) then (if (ji2) ≤ (a0_0.size : Int) then (if 0 ≤ (mn (a0_1.size : Int) 410) then (if (mn (a0_1.size : Int) 410) ≤ (a0_1.size : Int) then (some (a0_0.extract 0 ((ji2) : Int).toNat, a0_1.extract 0 ((mn (a0_1.size : Int) 410) : Int).toNat)) else (none)) else (none)) else (none)) else (none)) = some (r1, r2) := by first | (rw [hji2] at H; exact H) | (simp only [hji2] at H ⊢; exact H)
  (try (have hji2h : ji2 ≤ 410 := by (rw [← hji2]; unfold mn; (repeat' split) <;> omega)))
  (try (have hji2g : ji2 ≤ 64 := by omega))
  (try (have hji2l : 0 ≤ ji2 := by (rw [← hji2]; unfold mn; (repeat' split) <;> omega)))
  (try (have hji2m : 0 ≤ ji2 := by omega))
  have hji2_ : (if 410 < (a0_0.size : Int) then 410 else (a0_0.size : Int)) = ji2 := hji2
  by_cases c3 : 0 ≤ (ji2)
  · rw [if_pos c3] at H
    have c3b0 := eq_true c3
    have c3b1 : decide (0 ≤ (ji2)) = true := decide_eq_true c3
    clear c3
    by_cases c4 : (ji2) ≤ (a0_0.size : Int)
    · rw [if_pos c4] at H
      have c4b0 := eq_true c4
      have c4b1 : decide ((ji2) ≤ (a0_0.size : Int)) = true := decide_eq_true c4
      clear c4
      obtain ⟨ji5, hji5⟩ : ∃ j_ : Int, (mn (a0_1.size : Int) 410) = j_ := ⟨_, rfl⟩
      replace H : (if 0 ≤ (ji5) then (if (ji5) ≤ (a0_1.size : Int) then (some (a0_0.extract 0 ((ji2) : Int).toNat, a0_1.extract 0 ((ji5) : Int).toNat)) else (none)) else (none)) = some (r1, r2) := by first | (rw [hji5] at H; exact H) | (simp only [hji5] at H ⊢; exact H)
      (try (have hji5h : ji5 ≤ 410 := by (rw [← hji5]; unfold mn; (repeat' split) <;> omega)))
      (try (have hji5g : ji5 ≤ 64 := by omega))
      (try (have hji5l : 0 ≤ ji5 := by (rw [← hji5]; unfold mn; (repeat' split) <;> omega)))
      (try (have hji5m : 0 ≤ ji5 := by omega))
      have hji5_ : (if 410 < (a0_1.size : Int) then 410 else (a0_1.size : Int)) = ji5 := hji5
      by_cases c6 : 0 ≤ (ji5)
      · rw [if_pos c6] at H
        have c6b0 := eq_true c6
        have c6b1 : decide (0 ≤ (ji5)) = true := decide_eq_true c6
        clear c6
        by_cases c7 : (ji5) ≤ (a0_1.size : Int)
        · rw [if_pos c7] at H
          have c7b0 := eq_true c7
          have c7b1 : decide ((ji5) ≤ (a0_1.size : Int)) = true := decide_eq_true c7
          clear c7
          simp only [Option.some.injEq, Prod.mk.injEq] at H
          obtain ⟨rfl, rfl⟩ := H
          go_enter Tryd.func27, Tryd.ntmps27
          try go_wp2_with (first | ((with_reducible refine gate_dst (N := 1) rfl ?_); refine box_event ?hg (N := 1) ?hd (cs := #[.string a0_0, .string a0_1]) (t := 31) ?hr ?_; (case hd => rfl); (case hg => rfl); (case hr => first | (go_simp; done) | (go_simp; rfl)); intro gb194 hg w8 hbox hb; have n0_ := Aside0.mk (below_step (by repeat (first | (with_reducible first | exact HB.out | apply below_alloc | apply pw_below_drewN | apply below_drew1) | exact HB.out)) hb); have n1_ := Aside0.mk (hbox); have n2_ := Aside0.mk ((by rw [hg]; exact (below_size (by repeat (first | (with_reducible first | exact HB.out | apply below_alloc | apply pw_below_drewN | apply below_drew1) | exact HB.out))) : w.heap.size ≤ gb194)); have n3_ := Aside0.mk ((by rw [hg]; exact (below_size (by repeat (first | (with_reducible first | exact HB.out | apply below_alloc | apply pw_below_drewN | apply below_drew1) | exact HB.out))) : w.heap.size ≤ gb194)); clear HB; have HB := n0_; have BK194 := n1_; have GW194 := n2_; have GE194 := n3_; clear n0_ n1_ n2_ n3_; clear hb hbox hg) | ((with_reducible refine gate_dst (N := 2) rfl ?_); refine box_event ?hg (N := 2) ?hd (cs := #[.string (⟨#[]⟩ : ByteArray), .string (⟨#[]⟩ : ByteArray)]) (t := 31) ?hr ?_; (case hd => rfl); (case hg => rfl); (case hr => first | (go_simp; done) | (go_simp; rfl)); intro gb195 hg w9 hbox hb; have n0_ := Aside0.mk (blk_below (g := gb194) (o := .cells #[.string a0_0, .string a0_1] 31 (0, 0)) (by (with_reducible repeat (first | refine blk_drewN ?_ _ | refine blk_drew ?_ | refine blk_alloc ?_ _)); exact BK194.out) hb); have n1_ := Aside0.mk (below_step (by repeat (first | (with_reducible first | exact HB.out | apply below_alloc | apply pw_below_drewN | apply below_drew1 | refine below_set ?_ GE194.out) | exact HB.out)) hb); have n2_ := Aside0.mk (hbox); have n3_ := Aside0.mk ((by rw [hg]; exact (below_size (by repeat (first | (with_reducible first | exact HB.out | apply below_alloc | apply pw_below_drewN | apply below_drew1 | refine below_set ?_ GE194.out) | exact HB.out))) : w.heap.size ≤ gb195)); have n4_ := Aside0.mk ((by rw [hg]; exact (below_size (by repeat (first | (with_reducible first | exact HB.out | apply below_alloc | apply pw_below_drewN | apply below_drew1 | refine below_set ?_ GE194.out) | exact HB.out))) : w.heap.size ≤ gb195)); have n5_ := Aside0.mk ((by rw [hg]; exact Nat.ne_of_lt (blk_lt (g := gb194) (o := .cells #[.string a0_0, .string a0_1] 31 (0, 0)) (by (with_reducible repeat (first | refine blk_drewN ?_ _ | refine blk_drew ?_ | refine blk_alloc ?_ _)); exact BK194.out)) : gb194 ≠ gb195)); have n6_ := Aside0.mk ((by rw [hg]; exact Nat.ne_of_gt (blk_lt (g := gb194) (o := .cells #[.string a0_0, .string a0_1] 31 (0, 0)) (by (with_reducible repeat (first | refine blk_drewN ?_ _ | refine blk_drew ?_ | refine blk_alloc ?_ _)); exact BK194.out)) : gb195 ≠ gb194)); clear BK194; clear HB; have BK194 := n0_; have HB := n1_; have BK195 := n2_; have GW195 := n3_; have GE195 := n4_; have NB194_195 := n5_; have NB195_194 := n6_; clear n0_ n1_ n2_ n3_ n4_ n5_ n6_; clear hb hbox hg))
          have n0_ := Aside0.mk (blk_drew BK194.out)
          have n1_ := Aside0.mk (blk_drew BK195.out)
          have n2_ := Aside0.mk (below_drew1 HB.out)
          clear BK194
          clear BK195
          clear HB
          have BK194 := n0_
          have BK195 := n1_
          have HB := n2_
          clear n0_ n1_ n2_
          refine start_ (n := 16) (S := fun w' => w'.cell? ⟨gb194, 0, none⟩ = some (.string a0_0) ∧ w'.cell? ⟨gb194, 1, none⟩ = some (.string a0_1)) (ds := []) #[false, false, false, false, false, false, false, false, false, false, false, false, false, false, false, false] (by kernel_rfl) rfl rfl ⟨(blk_cell BK194.out 0).trans rfl, (blk_cell BK194.out 1).trans rfl⟩ (fun hHeld => ?_); refine with_tabW pleacherlaw09_one.tab1 pleacherlaw09_one.bits1 (fun HT_ HW_ => ?_)
          generalize w9.drew = w10 at BK194 BK195 HB hHeld ⊢
          refine pure_ (i := 0) (N := some 3) (v := ?_) (a' := ?_) #[true, false, false, false, false, false, false, false, false, false, false, false, false, false, false, false] rfl rfl (any_of HT_.out (by kernel_rfl)) (fun _ _ _ h => h) (Or.inl ⟨by rfl, ?_⟩) ?_ ?_
          rotate_left
          · intro w'
            go_simp
            with_reducible rfl
          rotate_left
          · simp only [Act.put, List.setIfInBounds_toArray, List.set_cons_zero, List.set_cons_succ, i64_w, i32_w]
            rfl
          refine pure_ (i := 2) (N := some 5) (v := ?_) (a' := ?_) #[true, false, true, false, false, false, false, false, false, false, false, false, false, false, false, false] rfl rfl (any_of HT_.out (by kernel_rfl)) (fun _ _ _ h => h) (Or.inl ⟨by rfl, ?_⟩) ?_ ?_
          rotate_left
          · intro w'
            go_simp
            with_reducible rfl
          rotate_left
          · simp only [Act.put, List.setIfInBounds_toArray, List.set_cons_zero, List.set_cons_succ, i64_w, i32_w]
            rfl
          refine pure_ (i := 7) (N := some 10) (v := ?_) (a' := ?_) #[true, false, true, false, false, false, false, true, false, false, false, false, false, false, false, false] rfl rfl (any_of HT_.out (by kernel_rfl)) (fun _ _ _ h => h) (Or.inl ⟨by rfl, ?_⟩) ?_ ?_
          rotate_left
          · intro w'
            go_simp
            with_reducible rfl
          rotate_left
          · simp only [Act.put, List.setIfInBounds_toArray, List.set_cons_zero, List.set_cons_succ, i64_w, i32_w]
            rfl
          refine pure_ (i := 9) (N := some 12) (v := ?_) (a' := ?_) #[true, false, true, false, false, false, false, true, false, true, false, false, false, false, false, false] rfl rfl (any_of HT_.out (by kernel_rfl)) (fun _ _ _ h => h) (Or.inl ⟨by rfl, ?_⟩) ?_ ?_
          rotate_left
          · intro w'
            go_simp
            with_reducible rfl
          rotate_left
          · simp only [Act.put, List.setIfInBounds_toArray, List.set_cons_zero, List.set_cons_succ, i64_w, i32_w]
            rfl
          refine take_ (i := 1) (N := some 4) (v := ?_) (a' := ?_) #[true, true, true, false, false, false, false, true, false, true, false, false, false, false, false, false] rfl rfl (take_ofW HT_.out HW_.out (by kernel_rfl)) (fun _ _ _ h => h) (Or.inl ⟨by rfl, ?_⟩) hHeld ?_ ?_
          rotate_left
          · rintro w' ⟨s0, s1⟩
            go_simp
            with_reducible rfl
          rotate_left
          · simp only [Act.put, List.setIfInBounds_toArray, List.set_cons_zero, List.set_cons_succ, i64_w, i32_w]
            rfl
          refine take_ (i := 3) (N := some 6) (v := ?_) (a' := ?_) #[true, true, true, true, false, false, false, true, false, true, false, false, false, false, false, false] rfl rfl (take_ofW HT_.out HW_.out (by kernel_rfl)) (fun _ _ _ h => h) (Or.inl ⟨by rfl, ?_⟩) hHeld ?_ ?_
          rotate_left
          · rintro w' ⟨s0, s1⟩
            go_simp
            with_reducible rfl
          rotate_left
          · simp only [Act.put, List.setIfInBounds_toArray, List.set_cons_zero, List.set_cons_succ, i64_w, i32_w]
            rfl
          refine pure_ (i := 4) (N := some 7) (v := ?_) (a' := ?_) #[true, true, true, true, true, false, false, true, false, true, false, false, false, false, false, false] rfl rfl (any_of HT_.out (by kernel_rfl)) (fun _ _ _ h => h) (Or.inl ⟨by rfl, ?_⟩) ?_ ?_
          rotate_left
          · intro w'
            go_simp
            with_reducible rfl
          rotate_left
          · simp only [Act.put, List.setIfInBounds_toArray, List.set_cons_zero, List.set_cons_succ, i64_w, i32_w]
            rfl
          refine pure_ (i := 5) (N := some 8) (v := ?_) (a' := ?_) #[true, true, true, true, true, true, false, true, false, true, false, false, false, false, false, false] rfl rfl (any_of HT_.out (by kernel_rfl)) (fun _ _ _ h => h) (Or.inl ⟨by rfl, ?_⟩) ?_ ?_
          rotate_left
          · intro w'
            go_simp
            with_reducible rfl
          rotate_left
          · simp only [Act.put, List.setIfInBounds_toArray, List.set_cons_zero, List.set_cons_succ, i64_w, i32_w]
            rfl
          refine pure_ (i := 6) (N := some 9) (v := ?_) (a' := ?_) #[true, true, true, true, true, true, true, true, false, true, false, false, false, false, false, false] rfl rfl (any_of HT_.out (by kernel_rfl)) (fun _ _ _ h => h) (Or.inl ⟨by rfl, ?_⟩) ?_ ?_
          rotate_left
          · intro w'
            go_simp
            with_reducible rfl
          rotate_left
          · simp only [Act.put, List.setIfInBounds_toArray, List.set_cons_zero, List.set_cons_succ, i64_w, i32_w]
            rfl
          refine take_ (i := 8) (N := some 11) (v := ?_) (a' := ?_) #[true, true, true, true, true, true, true, true, true, true, false, false, false, false, false, false] rfl rfl (take_ofW HT_.out HW_.out (by kernel_rfl)) (fun _ _ _ h => h) (Or.inl ⟨by rfl, ?_⟩) hHeld ?_ ?_
          rotate_left
          · rintro w' ⟨s0, s1⟩
            go_simp
            with_reducible rfl
          rotate_left
          · simp only [Act.put, List.setIfInBounds_toArray, List.set_cons_zero, List.set_cons_succ, i64_w, i32_w]
            rfl
          refine take_ (i := 10) (N := some 13) (v := ?_) (a' := ?_) #[true, true, true, true, true, true, true, true, true, true, true, false, false, false, false, false] rfl rfl (take_ofW HT_.out HW_.out (by kernel_rfl)) (fun _ _ _ h => h) (Or.inl ⟨by rfl, ?_⟩) hHeld ?_ ?_
          rotate_left
          · rintro w' ⟨s0, s1⟩
            go_simp
            with_reducible rfl
          rotate_left
          · simp only [Act.put, List.setIfInBounds_toArray, List.set_cons_zero, List.set_cons_succ, i64_w, i32_w]
            rfl
          refine pure_ (i := 11) (N := some 14) (v := ?_) (a' := ?_) #[true, true, true, true, true, true, true, true, true, true, true, true, false, false, false, false] rfl rfl (any_of HT_.out (by kernel_rfl)) (fun _ _ _ h => h) (Or.inl ⟨by rfl, ?_⟩) ?_ ?_
          rotate_left
          · intro w'
            go_simp
            with_reducible rfl
          rotate_left
          · simp only [Act.put, List.setIfInBounds_toArray, List.set_cons_zero, List.set_cons_succ, i64_w, i32_w]
            rfl
          refine pure_ (i := 12) (N := some 15) (v := ?_) (a' := ?_) #[true, true, true, true, true, true, true, true, true, true, true, true, true, false, false, false] rfl rfl (any_of HT_.out (by kernel_rfl)) (fun _ _ _ h => h) (Or.inl ⟨by rfl, ?_⟩) ?_ ?_
          rotate_left
          · intro w'
            go_simp
            with_reducible rfl
          rotate_left
          · simp only [Act.put, List.setIfInBounds_toArray, List.set_cons_zero, List.set_cons_succ, i64_w, i32_w]
            rfl
          refine pure_ (i := 13) (N := some 16) (v := ?_) (a' := ?_) #[true, true, true, true, true, true, true, true, true, true, true, true, true, true, false, false] rfl rfl (any_of HT_.out (by kernel_rfl)) (fun _ _ _ h => h) (Or.inl ⟨by rfl, ?_⟩) ?_ ?_
          rotate_left
          · intro w'
            go_simp
            with_reducible rfl
          rotate_left
          · simp only [Act.put, List.setIfInBounds_toArray, List.set_cons_zero, List.set_cons_succ, i64_w, i32_w]
            rfl
          refine pure_ (i := 14) (N := some 17) (v := ?_) (a' := ?_) #[true, true, true, true, true, true, true, true, true, true, true, true, true, true, true, false] rfl rfl (any_of HT_.out (by kernel_rfl)) (fun _ _ _ h => h) (Or.inl ⟨by rfl, ?_⟩) ?_ ?_
          rotate_left
          · intro w'
            go_simp
            with_reducible rfl
          rotate_left
          · simp only [Act.put, List.setIfInBounds_toArray, List.set_cons_zero, List.set_cons_succ, i64_w, i32_w]
            rfl
          refine one_ (i := 15) (N := none) #[true, true, true, true, true, true, true, true, true, true, true, true, true, true, true, true] rfl rfl (one_of HT_.out (by kernel_rfl)) (by decide) (fun K hK => ?_)
          have hs11 : w10.cell? ⟨gb195, 0, none⟩ = some (.string (⟨#[]⟩ : ByteArray)) := (blk_cell BK195.out 0).trans rfl
          have hfs11 := blk_frozen BK195.out 0
          have hns11_0 := NB194_195.out
          have hms11_0 := NB195_194.out
          have hs12 : w10.cell? ⟨gb195, 1, none⟩ = some (.string (⟨#[]⟩ : ByteArray)) := (blk_cell BK195.out 1).trans rfl
          have hfs12 := blk_frozen BK195.out 1
          have hns12_0 := NB194_195.out
          have hms12_0 := NB195_194.out
          refine skip_ (w1 := ?_) (by rfl) rfl ?_ ?_
          rotate_left
          · go_simp
            rfl
          refine hK.out _ _ ⟨((cell_far (p := ⟨gb195, _, none⟩) NB194_195.out _).trans (((cell_far (p := ⟨gb195, _, none⟩) NB194_195.out _).trans (hHeld.1)))), ((cell_far (p := ⟨gb195, _, none⟩) NB194_195.out _).trans (((cell_far (p := ⟨gb195, _, none⟩) NB194_195.out _).trans (hHeld.2))))⟩ (fun hHeld => ?_)
          clear hK K
          refine done_ (done_of HT_.out (by kernel_rfl)) ?_
          try go_wp2
          refine bodyPost_ret (results_cell_row rfl _ _ gb195 31 #[.string (a0_0.extract 0 ((ji2) : Int).toNat), .string (a0_1.extract 0 ((ji5) : Int).toNat)] (0, 0) _ rfl (by (with_reducible repeat (first | refine blk_drewN ?_ _ | refine blk_drew ?_ | refine blk_alloc ?_ _)); refine blk_put (cs := #[.string (a0_0.extract 0 ((ji2) : Int).toNat), .string (⟨#[]⟩ : ByteArray)]) ?_ 1 _ rfl; (with_reducible repeat (first | refine blk_drewN ?_ _ | refine blk_drew ?_ | refine blk_alloc ?_ _)); refine blk_put (cs := #[.string (⟨#[]⟩ : ByteArray), .string (⟨#[]⟩ : ByteArray)]) ?_ 0 _ rfl; (with_reducible repeat (first | refine blk_drewN ?_ _ | refine blk_drew ?_ | refine blk_alloc ?_ _)); exact BK195.out) Tryd.underlying31 rfl (by kernel_rfl)) rfl ?_
          exact ⟨by first | rfl | (simp [errW_none, errW_some] <;> rfl) | (simp only [← hji2, ← hji5]; first | rfl | (simp [errW_none, errW_some] <;> rfl)) | (simp [*, errW_none, errW_some] <;> rfl), by repeat (first | (with_reducible first | exact HB.out | apply below_alloc | apply pw_below_drewN | apply below_drew1 | refine below_set ?_ GE194.out | refine below_set ?_ GE195.out) | exact HB.out)⟩
        · rw [if_neg c7] at H
          exact absurd H (by simp)
      · rw [if_neg c6] at H
        exact absurd H (by simp)
    · rw [if_neg c4] at H
      exact absurd H (by simp)
  · rw [if_neg c3] at H
    exact absurd H (by simp)

end Go.Proofs.YtbcjhmeeonhmaaaDoor.M
end

-- Laid by a program of this session for this claim.
section
namespace Go.Proofs.YtbcjhmeeonhmaaaDoor.M
open Go.RowKit Go.Proofs.YtbcjhmeeonhmaaaDoorW.PrintWords Go.Proofs.YtbcjhmeeonhmaaaDoorW.PrintLast Go.Proofs.YtbcjhmeeonhmaaaDoorW.PrintMore
attribute [local go_sem] max2_int min2_int max_two min_two max_three min_three max_four min_four   -- for this text's walks alone
set_option linter.unusedVariables false
set_option linter.unusedSimpArgs false

/-! ### pleacherlaw09_Few: function 16 -/
def pleacherlaw09_Few.l0 : Nat → List (S31) → List (S31) → Int → Option ((List (S31)))
  | 0, _, _, _ => none
  | k + 1, x0, x3, x4 => if x4 < (x0.length : Int) then (if x4 < 32 then (if 0 ≤ x4 then ((pleacherlaw09_one.f ((rd_T31 x0 x4).f0) ((rd_T31 x0 x4).f1)).bind fun bt197 => (if x3.length < 4398046511104 then (pleacherlaw09_Few.l0 k x0 (x3 ++ [(⟨bt197.1, bt197.2⟩ : S31)]) (wrap64 (x4 + 1))) else (none))) else (none)) else (some x3)) else (some x3)
def pleacherlaw09_Few.f (k : Nat) (l0 : List (S31)) : Option ((List (S31))) := pleacherlaw09_Few.l0 k l0 ([] : List (S31)) 0
set_option maxHeartbeats 8000000 in
set_option maxRecDepth 100000 in
theorem pleacherlaw09_Few.calls (k : Nat) (A0 : Option Addr) (c0 : Nat) (l0 : List (S31)) (r : List (S31)) (w : World) (hr0 : Kd.C k31 w A0 l0.length l0) (hc0 : l0.length ≤ c0) (h : pleacherlaw09_Few.f k l0 = some r) :
    Calls Tryd.prog 16 #[.slice A0 l0.length c0] w fun e w' => ∃ v0_ : Value, e = .returned (v0_) ∧ Kd.R k31 31 w' w.heap.size (fun _ => True) v0_ r ∧ Below w.heap.size w w' := by
  have hu31 := Tryd.underlying31
  have HR0 := Aside0.mk hr0
  have HC0 := Aside0.mk hc0
  clear hr0 hc0
  have HB := Aside0.mk (Below.refl w.heap.size w)
  have H : (pleacherlaw09_Few.l0 k l0 ([] : List (S31)) 0) = some r := h
  clear h
  have H' := Aside0.mk H
  clear H
  go_enter Tryd.func16, Tryd.ntmps16
  go_wp2
  go_loopg [3, 4] k (fun kq v3 v4 w' => ∃ (x3_1 : List (S31)) (x4_1 : Int), v4 = .int .i64 x4_1 ∧ Aside0 (pleacherlaw09_Few.l0 kq l0 x3_1 x4_1 = some r) ∧ Aside0 (kq ≤ k) ∧ Aside0 (Kd.R k31 31 w' w.heap.size (fun _ => True) v3 x3_1) ∧ Aside0 (Below w.heap.size w w'))
  case atStart => exact ⟨(([] : List (S31))), (0), (by first | rfl | (simp; done) | (simp [*]; done)), H', ⟨Nat.le_refl _⟩, ⟨by first | exact Kd.R_nil _ _ _ _ _ | exact Kd.N_nil _ _ _ _ _ | exact Kd.V_nil _ _ _ _ _ | exact Kd.Q_nil _ _ _ _ _ | exact Kd.S_nil _ _ _ _ _⟩, ⟨by repeat (first | (with_reducible first | exact HB.out | apply below_alloc | apply pw_below_drewN | apply below_drew1) | exact HB.out)⟩⟩
  case round =>
    clear H'
    try clear c1
    obtain ⟨x3_1, x4_1, rfl, HA, HK1, HO_3, HB⟩ := hrel
    cases gk with
    | zero => exact absurd HA.out (by simp [pleacherlaw09_Few.l0])
    | succ k1 =>
      have H := HA.out
      clear HA
      simp only [pleacherlaw09_Few.l0] at H
      by_cases c2 : x4_1 < (l0.length : Int)
      · rw [if_pos c2] at H
        have c2b0 : decide (x4_1 < (l0.length : Int)) = true := decide_eq_true c2
        clear c2
        by_cases c3 : x4_1 < 32
        · rw [if_pos c3] at H
          have c3b0 : decide (x4_1 < 32) = true := decide_eq_true c3
          clear c3
          by_cases c4 : 0 ≤ x4_1
          · rw [if_pos c4] at H
            have c4b0 : decide (0 ≤ x4_1) = true := decide_eq_true c4
            clear c4
            replace H := Option.bind_eq_some_iff.mp H
            obtain ⟨⟨t197, t198⟩, A50, H⟩ := H
            replace H : (if x3_1.length < 4398046511104 then (pleacherlaw09_Few.l0 k1 l0 (x3_1 ++ [(⟨t197, t198⟩ : S31)]) (wrap64 (x4_1 + 1))) else (none)) = some r := H
            have A5 := Aside0.mk A50
            clear A50
            by_cases c6 : x3_1.length < 4398046511104
            · rw [if_pos c6] at H
              have LMc6 := Aside0.mk c6
              clear c6
              obtain ⟨y199, hy199⟩ : ∃ y_ : List (S31), y_ = (x3_1 ++ [(⟨t197, t198⟩ : S31)]) := ⟨_, rfl⟩
              replace H : (pleacherlaw09_Few.l0 k1 l0 y199 (wrap64 (x4_1 + 1))) = some r := by first | (rw [hy199]; with_reducible exact H) | (have H2_ := (Option.bind_some _ _).symm.trans H; rw [hy199]; with_reducible exact H2_) | (have H2_ := (Option.bind_some _ _).symm.trans H; with_reducible exact H2_) | with_reducible exact H | (rw [hy199]; exact H) | exact H
              have Ny199 := Aside0.mk hy199
              clear hy199
              have H' := Aside0.mk H
              clear H
              have p196 : 0 ≤ (x4_1 : Int) := of_decide_eq_true (by first | (with_reducible assumption) | assumption)
              have q196 : x4_1 < (l0.length : Int) := of_decide_eq_true (by first | (with_reducible assumption) | assumption)
              obtain ⟨ad196, e196, hx196_0, hx196_1⟩ := at_T31 HR0.out x4_1 p196 q196
              cases e196
              replace hx196_0 := (HB.out.cell (World.block_lt_of_cell? w _ hx196_0)).trans hx196_0
              replace hx196_1 := (HB.out.cell (World.block_lt_of_cell? w _ hx196_1)).trans hx196_1
              replace p196 := eq_true p196
              replace q196 := eq_true q196
              go_wp2_with (first | ((with_reducible refine gate_callee (f := 27) rfl ?_); refine goesL_ (some 20) rfl rfl Tryd.func27 (by kernel_rfl) rfl #[.agg #[.string ((rd_T31 l0 x4_1).f0), .string ((rd_T31 l0 x4_1).f1)]] rfl (by (try simp only [List.map_toArray, List.map_cons, List.map_nil]); first | done | rfl | (simp only [List.length_drop, List.length_take]; rfl)) ?_; (with_reducible refine (pleacherlaw09_one.calls ((rd_T31 l0 x4_1).f0) ((rd_T31 l0 x4_1).f1) t197 t198 _ A5.out).mono ?_); rintro e w7 ⟨rfl, hb⟩; refine ⟨_, rfl, ?_⟩; have n0_ := Aside0.mk (Kd.R_below (by (with_reducible repeat (first | apply Kd.R_alloc | apply Kd.R_drewN | apply Kd.R_drew)); exact HO_3.out) hb); have n1_ := Aside0.mk (below_step (by repeat (first | (with_reducible first | exact HB.out | apply below_alloc | apply pw_below_drewN | apply below_drew1) | exact HB.out)) hb); clear HO_3; clear HB; have HO_3 := n0_; have HB := n1_; clear n0_ n1_; (try clear hb); (try clear hb2); (try clear hk); (try clear hi)) | ((with_reducible refine gate_builtin (b := .append) (xs := #[.tmp 15, .tmp 21]) rfl ?_); at_builtin; refine Kd.R_append k31 (w0 := w) w.heap.size rfl (.tmp 15) (.tmp 21) 23 31 (.agg #[(.string ⟨#[]⟩), (.string ⟨#[]⟩)]) 32 rfl Tryd.underlying23 info31 rfl (by decide) (by omega) u3 x3_1 (⟨t197, t198⟩ : S31) [.string t197, .string t198] (fun _ => True) (fun _ => False) rfl rfl ?aP (fun _ hk => hk.elim) ?aF ?aO ?aB ?aS ?aL ?_; (case aP => exact k31_mkM _ _ _ (⟨t197, t198⟩ : S31)); (case aB => exact (by repeat (first | (with_reducible first | exact HB.out | apply below_alloc | apply pw_below_drewN | apply below_drew1) | exact HB.out))); (case aF => exact (fun _ _ => trivial)); (case aO => exact (by (with_reducible repeat (first | apply Kd.R_alloc | apply Kd.R_drewN | apply Kd.R_drew)); exact HO_3.out)); (case aS => exact (below_size (by repeat (first | (with_reducible first | exact HB.out | apply below_alloc | apply pw_below_drewN | apply below_drew1) | exact HB.out)))); (case aL => have := LMc6.out; omega); intro v200 w8 ho hb hg hat; rw [← Ny199.out] at ho; have n0_ := Aside0.mk (hb); have n1_ := Aside0.mk (ho); clear HB; clear HO_3; have HB := n0_; have HO201 := n1_; clear n0_ n1_; clear ho hb hg hat))
              go_roundg k1
              case measure => have := HK1.out; omega
              case rel => exact ⟨(y199), (wrap64 (x4_1 + 1)), (by first | rfl | (simp; done) | (simp [*]; done)), H', ⟨by have := HK1.out; omega⟩, ⟨by (with_reducible repeat (first | apply Kd.R_alloc | apply Kd.R_drewN | apply Kd.R_drew)); exact HO201.out⟩, ⟨by repeat (first | (with_reducible first | exact HB.out | apply below_alloc | apply pw_below_drewN | apply below_drew1) | exact HB.out)⟩⟩
            · rw [if_neg c6] at H
              exact absurd H (by simp)
          · rw [if_neg c4] at H
            exact absurd H (by simp)
        · rw [if_neg c3] at H
          have c3b0 : decide (x4_1 < 32) = false := decide_eq_false c3
          clear c3
          obtain rfl := Option.some.inj H
          go_wp2
          go_ret
          exact ⟨_, by first | rfl | (simp [errW_none, errW_some] <;> rfl) | (simp [*, errW_none, errW_some] <;> rfl), by (with_reducible repeat (first | apply Kd.R_alloc | apply Kd.R_drewN | apply Kd.R_drew)); exact HO_3.out, by repeat (first | (with_reducible first | exact HB.out | apply below_alloc | apply pw_below_drewN | apply below_drew1) | exact HB.out)⟩
      · rw [if_neg c2] at H
        have c2b0 : decide (x4_1 < (l0.length : Int)) = false := decide_eq_false c2
        clear c2
        obtain rfl := Option.some.inj H
        go_wp2
        go_ret
        exact ⟨_, by first | rfl | (simp [errW_none, errW_some] <;> rfl) | (simp [*, errW_none, errW_some] <;> rfl), by (with_reducible repeat (first | apply Kd.R_alloc | apply Kd.R_drewN | apply Kd.R_drew)); exact HO_3.out, by repeat (first | (with_reducible first | exact HB.out | apply below_alloc | apply pw_below_drewN | apply below_drew1) | exact HB.out)⟩

end Go.Proofs.YtbcjhmeeonhmaaaDoor.M
end

-- Laid by a program of this session for this claim.
section
namespace Go.Proofs.YtbcjhmeeonhmaaaDoor.M
open Go.RowKit Go.Proofs.YtbcjhmeeonhmaaaDoorW.PrintWords Go.Proofs.YtbcjhmeeonhmaaaDoorW.PrintLast Go.Proofs.YtbcjhmeeonhmaaaDoorW.PrintMore
attribute [local go_sem] max2_int min2_int max_two min_two max_three min_three max_four min_four   -- for this text's walks alone
set_option linter.unusedVariables false
set_option linter.unusedSimpArgs false

/-! ### pleacherref09_One: function 19 -/
-- IMPORT Derived.Test.YtbcjhmeeonhmaaaDoorHOneW
def pleacherref09_One.f (a0_0 : ByteArray) (a0_1 : ByteArray) : Option (ByteArray × Int) := if a0_0.size ≤ 1073741824 ∧ a0_1.size ≤ 1073741824 then some (H.oneS a0_0 a0_1) else none
theorem pleacherref09_One.calls (a0_0 : ByteArray) (a0_1 : ByteArray) (r1 : ByteArray) (r2 : Int) (w : World) (h : pleacherref09_One.f a0_0 a0_1 = some (r1, r2)) :
    Calls Tryd.prog 19 #[.agg #[.string a0_0, .string a0_1]] w fun e w' => e = .returned (.tuple #[.string r1, .int .i64 r2]) ∧ Below w.heap.size w w' := by
  unfold pleacherref09_One.f at h
  by_cases hh : a0_0.size ≤ 1073741824 ∧ a0_1.size ≤ 1073741824
  · rw [if_pos hh] at h
    have := H.refOne a0_0 a0_1 hh.1 hh.2 w
    rw [Option.some.inj h] at this
    exact this
  · rw [if_neg hh] at h; cases h

end Go.Proofs.YtbcjhmeeonhmaaaDoor.M
end

-- Laid by a program of this session for this claim.
section
namespace Go.Proofs.YtbcjhmeeonhmaaaDoor.M
open Go.RowKit Go.Proofs.YtbcjhmeeonhmaaaDoorW.PrintWords Go.Proofs.YtbcjhmeeonhmaaaDoorW.PrintLast Go.Proofs.YtbcjhmeeonhmaaaDoorW.PrintMore
attribute [local go_sem] max2_int min2_int max_two min_two max_three min_three max_four min_four   -- for this text's walks alone
set_option linter.unusedVariables false
set_option linter.unusedSimpArgs false

/-! ### pleacherref09_Find: function 21 -/
def pleacherref09_Find.l0 : Nat → List (S31) → ByteArray → Int → Option (ByteArray × Bool)
  | 0, _, _, _ => none
  | k + 1, x0, x1, x6 => if x6 < (x0.length : Int) then (if 0 ≤ x6 then (if ((rd_T31 x0 x6).f0).toList = x1.toList then (some ((rd_T31 x0 x6).f1, true)) else (pleacherref09_Find.l0 k x0 x1 (wrap64 (x6 + 1)))) else (none)) else (some ((⟨#[]⟩ : ByteArray), false))
def pleacherref09_Find.f (k : Nat) (l0 : List (S31)) (a1 : ByteArray) : Option (ByteArray × Bool) := pleacherref09_Find.l0 k l0 a1 0
set_option maxHeartbeats 8000000 in
set_option maxRecDepth 100000 in
theorem pleacherref09_Find.calls (k : Nat) (A0 : Option Addr) (c0 : Nat) (l0 : List (S31)) (a1 : ByteArray) (r1 : ByteArray) (r2 : Bool) (w : World) (hr0 : Kd.C k31 w A0 l0.length l0) (hc0 : l0.length ≤ c0) (h : pleacherref09_Find.f k l0 a1 = some (r1, r2)) :
    Calls Tryd.prog 21 #[.slice A0 l0.length c0, .string a1] w fun e w' => e = .returned (.tuple #[.string r1, .bool r2]) ∧ Drawn0 w w' := by
  have HR0 := Aside0.mk hr0
  have HC0 := Aside0.mk hc0
  clear hr0 hc0
  have H : (pleacherref09_Find.l0 k l0 a1 0) = some (r1, r2) := h
  clear h
  have H' := Aside0.mk H
  clear H
  go_enter Tryd.func21, Tryd.ntmps21
  go_wp2
  go_loopg [6] k (fun kq v6 w' => ∃ (x6_1 : Int), v6 = .int .i64 x6_1 ∧ Aside0 (pleacherref09_Find.l0 kq l0 a1 x6_1 = some (r1, r2)) ∧ Aside0 (kq ≤ k) ∧ Drawn0 w w')
  case atStart => exact ⟨(0), (by first | rfl | (simp; done) | (simp [*]; done)), H', ⟨Nat.le_refl _⟩, by repeat (first | exact Drawn0.refl _ | apply Drawn0.step)⟩
  case round =>
    clear H'
    try clear c2
    try clear p2
    obtain ⟨x6_1, rfl, HA, HK1, ⟨m1, rfl⟩⟩ := hrel
    cases gk with
    | zero => exact absurd HA.out (by simp [pleacherref09_Find.l0])
    | succ k1 =>
      have H := HA.out
      clear HA
      simp only [pleacherref09_Find.l0] at H
      by_cases c3 : x6_1 < (l0.length : Int)
      · rw [if_pos c3] at H
        have c3b0 : decide (x6_1 < (l0.length : Int)) = true := decide_eq_true c3
        clear c3
        by_cases c4 : 0 ≤ x6_1
        · rw [if_pos c4] at H
          have c4b0 : decide (0 ≤ x6_1) = true := decide_eq_true c4
          clear c4
          by_cases c5 : ((rd_T31 l0 x6_1).f0).toList = a1.toList
          · rw [if_pos c5] at H
            have c5b0 : (((rd_T31 l0 x6_1).f0).toList == a1.toList) = true := beq_iff_eq.mpr c5
            have c5b1 : (((rd_T31 l0 x6_1).f0).toList != a1.toList) = false := bne_eq_false_iff_eq.mpr c5
            clear c5
            simp only [Option.some.injEq, Prod.mk.injEq] at H
            obtain ⟨rfl, rfl⟩ := H
            have p202 : 0 ≤ (x6_1 : Int) := of_decide_eq_true (by first | (with_reducible assumption) | assumption)
            have q202 : x6_1 < (l0.length : Int) := of_decide_eq_true (by first | (with_reducible assumption) | assumption)
            obtain ⟨ad202, e202, hx202_0, hx202_1⟩ := at_T31 HR0.out x6_1 p202 q202
            cases e202
            replace p202 := eq_true p202
            replace q202 := eq_true q202
            have p203 : 0 ≤ (x6_1 : Int) := of_decide_eq_true (by first | (with_reducible assumption) | assumption)
            have q203 : x6_1 < (l0.length : Int) := of_decide_eq_true (by first | (with_reducible assumption) | assumption)
            obtain ⟨ad203, e203, hx203_0, hx203_1⟩ := at_T31 HR0.out x6_1 p203 q203
            obtain rfl : ad202 = ad203 := (by injection e203)
            replace p203 := eq_true p203
            replace q203 := eq_true q203
            go_wp2
            go_ret2
            exact ⟨by first | rfl | (simp; done) | (simp [*]; done), by repeat (first | exact Drawn0.refl _ | apply Drawn0.step)⟩
          · rw [if_neg c5] at H
            have c5b0 : (((rd_T31 l0 x6_1).f0).toList == a1.toList) = false := beq_eq_false_iff_ne.mpr c5
            have c5b1 : (((rd_T31 l0 x6_1).f0).toList != a1.toList) = true := bne_iff_ne.mpr c5
            have H' := Aside0.mk H
            clear H
            have p202 : 0 ≤ (x6_1 : Int) := of_decide_eq_true (by first | (with_reducible assumption) | assumption)
            have q202 : x6_1 < (l0.length : Int) := of_decide_eq_true (by first | (with_reducible assumption) | assumption)
            obtain ⟨ad202, e202, hx202_0, hx202_1⟩ := at_T31 HR0.out x6_1 p202 q202
            cases e202
            replace p202 := eq_true p202
            replace q202 := eq_true q202
            go_wp2
            go_roundg k1
            case measure => have := HK1.out; omega
            case rel => exact ⟨(wrap64 (x6_1 + 1)), (by first | rfl | (simp; done) | (simp [*]; done)), H', ⟨by have := HK1.out; omega⟩, by repeat (first | exact Drawn0.refl _ | apply Drawn0.step)⟩
        · rw [if_neg c4] at H
          exact absurd H (by simp)
      · rw [if_neg c3] at H
        have c3b0 : decide (x6_1 < (l0.length : Int)) = false := decide_eq_false c3
        clear c3
        simp only [Option.some.injEq, Prod.mk.injEq] at H
        obtain ⟨rfl, rfl⟩ := H
        go_wp2
        go_ret2
        exact ⟨by first | rfl | (simp; done) | (simp [*]; done), by repeat (first | exact Drawn0.refl _ | apply Drawn0.step)⟩

end Go.Proofs.YtbcjhmeeonhmaaaDoor.M
end

-- Laid by a program of this session for this claim.
section
namespace Go.Proofs.YtbcjhmeeonhmaaaDoor.M
open Go.RowKit Go.Proofs.YtbcjhmeeonhmaaaDoorW.PrintWords Go.Proofs.YtbcjhmeeonhmaaaDoorW.PrintLast Go.Proofs.YtbcjhmeeonhmaaaDoorW.PrintMore
attribute [local go_sem] max2_int min2_int max_two min_two max_three min_three max_four min_four   -- for this text's walks alone
set_option linter.unusedVariables false
set_option linter.unusedSimpArgs false

/-! ### pleacherref09_Put: function 18 -/
def pleacherref09_Put.l0 : Nat → List (S31) → ByteArray → Int → Option (ByteArray × Int)
  | 0, _, _, _ => none
  | k + 1, x0, x4, x5 => if x5 < (x0.length : Int) then (if 0 ≤ x5 then ((pleacherref09_One.f ((rd_T31 x0 x5).f0) ((rd_T31 x0 x5).f1)).bind fun bt205 => (if x5 ≤ (x0.length : Int) then ((pleacherref09_Find.f k (x0.take (x5 : Int).toNat) ((rd_T31 x0 x5).f0)).bind fun bt212 => (if bt205.2 = 0 then (if bt212.2 = true then (some ((⟨#[]⟩ : ByteArray), 90)) else (if (x0.length : Int) > 30 then (some ((⟨#[]⟩ : ByteArray), 90)) else (if x4.size + bt205.1.size ≤ 9223372036854775807 then (pleacherref09_Put.l0 k x0 (x4 ++ bt205.1) (wrap64 (x5 + 1))) else (none)))) else (some ((⟨#[]⟩ : ByteArray), 90)))) else (none))) else (none)) else (some (x4, 0))
def pleacherref09_Put.f (k : Nat) (l0 : List (S31)) : Option (ByteArray × Int) := pleacherref09_Put.l0 k l0 (⟨#[]⟩ : ByteArray) 0
set_option maxHeartbeats 8000000 in
set_option maxRecDepth 100000 in
theorem pleacherref09_Put.calls (k : Nat) (A0 : Option Addr) (c0 : Nat) (l0 : List (S31)) (r1 : ByteArray) (r2 : Int) (w : World) (hr0 : Kd.C k31 w A0 l0.length l0) (hc0 : l0.length ≤ c0) (h : pleacherref09_Put.f k l0 = some (r1, r2)) :
    Calls Tryd.prog 18 #[.slice A0 l0.length c0] w fun e w' => e = .returned (.tuple #[.string r1, .int .i64 r2]) ∧ Below w.heap.size w w' := by
  have hu31 := Tryd.underlying31
  have HR0 := Aside0.mk hr0
  have HC0 := Aside0.mk hc0
  clear hr0 hc0
  have HB := Aside0.mk (Below.refl w.heap.size w)
  have H : (pleacherref09_Put.l0 k l0 (⟨#[]⟩ : ByteArray) 0) = some (r1, r2) := h
  clear h
  have H' := Aside0.mk H
  clear H
  go_enter Tryd.func18, Tryd.ntmps18
  go_wp2
  repeat (go_quiet (fail); try go_wp2)
  go_loopg [4, 5] k (fun kq v4 v5 w' => ∃ (x4_1 : ByteArray) (x5_1 : Int), v4 = .string x4_1 ∧ v5 = .int .i64 x5_1 ∧ Aside0 (pleacherref09_Put.l0 kq l0 x4_1 x5_1 = some (r1, r2)) ∧ Aside0 (kq ≤ k) ∧ Aside0 (Below w.heap.size w w'))
  case atStart => exact ⟨((⟨#[]⟩ : ByteArray)), (0), (by first | rfl | (simp; done) | (simp [*]; done)), (by first | rfl | (simp; done) | (simp [*]; done)), H', ⟨Nat.le_refl _⟩, ⟨by repeat (first | (with_reducible first | exact HB.out | apply below_alloc | apply pw_below_drewN | apply below_drew1) | exact HB.out)⟩⟩
  case round =>
    clear H'
    try clear c1
    obtain ⟨x4_1, x5_1, rfl, rfl, HA, HK1, HB⟩ := hrel
    cases gk with
    | zero => exact absurd HA.out (by simp [pleacherref09_Put.l0])
    | succ k1 =>
      have H := HA.out
      clear HA
      simp only [pleacherref09_Put.l0] at H
      by_cases c2 : x5_1 < (l0.length : Int)
      · rw [if_pos c2] at H
        have c2b0 : decide (x5_1 < (l0.length : Int)) = true := decide_eq_true c2
        clear c2
        by_cases c3 : 0 ≤ x5_1
        · rw [if_pos c3] at H
          have c3b0 : decide (0 ≤ x5_1) = true := decide_eq_true c3
          clear c3
          replace H := Option.bind_eq_some_iff.mp H
          obtain ⟨⟨t205, t206⟩, A40, H⟩ := H
          replace H : (if x5_1 ≤ (l0.length : Int) then ((pleacherref09_Find.f k1 (l0.take (x5_1 : Int).toNat) ((rd_T31 l0 x5_1).f0)).bind fun bt212 => (if t206 = 0 then (if bt212.2 = true then (some ((⟨#[]⟩ : ByteArray), 90)) else (if (l0.length : Int) > 30 then (some ((⟨#[]⟩ : ByteArray), 90)) else (if x4_1.size + t205.size ≤ 9223372036854775807 then (pleacherref09_Put.l0 k1 l0 (x4_1 ++ t205) (wrap64 (x5_1 + 1))) else (none)))) else (some ((⟨#[]⟩ : ByteArray), 90)))) else (none)) = some (r1, r2) := H
          have A4 := Aside0.mk A40
          clear A40
          have c5b0 := eq_true (of_decide_eq_true (by first | (with_reducible assumption) | assumption) : 0 ≤ x5_1)
          by_cases c6 : x5_1 ≤ (l0.length : Int)
          · rw [if_pos c6] at H
            have c6b0 := eq_true c6
            have c6b1 : decide (x5_1 ≤ (l0.length : Int)) = true := decide_eq_true c6
            clear c6
            obtain ⟨y207, hy207⟩ : ∃ y_ : List (S31), y_ = (l0.take (x5_1 : Int).toNat) := ⟨_, rfl⟩
            replace H : ((pleacherref09_Find.f k1 y207 ((rd_T31 l0 x5_1).f0)).bind fun bt212 => (if t206 = 0 then (if bt212.2 = true then (some ((⟨#[]⟩ : ByteArray), 90)) else (if (l0.length : Int) > 30 then (some ((⟨#[]⟩ : ByteArray), 90)) else (if x4_1.size + t205.size ≤ 9223372036854775807 then (pleacherref09_Put.l0 k1 l0 (x4_1 ++ t205) (wrap64 (x5_1 + 1))) else (none)))) else (some ((⟨#[]⟩ : ByteArray), 90)))) = some (r1, r2) := by first | (rw [hy207]; with_reducible exact H) | (have H2_ := (Option.bind_some _ _).symm.trans H; rw [hy207]; with_reducible exact H2_) | (have H2_ := (Option.bind_some _ _).symm.trans H; with_reducible exact H2_) | with_reducible exact H | (rw [hy207]; exact H) | exact H
            have Ny207 := Aside0.mk hy207
            clear hy207
            replace H := Option.bind_eq_some_iff.mp H
            obtain ⟨⟨t212, t213⟩, A70, H⟩ := H
            replace H : (if t206 = 0 then (if t213 = true then (some ((⟨#[]⟩ : ByteArray), 90)) else (if (l0.length : Int) > 30 then (some ((⟨#[]⟩ : ByteArray), 90)) else (if x4_1.size + t205.size ≤ 9223372036854775807 then (pleacherref09_Put.l0 k1 l0 (x4_1 ++ t205) (wrap64 (x5_1 + 1))) else (none)))) else (some ((⟨#[]⟩ : ByteArray), 90))) = some (r1, r2) := H
            have A7 := Aside0.mk A70
            clear A70
            by_cases c8 : t206 = 0
            · rw [if_pos c8] at H
              have c8b0 : (t206 == 0) = true := beq_iff_eq.mpr c8
              have c8b1 : (t206 != 0) = false := bne_eq_false_iff_eq.mpr c8
              clear c8
              by_cases c9 : t213 = true
              · subst c9
                have H1 : (some ((⟨#[]⟩ : ByteArray), 90)) = some (r1, r2) := by rw [if_pos rfl] at H; exact H
                clear H
                have H := H1
                clear H1
                simp only [Option.some.injEq, Prod.mk.injEq] at H
                obtain ⟨rfl, rfl⟩ := H
                have p204 : 0 ≤ (x5_1 : Int) := of_decide_eq_true (by first | (with_reducible assumption) | assumption)
                have q204 : x5_1 < (l0.length : Int) := of_decide_eq_true (by first | (with_reducible assumption) | assumption)
                obtain ⟨ad204, e204, hx204_0, hx204_1⟩ := at_T31 HR0.out x5_1 p204 q204
                cases e204
                replace hx204_0 := (HB.out.cell (World.block_lt_of_cell? w _ hx204_0)).trans hx204_0
                replace hx204_1 := (HB.out.cell (World.block_lt_of_cell? w _ hx204_1)).trans hx204_1
                replace p204 := eq_true p204
                replace q204 := eq_true q204
                go_wp2_with (first | (go_at_call 19; (with_reducible refine (pleacherref09_One.calls ((rd_T31 l0 x5_1).f0) ((rd_T31 l0 x5_1).f1) t205 t206 _ A4.out).mono ?_); rintro e w10 ⟨rfl, hb⟩; have n0_ := Aside0.mk (below_step (by repeat (first | (with_reducible first | exact HB.out | apply below_alloc | apply pw_below_drewN | apply below_drew1) | exact HB.out)) hb); clear HB; have HB := n0_; clear n0_; (try clear hb); (try clear hb2); (try clear hk); (try clear hi); have q11 : (x5_1 : Int) ≤ ((l0.length : Int) : Int) := of_decide_eq_true (by first | (with_reducible assumption) | assumption); obtain ⟨i011, hi011, _, hsz11, _⟩ := info_parts info31; have hroom11 : l0.length ≤ c0 := HC0.out; have hC11 : Kd.C k31 _ (some ad204) l0.length l0 := HR0.out; have hcut11 := cut_to (P := Tryd.prog) 23 31 .i64 Tryd.underlying23 hi011 (some ad204) l0.length c0 x5_1 (of_decide_eq_true (by first | (with_reducible assumption) | assumption)) q11 hroom11; have hr11 := Kd.C_take (m := (x5_1 : Int).toNat) hC11 (by omega); have hy11 : y207.length = (x5_1 : Int).toNat := (by rw [Ny207.out, List.length_take]; omega); rw [← Ny207.out] at hr11; rw [← hy11] at hcut11; have HR210 := Aside0.mk hr11; have HC210 := Aside0.mk (show y207.length ≤ c0 from by omega); clear hr11 hC11 hroom11 hi011 hsz11; have KY11 := Aside0.mk hy11; clear hy11; replace q11 := eq_true q11; have p211 : 0 ≤ (x5_1 : Int) := of_decide_eq_true (by first | (with_reducible assumption) | assumption); have q211 : x5_1 < (l0.length : Int) := of_decide_eq_true (by first | (with_reducible assumption) | assumption); obtain ⟨ad211, e211, hx211_0, hx211_1⟩ := at_T31 HR0.out x5_1 p211 q211; obtain rfl : ad204 = ad211 := (by injection e211); replace hx211_0 := (HB.out.cell (World.block_lt_of_cell? w _ hx211_0)).trans hx211_0; replace hx211_1 := (HB.out.cell (World.block_lt_of_cell? w _ hx211_1)).trans hx211_1; replace p211 := eq_true p211; replace q211 := eq_true q211) | (go_at_call 21; (with_reducible refine (pleacherref09_Find.calls k1 _ _ y207 ((rd_T31 l0 x5_1).f0) t212 true _ ?side1 ?side2 A7.out).mono ?_); (case side1 => repeat (first | exact (Kd.C_below HR210.out HB.out) | (with_reducible refine Kd.C_alloc ?_ _) | (with_reducible refine Kd.C_drewN ?_ _) | (with_reducible refine Kd.C_drew ?_))); (case side2 => exact HC210.out); rintro e w' ⟨rfl, ⟨nd, rfl⟩⟩; (try first | exact ⟨rfl, _, World.drewN_drewN _ _ _⟩ | exact ⟨rfl, _, Eq.trans (World.drewN_drewN _ _ _) (congrArg (World.drewN _) (Nat.add_assoc _ _ _))⟩)))
                repeat (go_quiet (first | (go_at_call 19; (with_reducible refine (pleacherref09_One.calls ((rd_T31 l0 x5_1).f0) ((rd_T31 l0 x5_1).f1) t205 t206 _ A4.out).mono ?_); rintro e w10 ⟨rfl, hb⟩; have n0_ := Aside0.mk (below_step (by repeat (first | (with_reducible first | exact HB.out | apply below_alloc | apply pw_below_drewN | apply below_drew1) | exact HB.out)) hb); clear HB; have HB := n0_; clear n0_; (try clear hb); (try clear hb2); (try clear hk); (try clear hi); have q11 : (x5_1 : Int) ≤ ((l0.length : Int) : Int) := of_decide_eq_true (by first | (with_reducible assumption) | assumption); obtain ⟨i011, hi011, _, hsz11, _⟩ := info_parts info31; have hroom11 : l0.length ≤ c0 := HC0.out; have hC11 : Kd.C k31 _ (some ad204) l0.length l0 := HR0.out; have hcut11 := cut_to (P := Tryd.prog) 23 31 .i64 Tryd.underlying23 hi011 (some ad204) l0.length c0 x5_1 (of_decide_eq_true (by first | (with_reducible assumption) | assumption)) q11 hroom11; have hr11 := Kd.C_take (m := (x5_1 : Int).toNat) hC11 (by omega); have hy11 : y207.length = (x5_1 : Int).toNat := (by rw [Ny207.out, List.length_take]; omega); rw [← Ny207.out] at hr11; rw [← hy11] at hcut11; have HR210 := Aside0.mk hr11; have HC210 := Aside0.mk (show y207.length ≤ c0 from by omega); clear hr11 hC11 hroom11 hi011 hsz11; have KY11 := Aside0.mk hy11; clear hy11; replace q11 := eq_true q11; have p211 : 0 ≤ (x5_1 : Int) := of_decide_eq_true (by first | (with_reducible assumption) | assumption); have q211 : x5_1 < (l0.length : Int) := of_decide_eq_true (by first | (with_reducible assumption) | assumption); obtain ⟨ad211, e211, hx211_0, hx211_1⟩ := at_T31 HR0.out x5_1 p211 q211; obtain rfl : ad204 = ad211 := (by injection e211); replace hx211_0 := (HB.out.cell (World.block_lt_of_cell? w _ hx211_0)).trans hx211_0; replace hx211_1 := (HB.out.cell (World.block_lt_of_cell? w _ hx211_1)).trans hx211_1; replace p211 := eq_true p211; replace q211 := eq_true q211) | (go_at_call 21; (with_reducible refine (pleacherref09_Find.calls k1 _ _ y207 ((rd_T31 l0 x5_1).f0) t212 true _ ?side1 ?side2 A7.out).mono ?_); (case side1 => repeat (first | exact (Kd.C_below HR210.out HB.out) | (with_reducible refine Kd.C_alloc ?_ _) | (with_reducible refine Kd.C_drewN ?_ _) | (with_reducible refine Kd.C_drew ?_))); (case side2 => exact HC210.out); rintro e w' ⟨rfl, ⟨nd, rfl⟩⟩; (try first | exact ⟨rfl, _, World.drewN_drewN _ _ _⟩ | exact ⟨rfl, _, Eq.trans (World.drewN_drewN _ _ _) (congrArg (World.drewN _) (Nat.add_assoc _ _ _))⟩))); try go_wp2_with (first | (go_at_call 19; (with_reducible refine (pleacherref09_One.calls ((rd_T31 l0 x5_1).f0) ((rd_T31 l0 x5_1).f1) t205 t206 _ A4.out).mono ?_); rintro e w10 ⟨rfl, hb⟩; have n0_ := Aside0.mk (below_step (by repeat (first | (with_reducible first | exact HB.out | apply below_alloc | apply pw_below_drewN | apply below_drew1) | exact HB.out)) hb); clear HB; have HB := n0_; clear n0_; (try clear hb); (try clear hb2); (try clear hk); (try clear hi); have q11 : (x5_1 : Int) ≤ ((l0.length : Int) : Int) := of_decide_eq_true (by first | (with_reducible assumption) | assumption); obtain ⟨i011, hi011, _, hsz11, _⟩ := info_parts info31; have hroom11 : l0.length ≤ c0 := HC0.out; have hC11 : Kd.C k31 _ (some ad204) l0.length l0 := HR0.out; have hcut11 := cut_to (P := Tryd.prog) 23 31 .i64 Tryd.underlying23 hi011 (some ad204) l0.length c0 x5_1 (of_decide_eq_true (by first | (with_reducible assumption) | assumption)) q11 hroom11; have hr11 := Kd.C_take (m := (x5_1 : Int).toNat) hC11 (by omega); have hy11 : y207.length = (x5_1 : Int).toNat := (by rw [Ny207.out, List.length_take]; omega); rw [← Ny207.out] at hr11; rw [← hy11] at hcut11; have HR210 := Aside0.mk hr11; have HC210 := Aside0.mk (show y207.length ≤ c0 from by omega); clear hr11 hC11 hroom11 hi011 hsz11; have KY11 := Aside0.mk hy11; clear hy11; replace q11 := eq_true q11; have p211 : 0 ≤ (x5_1 : Int) := of_decide_eq_true (by first | (with_reducible assumption) | assumption); have q211 : x5_1 < (l0.length : Int) := of_decide_eq_true (by first | (with_reducible assumption) | assumption); obtain ⟨ad211, e211, hx211_0, hx211_1⟩ := at_T31 HR0.out x5_1 p211 q211; obtain rfl : ad204 = ad211 := (by injection e211); replace hx211_0 := (HB.out.cell (World.block_lt_of_cell? w _ hx211_0)).trans hx211_0; replace hx211_1 := (HB.out.cell (World.block_lt_of_cell? w _ hx211_1)).trans hx211_1; replace p211 := eq_true p211; replace q211 := eq_true q211) | (go_at_call 21; (with_reducible refine (pleacherref09_Find.calls k1 _ _ y207 ((rd_T31 l0 x5_1).f0) t212 true _ ?side1 ?side2 A7.out).mono ?_); (case side1 => repeat (first | exact (Kd.C_below HR210.out HB.out) | (with_reducible refine Kd.C_alloc ?_ _) | (with_reducible refine Kd.C_drewN ?_ _) | (with_reducible refine Kd.C_drew ?_))); (case side2 => exact HC210.out); rintro e w' ⟨rfl, ⟨nd, rfl⟩⟩; (try first | exact ⟨rfl, _, World.drewN_drewN _ _ _⟩ | exact ⟨rfl, _, Eq.trans (World.drewN_drewN _ _ _) (congrArg (World.drewN _) (Nat.add_assoc _ _ _))⟩))))
                go_ret2
                exact ⟨by first | rfl | (simp [errW_none, errW_some] <;> rfl) | (simp [*, errW_none, errW_some] <;> rfl), by repeat (first | (with_reducible first | exact HB.out | apply below_alloc | apply pw_below_drewN | apply below_drew1) | exact HB.out)⟩
              · replace c9 := Bool.eq_false_iff.mpr c9
                subst c9
                have H1 : (if (l0.length : Int) > 30 then (some ((⟨#[]⟩ : ByteArray), 90)) else (if x4_1.size + t205.size ≤ 9223372036854775807 then (pleacherref09_Put.l0 k1 l0 (x4_1 ++ t205) (wrap64 (x5_1 + 1))) else (none))) = some (r1, r2) := by rw [if_neg (show ¬ (false = true) by decide)] at H; exact H
                clear H
                have H := H1
                clear H1
                by_cases c12 : (l0.length : Int) > 30
                · rw [if_pos c12] at H
                  have c12b0 : decide (30 < (l0.length : Int)) = true := decide_eq_true c12
                  have c12b1 : decide (30 < l0.length) = true := decide_eq_true (by omega)
                  clear c12
                  simp only [Option.some.injEq, Prod.mk.injEq] at H
                  obtain ⟨rfl, rfl⟩ := H
                  have p204 : 0 ≤ (x5_1 : Int) := of_decide_eq_true (by first | (with_reducible assumption) | assumption)
                  have q204 : x5_1 < (l0.length : Int) := of_decide_eq_true (by first | (with_reducible assumption) | assumption)
                  obtain ⟨ad204, e204, hx204_0, hx204_1⟩ := at_T31 HR0.out x5_1 p204 q204
                  cases e204
                  replace hx204_0 := (HB.out.cell (World.block_lt_of_cell? w _ hx204_0)).trans hx204_0
                  replace hx204_1 := (HB.out.cell (World.block_lt_of_cell? w _ hx204_1)).trans hx204_1
                  replace p204 := eq_true p204
                  replace q204 := eq_true q204
                  go_wp2_with (first | (go_at_call 19; (with_reducible refine (pleacherref09_One.calls ((rd_T31 l0 x5_1).f0) ((rd_T31 l0 x5_1).f1) t205 t206 _ A4.out).mono ?_); rintro e w13 ⟨rfl, hb⟩; have n0_ := Aside0.mk (below_step (by repeat (first | (with_reducible first | exact HB.out | apply below_alloc | apply pw_below_drewN | apply below_drew1) | exact HB.out)) hb); clear HB; have HB := n0_; clear n0_; (try clear hb); (try clear hb2); (try clear hk); (try clear hi); have q14 : (x5_1 : Int) ≤ ((l0.length : Int) : Int) := of_decide_eq_true (by first | (with_reducible assumption) | assumption); obtain ⟨i014, hi014, _, hsz14, _⟩ := info_parts info31; have hroom14 : l0.length ≤ c0 := HC0.out; have hC14 : Kd.C k31 _ (some ad204) l0.length l0 := HR0.out; have hcut14 := cut_to (P := Tryd.prog) 23 31 .i64 Tryd.underlying23 hi014 (some ad204) l0.length c0 x5_1 (of_decide_eq_true (by first | (with_reducible assumption) | assumption)) q14 hroom14; have hr14 := Kd.C_take (m := (x5_1 : Int).toNat) hC14 (by omega); have hy14 : y207.length = (x5_1 : Int).toNat := (by rw [Ny207.out, List.length_take]; omega); rw [← Ny207.out] at hr14; rw [← hy14] at hcut14; have HR210 := Aside0.mk hr14; have HC210 := Aside0.mk (show y207.length ≤ c0 from by omega); clear hr14 hC14 hroom14 hi014 hsz14; have KY14 := Aside0.mk hy14; clear hy14; replace q14 := eq_true q14; have p211 : 0 ≤ (x5_1 : Int) := of_decide_eq_true (by first | (with_reducible assumption) | assumption); have q211 : x5_1 < (l0.length : Int) := of_decide_eq_true (by first | (with_reducible assumption) | assumption); obtain ⟨ad211, e211, hx211_0, hx211_1⟩ := at_T31 HR0.out x5_1 p211 q211; obtain rfl : ad204 = ad211 := (by injection e211); replace hx211_0 := (HB.out.cell (World.block_lt_of_cell? w _ hx211_0)).trans hx211_0; replace hx211_1 := (HB.out.cell (World.block_lt_of_cell? w _ hx211_1)).trans hx211_1; replace p211 := eq_true p211; replace q211 := eq_true q211) | (go_at_call 21; (with_reducible refine (pleacherref09_Find.calls k1 _ _ y207 ((rd_T31 l0 x5_1).f0) t212 false _ ?side1 ?side2 A7.out).mono ?_); (case side1 => repeat (first | exact (Kd.C_below HR210.out HB.out) | (with_reducible refine Kd.C_alloc ?_ _) | (with_reducible refine Kd.C_drewN ?_ _) | (with_reducible refine Kd.C_drew ?_))); (case side2 => exact HC210.out); rintro e w' ⟨rfl, ⟨nd, rfl⟩⟩; (try first | exact ⟨rfl, _, World.drewN_drewN _ _ _⟩ | exact ⟨rfl, _, Eq.trans (World.drewN_drewN _ _ _) (congrArg (World.drewN _) (Nat.add_assoc _ _ _))⟩)))
                  repeat (go_quiet (first | (go_at_call 19; (with_reducible refine (pleacherref09_One.calls ((rd_T31 l0 x5_1).f0) ((rd_T31 l0 x5_1).f1) t205 t206 _ A4.out).mono ?_); rintro e w13 ⟨rfl, hb⟩; have n0_ := Aside0.mk (below_step (by repeat (first | (with_reducible first | exact HB.out | apply below_alloc | apply pw_below_drewN | apply below_drew1) | exact HB.out)) hb); clear HB; have HB := n0_; clear n0_; (try clear hb); (try clear hb2); (try clear hk); (try clear hi); have q14 : (x5_1 : Int) ≤ ((l0.length : Int) : Int) := of_decide_eq_true (by first | (with_reducible assumption) | assumption); obtain ⟨i014, hi014, _, hsz14, _⟩ := info_parts info31; have hroom14 : l0.length ≤ c0 := HC0.out; have hC14 : Kd.C k31 _ (some ad204) l0.length l0 := HR0.out; have hcut14 := cut_to (P := Tryd.prog) 23 31 .i64 Tryd.underlying23 hi014 (some ad204) l0.length c0 x5_1 (of_decide_eq_true (by first | (with_reducible assumption) | assumption)) q14 hroom14; have hr14 := Kd.C_take (m := (x5_1 : Int).toNat) hC14 (by omega); have hy14 : y207.length = (x5_1 : Int).toNat := (by rw [Ny207.out, List.length_take]; omega); rw [← Ny207.out] at hr14; rw [← hy14] at hcut14; have HR210 := Aside0.mk hr14; have HC210 := Aside0.mk (show y207.length ≤ c0 from by omega); clear hr14 hC14 hroom14 hi014 hsz14; have KY14 := Aside0.mk hy14; clear hy14; replace q14 := eq_true q14; have p211 : 0 ≤ (x5_1 : Int) := of_decide_eq_true (by first | (with_reducible assumption) | assumption); have q211 : x5_1 < (l0.length : Int) := of_decide_eq_true (by first | (with_reducible assumption) | assumption); obtain ⟨ad211, e211, hx211_0, hx211_1⟩ := at_T31 HR0.out x5_1 p211 q211; obtain rfl : ad204 = ad211 := (by injection e211); replace hx211_0 := (HB.out.cell (World.block_lt_of_cell? w _ hx211_0)).trans hx211_0; replace hx211_1 := (HB.out.cell (World.block_lt_of_cell? w _ hx211_1)).trans hx211_1; replace p211 := eq_true p211; replace q211 := eq_true q211) | (go_at_call 21; (with_reducible refine (pleacherref09_Find.calls k1 _ _ y207 ((rd_T31 l0 x5_1).f0) t212 false _ ?side1 ?side2 A7.out).mono ?_); (case side1 => repeat (first | exact (Kd.C_below HR210.out HB.out) | (with_reducible refine Kd.C_alloc ?_ _) | (with_reducible refine Kd.C_drewN ?_ _) | (with_reducible refine Kd.C_drew ?_))); (case side2 => exact HC210.out); rintro e w' ⟨rfl, ⟨nd, rfl⟩⟩; (try first | exact ⟨rfl, _, World.drewN_drewN _ _ _⟩ | exact ⟨rfl, _, Eq.trans (World.drewN_drewN _ _ _) (congrArg (World.drewN _) (Nat.add_assoc _ _ _))⟩))); try go_wp2_with (first | (go_at_call 19; (with_reducible refine (pleacherref09_One.calls ((rd_T31 l0 x5_1).f0) ((rd_T31 l0 x5_1).f1) t205 t206 _ A4.out).mono ?_); rintro e w13 ⟨rfl, hb⟩; have n0_ := Aside0.mk (below_step (by repeat (first | (with_reducible first | exact HB.out | apply below_alloc | apply pw_below_drewN | apply below_drew1) | exact HB.out)) hb); clear HB; have HB := n0_; clear n0_; (try clear hb); (try clear hb2); (try clear hk); (try clear hi); have q14 : (x5_1 : Int) ≤ ((l0.length : Int) : Int) := of_decide_eq_true (by first | (with_reducible assumption) | assumption); obtain ⟨i014, hi014, _, hsz14, _⟩ := info_parts info31; have hroom14 : l0.length ≤ c0 := HC0.out; have hC14 : Kd.C k31 _ (some ad204) l0.length l0 := HR0.out; have hcut14 := cut_to (P := Tryd.prog) 23 31 .i64 Tryd.underlying23 hi014 (some ad204) l0.length c0 x5_1 (of_decide_eq_true (by first | (with_reducible assumption) | assumption)) q14 hroom14; have hr14 := Kd.C_take (m := (x5_1 : Int).toNat) hC14 (by omega); have hy14 : y207.length = (x5_1 : Int).toNat := (by rw [Ny207.out, List.length_take]; omega); rw [← Ny207.out] at hr14; rw [← hy14] at hcut14; have HR210 := Aside0.mk hr14; have HC210 := Aside0.mk (show y207.length ≤ c0 from by omega); clear hr14 hC14 hroom14 hi014 hsz14; have KY14 := Aside0.mk hy14; clear hy14; replace q14 := eq_true q14; have p211 : 0 ≤ (x5_1 : Int) := of_decide_eq_true (by first | (with_reducible assumption) | assumption); have q211 : x5_1 < (l0.length : Int) := of_decide_eq_true (by first | (with_reducible assumption) | assumption); obtain ⟨ad211, e211, hx211_0, hx211_1⟩ := at_T31 HR0.out x5_1 p211 q211; obtain rfl : ad204 = ad211 := (by injection e211); replace hx211_0 := (HB.out.cell (World.block_lt_of_cell? w _ hx211_0)).trans hx211_0; replace hx211_1 := (HB.out.cell (World.block_lt_of_cell? w _ hx211_1)).trans hx211_1; replace p211 := eq_true p211; replace q211 := eq_true q211) | (go_at_call 21; (with_reducible refine (pleacherref09_Find.calls k1 _ _ y207 ((rd_T31 l0 x5_1).f0) t212 false _ ?side1 ?side2 A7.out).mono ?_); (case side1 => repeat (first | exact (Kd.C_below HR210.out HB.out) | (with_reducible refine Kd.C_alloc ?_ _) | (with_reducible refine Kd.C_drewN ?_ _) | (with_reducible refine Kd.C_drew ?_))); (case side2 => exact HC210.out); rintro e w' ⟨rfl, ⟨nd, rfl⟩⟩; (try first | exact ⟨rfl, _, World.drewN_drewN _ _ _⟩ | exact ⟨rfl, _, Eq.trans (World.drewN_drewN _ _ _) (congrArg (World.drewN _) (Nat.add_assoc _ _ _))⟩))))
                  go_ret2
                  exact ⟨by first | rfl | (simp [errW_none, errW_some] <;> rfl) | (simp [*, errW_none, errW_some] <;> rfl), by repeat (first | (with_reducible first | exact HB.out | apply below_alloc | apply pw_below_drewN | apply below_drew1) | exact HB.out)⟩
                · rw [if_neg c12] at H
                  have c12b0 : decide (30 < (l0.length : Int)) = false := decide_eq_false c12
                  have c12b1 : decide (30 < l0.length) = false := decide_eq_false (by omega)
                  clear c12
                  by_cases c15 : x4_1.size + t205.size ≤ 9223372036854775807
                  · rw [if_pos c15] at H
                    have c15b0 := eq_true c15
                    have c15b1 : decide (x4_1.size + t205.size ≤ 9223372036854775807) = true := decide_eq_true c15
                    try have c15b2 : (9223372036854775807 < x4_1.size + t205.size) = False := eq_false (Nat.not_lt.2 c15)
                    have H' := Aside0.mk H
                    clear H
                    have p204 : 0 ≤ (x5_1 : Int) := of_decide_eq_true (by first | (with_reducible assumption) | assumption)
                    have q204 : x5_1 < (l0.length : Int) := of_decide_eq_true (by first | (with_reducible assumption) | assumption)
                    obtain ⟨ad204, e204, hx204_0, hx204_1⟩ := at_T31 HR0.out x5_1 p204 q204
                    cases e204
                    replace hx204_0 := (HB.out.cell (World.block_lt_of_cell? w _ hx204_0)).trans hx204_0
                    replace hx204_1 := (HB.out.cell (World.block_lt_of_cell? w _ hx204_1)).trans hx204_1
                    replace p204 := eq_true p204
                    replace q204 := eq_true q204
                    go_wp2_with (first | (go_at_call 19; (with_reducible refine (pleacherref09_One.calls ((rd_T31 l0 x5_1).f0) ((rd_T31 l0 x5_1).f1) t205 t206 _ A4.out).mono ?_); rintro e w16 ⟨rfl, hb⟩; have n0_ := Aside0.mk (below_step (by repeat (first | (with_reducible first | exact HB.out | apply below_alloc | apply pw_below_drewN | apply below_drew1) | exact HB.out)) hb); clear HB; have HB := n0_; clear n0_; (try clear hb); (try clear hb2); (try clear hk); (try clear hi); have q17 : (x5_1 : Int) ≤ ((l0.length : Int) : Int) := of_decide_eq_true (by first | (with_reducible assumption) | assumption); obtain ⟨i017, hi017, _, hsz17, _⟩ := info_parts info31; have hroom17 : l0.length ≤ c0 := HC0.out; have hC17 : Kd.C k31 _ (some ad204) l0.length l0 := HR0.out; have hcut17 := cut_to (P := Tryd.prog) 23 31 .i64 Tryd.underlying23 hi017 (some ad204) l0.length c0 x5_1 (of_decide_eq_true (by first | (with_reducible assumption) | assumption)) q17 hroom17; have hr17 := Kd.C_take (m := (x5_1 : Int).toNat) hC17 (by omega); have hy17 : y207.length = (x5_1 : Int).toNat := (by rw [Ny207.out, List.length_take]; omega); rw [← Ny207.out] at hr17; rw [← hy17] at hcut17; have HR210 := Aside0.mk hr17; have HC210 := Aside0.mk (show y207.length ≤ c0 from by omega); clear hr17 hC17 hroom17 hi017 hsz17; have KY17 := Aside0.mk hy17; clear hy17; replace q17 := eq_true q17; have p211 : 0 ≤ (x5_1 : Int) := of_decide_eq_true (by first | (with_reducible assumption) | assumption); have q211 : x5_1 < (l0.length : Int) := of_decide_eq_true (by first | (with_reducible assumption) | assumption); obtain ⟨ad211, e211, hx211_0, hx211_1⟩ := at_T31 HR0.out x5_1 p211 q211; obtain rfl : ad204 = ad211 := (by injection e211); replace hx211_0 := (HB.out.cell (World.block_lt_of_cell? w _ hx211_0)).trans hx211_0; replace hx211_1 := (HB.out.cell (World.block_lt_of_cell? w _ hx211_1)).trans hx211_1; replace p211 := eq_true p211; replace q211 := eq_true q211) | (go_at_call 21; (with_reducible refine (pleacherref09_Find.calls k1 _ _ y207 ((rd_T31 l0 x5_1).f0) t212 false _ ?side1 ?side2 A7.out).mono ?_); (case side1 => repeat (first | exact (Kd.C_below HR210.out HB.out) | (with_reducible refine Kd.C_alloc ?_ _) | (with_reducible refine Kd.C_drewN ?_ _) | (with_reducible refine Kd.C_drew ?_))); (case side2 => exact HC210.out); rintro e w' ⟨rfl, ⟨nd, rfl⟩⟩; (try first | exact ⟨rfl, _, World.drewN_drewN _ _ _⟩ | exact ⟨rfl, _, Eq.trans (World.drewN_drewN _ _ _) (congrArg (World.drewN _) (Nat.add_assoc _ _ _))⟩)))
                    repeat (go_quiet (first | (go_at_call 19; (with_reducible refine (pleacherref09_One.calls ((rd_T31 l0 x5_1).f0) ((rd_T31 l0 x5_1).f1) t205 t206 _ A4.out).mono ?_); rintro e w16 ⟨rfl, hb⟩; have n0_ := Aside0.mk (below_step (by repeat (first | (with_reducible first | exact HB.out | apply below_alloc | apply pw_below_drewN | apply below_drew1) | exact HB.out)) hb); clear HB; have HB := n0_; clear n0_; (try clear hb); (try clear hb2); (try clear hk); (try clear hi); have q17 : (x5_1 : Int) ≤ ((l0.length : Int) : Int) := of_decide_eq_true (by first | (with_reducible assumption) | assumption); obtain ⟨i017, hi017, _, hsz17, _⟩ := info_parts info31; have hroom17 : l0.length ≤ c0 := HC0.out; have hC17 : Kd.C k31 _ (some ad204) l0.length l0 := HR0.out; have hcut17 := cut_to (P := Tryd.prog) 23 31 .i64 Tryd.underlying23 hi017 (some ad204) l0.length c0 x5_1 (of_decide_eq_true (by first | (with_reducible assumption) | assumption)) q17 hroom17; have hr17 := Kd.C_take (m := (x5_1 : Int).toNat) hC17 (by omega); have hy17 : y207.length = (x5_1 : Int).toNat := (by rw [Ny207.out, List.length_take]; omega); rw [← Ny207.out] at hr17; rw [← hy17] at hcut17; have HR210 := Aside0.mk hr17; have HC210 := Aside0.mk (show y207.length ≤ c0 from by omega); clear hr17 hC17 hroom17 hi017 hsz17; have KY17 := Aside0.mk hy17; clear hy17; replace q17 := eq_true q17; have p211 : 0 ≤ (x5_1 : Int) := of_decide_eq_true (by first | (with_reducible assumption) | assumption); have q211 : x5_1 < (l0.length : Int) := of_decide_eq_true (by first | (with_reducible assumption) | assumption); obtain ⟨ad211, e211, hx211_0, hx211_1⟩ := at_T31 HR0.out x5_1 p211 q211; obtain rfl : ad204 = ad211 := (by injection e211); replace hx211_0 := (HB.out.cell (World.block_lt_of_cell? w _ hx211_0)).trans hx211_0; replace hx211_1 := (HB.out.cell (World.block_lt_of_cell? w _ hx211_1)).trans hx211_1; replace p211 := eq_true p211; replace q211 := eq_true q211) | (go_at_call 21; (with_reducible refine (pleacherref09_Find.calls k1 _ _ y207 ((rd_T31 l0 x5_1).f0) t212 false _ ?side1 ?side2 A7.out).mono ?_); (case side1 => repeat (first | exact (Kd.C_below HR210.out HB.out) | (with_reducible refine Kd.C_alloc ?_ _) | (with_reducible refine Kd.C_drewN ?_ _) | (with_reducible refine Kd.C_drew ?_))); (case side2 => exact HC210.out); rintro e w' ⟨rfl, ⟨nd, rfl⟩⟩; (try first | exact ⟨rfl, _, World.drewN_drewN _ _ _⟩ | exact ⟨rfl, _, Eq.trans (World.drewN_drewN _ _ _) (congrArg (World.drewN _) (Nat.add_assoc _ _ _))⟩))); try go_wp2_with (first | (go_at_call 19; (with_reducible refine (pleacherref09_One.calls ((rd_T31 l0 x5_1).f0) ((rd_T31 l0 x5_1).f1) t205 t206 _ A4.out).mono ?_); rintro e w16 ⟨rfl, hb⟩; have n0_ := Aside0.mk (below_step (by repeat (first | (with_reducible first | exact HB.out | apply below_alloc | apply pw_below_drewN | apply below_drew1) | exact HB.out)) hb); clear HB; have HB := n0_; clear n0_; (try clear hb); (try clear hb2); (try clear hk); (try clear hi); have q17 : (x5_1 : Int) ≤ ((l0.length : Int) : Int) := of_decide_eq_true (by first | (with_reducible assumption) | assumption); obtain ⟨i017, hi017, _, hsz17, _⟩ := info_parts info31; have hroom17 : l0.length ≤ c0 := HC0.out; have hC17 : Kd.C k31 _ (some ad204) l0.length l0 := HR0.out; have hcut17 := cut_to (P := Tryd.prog) 23 31 .i64 Tryd.underlying23 hi017 (some ad204) l0.length c0 x5_1 (of_decide_eq_true (by first | (with_reducible assumption) | assumption)) q17 hroom17; have hr17 := Kd.C_take (m := (x5_1 : Int).toNat) hC17 (by omega); have hy17 : y207.length = (x5_1 : Int).toNat := (by rw [Ny207.out, List.length_take]; omega); rw [← Ny207.out] at hr17; rw [← hy17] at hcut17; have HR210 := Aside0.mk hr17; have HC210 := Aside0.mk (show y207.length ≤ c0 from by omega); clear hr17 hC17 hroom17 hi017 hsz17; have KY17 := Aside0.mk hy17; clear hy17; replace q17 := eq_true q17; have p211 : 0 ≤ (x5_1 : Int) := of_decide_eq_true (by first | (with_reducible assumption) | assumption); have q211 : x5_1 < (l0.length : Int) := of_decide_eq_true (by first | (with_reducible assumption) | assumption); obtain ⟨ad211, e211, hx211_0, hx211_1⟩ := at_T31 HR0.out x5_1 p211 q211; obtain rfl : ad204 = ad211 := (by injection e211); replace hx211_0 := (HB.out.cell (World.block_lt_of_cell? w _ hx211_0)).trans hx211_0; replace hx211_1 := (HB.out.cell (World.block_lt_of_cell? w _ hx211_1)).trans hx211_1; replace p211 := eq_true p211; replace q211 := eq_true q211) | (go_at_call 21; (with_reducible refine (pleacherref09_Find.calls k1 _ _ y207 ((rd_T31 l0 x5_1).f0) t212 false _ ?side1 ?side2 A7.out).mono ?_); (case side1 => repeat (first | exact (Kd.C_below HR210.out HB.out) | (with_reducible refine Kd.C_alloc ?_ _) | (with_reducible refine Kd.C_drewN ?_ _) | (with_reducible refine Kd.C_drew ?_))); (case side2 => exact HC210.out); rintro e w' ⟨rfl, ⟨nd, rfl⟩⟩; (try first | exact ⟨rfl, _, World.drewN_drewN _ _ _⟩ | exact ⟨rfl, _, Eq.trans (World.drewN_drewN _ _ _) (congrArg (World.drewN _) (Nat.add_assoc _ _ _))⟩))))
                    go_roundg k1
                    case measure => have := HK1.out; omega
                    case rel => exact ⟨(x4_1 ++ t205), (wrap64 (x5_1 + 1)), (by first | rfl | (simp; done) | (simp [*]; done)), (by first | rfl | (simp; done) | (simp [*]; done)), H', ⟨by have := HK1.out; omega⟩, ⟨by repeat (first | (with_reducible first | exact HB.out | apply below_alloc | apply pw_below_drewN | apply below_drew1) | exact HB.out)⟩⟩
                  · rw [if_neg c15] at H
                    exact absurd H (by simp)
            · rw [if_neg c8] at H
              have c8b0 : (t206 == 0) = false := beq_eq_false_iff_ne.mpr c8
              have c8b1 : (t206 != 0) = true := bne_iff_ne.mpr c8
              simp only [Option.some.injEq, Prod.mk.injEq] at H
              obtain ⟨rfl, rfl⟩ := H
              have p204 : 0 ≤ (x5_1 : Int) := of_decide_eq_true (by first | (with_reducible assumption) | assumption)
              have q204 : x5_1 < (l0.length : Int) := of_decide_eq_true (by first | (with_reducible assumption) | assumption)
              obtain ⟨ad204, e204, hx204_0, hx204_1⟩ := at_T31 HR0.out x5_1 p204 q204
              cases e204
              replace hx204_0 := (HB.out.cell (World.block_lt_of_cell? w _ hx204_0)).trans hx204_0
              replace hx204_1 := (HB.out.cell (World.block_lt_of_cell? w _ hx204_1)).trans hx204_1
              replace p204 := eq_true p204
              replace q204 := eq_true q204
              go_wp2_with (first | (go_at_call 19; (with_reducible refine (pleacherref09_One.calls ((rd_T31 l0 x5_1).f0) ((rd_T31 l0 x5_1).f1) t205 t206 _ A4.out).mono ?_); rintro e w18 ⟨rfl, hb⟩; have n0_ := Aside0.mk (below_step (by repeat (first | (with_reducible first | exact HB.out | apply below_alloc | apply pw_below_drewN | apply below_drew1) | exact HB.out)) hb); clear HB; have HB := n0_; clear n0_; (try clear hb); (try clear hb2); (try clear hk); (try clear hi); have q19 : (x5_1 : Int) ≤ ((l0.length : Int) : Int) := of_decide_eq_true (by first | (with_reducible assumption) | assumption); obtain ⟨i019, hi019, _, hsz19, _⟩ := info_parts info31; have hroom19 : l0.length ≤ c0 := HC0.out; have hC19 : Kd.C k31 _ (some ad204) l0.length l0 := HR0.out; have hcut19 := cut_to (P := Tryd.prog) 23 31 .i64 Tryd.underlying23 hi019 (some ad204) l0.length c0 x5_1 (of_decide_eq_true (by first | (with_reducible assumption) | assumption)) q19 hroom19; have hr19 := Kd.C_take (m := (x5_1 : Int).toNat) hC19 (by omega); have hy19 : y207.length = (x5_1 : Int).toNat := (by rw [Ny207.out, List.length_take]; omega); rw [← Ny207.out] at hr19; rw [← hy19] at hcut19; have HR210 := Aside0.mk hr19; have HC210 := Aside0.mk (show y207.length ≤ c0 from by omega); clear hr19 hC19 hroom19 hi019 hsz19; have KY19 := Aside0.mk hy19; clear hy19; replace q19 := eq_true q19; have p211 : 0 ≤ (x5_1 : Int) := of_decide_eq_true (by first | (with_reducible assumption) | assumption); have q211 : x5_1 < (l0.length : Int) := of_decide_eq_true (by first | (with_reducible assumption) | assumption); obtain ⟨ad211, e211, hx211_0, hx211_1⟩ := at_T31 HR0.out x5_1 p211 q211; obtain rfl : ad204 = ad211 := (by injection e211); replace hx211_0 := (HB.out.cell (World.block_lt_of_cell? w _ hx211_0)).trans hx211_0; replace hx211_1 := (HB.out.cell (World.block_lt_of_cell? w _ hx211_1)).trans hx211_1; replace p211 := eq_true p211; replace q211 := eq_true q211) | (go_at_call 21; (with_reducible refine (pleacherref09_Find.calls k1 _ _ y207 ((rd_T31 l0 x5_1).f0) t212 t213 _ ?side1 ?side2 A7.out).mono ?_); (case side1 => repeat (first | exact (Kd.C_below HR210.out HB.out) | (with_reducible refine Kd.C_alloc ?_ _) | (with_reducible refine Kd.C_drewN ?_ _) | (with_reducible refine Kd.C_drew ?_))); (case side2 => exact HC210.out); rintro e w' ⟨rfl, ⟨nd, rfl⟩⟩; (try first | exact ⟨rfl, _, World.drewN_drewN _ _ _⟩ | exact ⟨rfl, _, Eq.trans (World.drewN_drewN _ _ _) (congrArg (World.drewN _) (Nat.add_assoc _ _ _))⟩)))
              repeat (go_quiet (first | (go_at_call 19; (with_reducible refine (pleacherref09_One.calls ((rd_T31 l0 x5_1).f0) ((rd_T31 l0 x5_1).f1) t205 t206 _ A4.out).mono ?_); rintro e w18 ⟨rfl, hb⟩; have n0_ := Aside0.mk (below_step (by repeat (first | (with_reducible first | exact HB.out | apply below_alloc | apply pw_below_drewN | apply below_drew1) | exact HB.out)) hb); clear HB; have HB := n0_; clear n0_; (try clear hb); (try clear hb2); (try clear hk); (try clear hi); have q19 : (x5_1 : Int) ≤ ((l0.length : Int) : Int) := of_decide_eq_true (by first | (with_reducible assumption) | assumption); obtain ⟨i019, hi019, _, hsz19, _⟩ := info_parts info31; have hroom19 : l0.length ≤ c0 := HC0.out; have hC19 : Kd.C k31 _ (some ad204) l0.length l0 := HR0.out; have hcut19 := cut_to (P := Tryd.prog) 23 31 .i64 Tryd.underlying23 hi019 (some ad204) l0.length c0 x5_1 (of_decide_eq_true (by first | (with_reducible assumption) | assumption)) q19 hroom19; have hr19 := Kd.C_take (m := (x5_1 : Int).toNat) hC19 (by omega); have hy19 : y207.length = (x5_1 : Int).toNat := (by rw [Ny207.out, List.length_take]; omega); rw [← Ny207.out] at hr19; rw [← hy19] at hcut19; have HR210 := Aside0.mk hr19; have HC210 := Aside0.mk (show y207.length ≤ c0 from by omega); clear hr19 hC19 hroom19 hi019 hsz19; have KY19 := Aside0.mk hy19; clear hy19; replace q19 := eq_true q19; have p211 : 0 ≤ (x5_1 : Int) := of_decide_eq_true (by first | (with_reducible assumption) | assumption); have q211 : x5_1 < (l0.length : Int) := of_decide_eq_true (by first | (with_reducible assumption) | assumption); obtain ⟨ad211, e211, hx211_0, hx211_1⟩ := at_T31 HR0.out x5_1 p211 q211; obtain rfl : ad204 = ad211 := (by injection e211); replace hx211_0 := (HB.out.cell (World.block_lt_of_cell? w _ hx211_0)).trans hx211_0; replace hx211_1 := (HB.out.cell (World.block_lt_of_cell? w _ hx211_1)).trans hx211_1; replace p211 := eq_true p211; replace q211 := eq_true q211) | (go_at_call 21; (with_reducible refine (pleacherref09_Find.calls k1 _ _ y207 ((rd_T31 l0 x5_1).f0) t212 t213 _ ?side1 ?side2 A7.out).mono ?_); (case side1 => repeat (first | exact (Kd.C_below HR210.out HB.out) | (with_reducible refine Kd.C_alloc ?_ _) | (with_reducible refine Kd.C_drewN ?_ _) | (with_reducible refine Kd.C_drew ?_))); (case side2 => exact HC210.out); rintro e w' ⟨rfl, ⟨nd, rfl⟩⟩; (try first | exact ⟨rfl, _, World.drewN_drewN _ _ _⟩ | exact ⟨rfl, _, Eq.trans (World.drewN_drewN _ _ _) (congrArg (World.drewN _) (Nat.add_assoc _ _ _))⟩))); try go_wp2_with (first | (go_at_call 19; (with_reducible refine (pleacherref09_One.calls ((rd_T31 l0 x5_1).f0) ((rd_T31 l0 x5_1).f1) t205 t206 _ A4.out).mono ?_); rintro e w18 ⟨rfl, hb⟩; have n0_ := Aside0.mk (below_step (by repeat (first | (with_reducible first | exact HB.out | apply below_alloc | apply pw_below_drewN | apply below_drew1) | exact HB.out)) hb); clear HB; have HB := n0_; clear n0_; (try clear hb); (try clear hb2); (try clear hk); (try clear hi); have q19 : (x5_1 : Int) ≤ ((l0.length : Int) : Int) := of_decide_eq_true (by first | (with_reducible assumption) | assumption); obtain ⟨i019, hi019, _, hsz19, _⟩ := info_parts info31; have hroom19 : l0.length ≤ c0 := HC0.out; have hC19 : Kd.C k31 _ (some ad204) l0.length l0 := HR0.out; have hcut19 := cut_to (P := Tryd.prog) 23 31 .i64 Tryd.underlying23 hi019 (some ad204) l0.length c0 x5_1 (of_decide_eq_true (by first | (with_reducible assumption) | assumption)) q19 hroom19; have hr19 := Kd.C_take (m := (x5_1 : Int).toNat) hC19 (by omega); have hy19 : y207.length = (x5_1 : Int).toNat := (by rw [Ny207.out, List.length_take]; omega); rw [← Ny207.out] at hr19; rw [← hy19] at hcut19; have HR210 := Aside0.mk hr19; have HC210 := Aside0.mk (show y207.length ≤ c0 from by omega); clear hr19 hC19 hroom19 hi019 hsz19; have KY19 := Aside0.mk hy19; clear hy19; replace q19 := eq_true q19; have p211 : 0 ≤ (x5_1 : Int) := of_decide_eq_true (by first | (with_reducible assumption) | assumption); have q211 : x5_1 < (l0.length : Int) := of_decide_eq_true (by first | (with_reducible assumption) | assumption); obtain ⟨ad211, e211, hx211_0, hx211_1⟩ := at_T31 HR0.out x5_1 p211 q211; obtain rfl : ad204 = ad211 := (by injection e211); replace hx211_0 := (HB.out.cell (World.block_lt_of_cell? w _ hx211_0)).trans hx211_0; replace hx211_1 := (HB.out.cell (World.block_lt_of_cell? w _ hx211_1)).trans hx211_1; replace p211 := eq_true p211; replace q211 := eq_true q211) | (go_at_call 21; (with_reducible refine (pleacherref09_Find.calls k1 _ _ y207 ((rd_T31 l0 x5_1).f0) t212 t213 _ ?side1 ?side2 A7.out).mono ?_); (case side1 => repeat (first | exact (Kd.C_below HR210.out HB.out) | (with_reducible refine Kd.C_alloc ?_ _) | (with_reducible refine Kd.C_drewN ?_ _) | (with_reducible refine Kd.C_drew ?_))); (case side2 => exact HC210.out); rintro e w' ⟨rfl, ⟨nd, rfl⟩⟩; (try first | exact ⟨rfl, _, World.drewN_drewN _ _ _⟩ | exact ⟨rfl, _, Eq.trans (World.drewN_drewN _ _ _) (congrArg (World.drewN _) (Nat.add_assoc _ _ _))⟩))))
              go_ret2
              exact ⟨by first | rfl | (simp [errW_none, errW_some] <;> rfl) | (simp [*, errW_none, errW_some] <;> rfl), by repeat (first | (with_reducible first | exact HB.out | apply below_alloc | apply pw_below_drewN | apply below_drew1) | exact HB.out)⟩
          · rw [if_neg c6] at H
            exact absurd H (by simp)
        · rw [if_neg c3] at H
          exact absurd H (by simp)
      · rw [if_neg c2] at H
        have c2b0 : decide (x5_1 < (l0.length : Int)) = false := decide_eq_false c2
        clear c2
        simp only [Option.some.injEq, Prod.mk.injEq] at H
        obtain ⟨rfl, rfl⟩ := H
        go_wp2
        repeat (go_quiet (fail); try go_wp2)
        go_ret2
        exact ⟨by first | rfl | (simp [errW_none, errW_some] <;> rfl) | (simp [*, errW_none, errW_some] <;> rfl), by repeat (first | (with_reducible first | exact HB.out | apply below_alloc | apply pw_below_drewN | apply below_drew1) | exact HB.out)⟩

end Go.Proofs.YtbcjhmeeonhmaaaDoor.M
end

-- Laid by a program of this session for this claim.
section
namespace Go.Proofs.YtbcjhmeeonhmaaaDoor.M
open Go.RowKit Go.Proofs.YtbcjhmeeonhmaaaDoorW.PrintWords Go.Proofs.YtbcjhmeeonhmaaaDoorW.PrintLast Go.Proofs.YtbcjhmeeonhmaaaDoorW.PrintMore
attribute [local go_sem] max2_int min2_int max_two min_two max_three min_three max_four min_four   -- for this text's walks alone
set_option linter.unusedVariables false
set_option linter.unusedSimpArgs false

/-! ### pax_Find: function 20 -/
def pax_Find.l0 : Nat → ByteArray → List (S31) → Int → Int → Option (ByteArray × Bool)
  | 0, _, _, _, _ => none
  | k + 1, x1, x8, x9, x10 => if x10 < x9 then (if 0 ≤ x10 then (if x10 < (x8.length : Int) then (if ((rd_T31 x8 x10).f0).toList = x1.toList then (some ((rd_T31 x8 x10).f1, true)) else (pax_Find.l0 k x1 x8 x9 (wrap64 (x10 + 1)))) else (none)) else (none)) else (some ((⟨#[]⟩ : ByteArray), false))
def pax_Find.f (k : Nat) (l0 : List (S31)) (a1 : ByteArray) : Option (ByteArray × Bool) := pax_Find.l0 k a1 l0 (l0.length : Int) 0
set_option maxHeartbeats 8000000 in
set_option maxRecDepth 100000 in
theorem pax_Find.calls (k : Nat) (A0 : Option Addr) (c0 : Nat) (l0 : List (S31)) (a1 : ByteArray) (r1 : ByteArray) (r2 : Bool) (w : World) (hr0 : Kd.C k31 w A0 l0.length l0) (hc0 : l0.length ≤ c0) (h : pax_Find.f k l0 a1 = some (r1, r2)) :
    Calls Tryd.prog 20 #[.slice A0 l0.length c0, .string a1] w fun e w' => e = .returned (.tuple #[.string r1, .bool r2]) ∧ Below w.heap.size w w' := by
  have hu31 := Tryd.underlying31
  have HR0 := Aside0.mk hr0
  have HC0 := Aside0.mk hc0
  clear hr0 hc0
  have HB := Aside0.mk (Below.refl w.heap.size w)
  have H : (pax_Find.l0 k a1 l0 (l0.length : Int) 0) = some (r1, r2) := h
  clear h
  have H' := Aside0.mk H
  clear H
  go_enter Tryd.func20, Tryd.ntmps20
  go_wp2
  go_loopg [10] k (fun kq v10 w' => ∃ (x10_1 : Int), v10 = .int .i64 x10_1 ∧ Aside0 (pax_Find.l0 kq a1 l0 (l0.length : Int) x10_1 = some (r1, r2)) ∧ Aside0 (kq ≤ k) ∧ Aside0 (Below w.heap.size w w'))
  case atStart => exact ⟨(0), (by first | rfl | (simp; done) | (simp [*]; done)), H', ⟨Nat.le_refl _⟩, ⟨by repeat (first | (with_reducible first | exact HB.out | apply below_alloc | apply pw_below_drewN | apply below_drew1) | exact HB.out)⟩⟩
  case round =>
    clear H'
    try clear c2
    try clear p2
    obtain ⟨x10_1, rfl, HA, HK1, HB⟩ := hrel
    cases gk with
    | zero => exact absurd HA.out (by simp [pax_Find.l0])
    | succ k1 =>
      have H := HA.out
      clear HA
      simp only [pax_Find.l0] at H
      by_cases c3 : x10_1 < (l0.length : Int)
      · rw [if_pos c3] at H
        have c3b0 : decide (x10_1 < (l0.length : Int)) = true := decide_eq_true c3
        clear c3
        by_cases c4 : 0 ≤ x10_1
        · rw [if_pos c4] at H
          have c4b0 : decide (0 ≤ x10_1) = true := decide_eq_true c4
          clear c4
          by_cases c5 : x10_1 < (l0.length : Int)
          · rw [if_pos c5] at H
            have c5b0 : decide (x10_1 < (l0.length : Int)) = true := decide_eq_true c5
            clear c5
            by_cases c6 : ((rd_T31 l0 x10_1).f0).toList = a1.toList
            · rw [if_pos c6] at H
              have c6b0 : (((rd_T31 l0 x10_1).f0).toList == a1.toList) = true := beq_iff_eq.mpr c6
              have c6b1 : (((rd_T31 l0 x10_1).f0).toList != a1.toList) = false := bne_eq_false_iff_eq.mpr c6
              clear c6
              simp only [Option.some.injEq, Prod.mk.injEq] at H
              obtain ⟨rfl, rfl⟩ := H
              have p214 : 0 ≤ (x10_1 : Int) := of_decide_eq_true (by first | (with_reducible assumption) | assumption)
              have q214 : x10_1 < (l0.length : Int) := of_decide_eq_true (by first | (with_reducible assumption) | assumption)
              obtain ⟨ad214, e214, hx214_0, hx214_1⟩ := at_T31 HR0.out x10_1 p214 q214
              cases e214
              replace hx214_0 := (HB.out.cell (World.block_lt_of_cell? w _ hx214_0)).trans hx214_0
              replace hx214_1 := (HB.out.cell (World.block_lt_of_cell? w _ hx214_1)).trans hx214_1
              replace p214 := eq_true p214
              replace q214 := eq_true q214
              go_wp2_with (first | ((with_reducible refine gate_dst (N := 7) rfl ?_); refine box_event ?hg (N := 7) ?hd (cs := #[.string (⟨#[]⟩ : ByteArray), .string (⟨#[]⟩ : ByteArray)]) (t := 31) ?hr ?_; (case hd => rfl); (case hg => rfl); (case hr => first | (go_simp; done) | (go_simp; rfl)); intro gb215 hg w7 hbox hb; have n0_ := Aside0.mk (below_step (by repeat (first | (with_reducible first | exact HB.out | apply below_alloc | apply pw_below_drewN | apply below_drew1) | exact HB.out)) hb); have n1_ := Aside0.mk (hbox); have n2_ := Aside0.mk ((by rw [hg]; exact (below_size (by repeat (first | (with_reducible first | exact HB.out | apply below_alloc | apply pw_below_drewN | apply below_drew1) | exact HB.out))) : w.heap.size ≤ gb215)); have n3_ := Aside0.mk ((by rw [hg]; exact (below_size (by repeat (first | (with_reducible first | exact HB.out | apply below_alloc | apply pw_below_drewN | apply below_drew1) | exact HB.out))) : w.heap.size ≤ gb215)); clear HB; have HB := n0_; have BK215 := n1_; have GW215 := n2_; have GE215 := n3_; clear n0_ n1_ n2_ n3_; clear hb hbox hg; have hcz8_0 : w7.cell? ⟨gb215, 0, none⟩ = some (.string (⟨#[]⟩ : ByteArray)) := (blk_cell BK215.out 0).trans rfl; have hcz8_1 : w7.cell? ⟨gb215, 1, none⟩ = some (.string (⟨#[]⟩ : ByteArray)) := (blk_cell BK215.out 1).trans rfl; have hfz8_0 := blk_frozen BK215.out 0; have hfz8_1 := blk_frozen BK215.out 1))
              go_ret2
              exact ⟨by first | rfl | (simp [errW_none, errW_some] <;> rfl) | (simp [*, errW_none, errW_some] <;> rfl), by repeat (first | (with_reducible first | exact HB.out | apply below_alloc | apply pw_below_drewN | apply below_drew1 | refine below_set ?_ GE215.out) | exact HB.out)⟩
            · rw [if_neg c6] at H
              have c6b0 : (((rd_T31 l0 x10_1).f0).toList == a1.toList) = false := beq_eq_false_iff_ne.mpr c6
              have c6b1 : (((rd_T31 l0 x10_1).f0).toList != a1.toList) = true := bne_iff_ne.mpr c6
              have H' := Aside0.mk H
              clear H
              have p214 : 0 ≤ (x10_1 : Int) := of_decide_eq_true (by first | (with_reducible assumption) | assumption)
              have q214 : x10_1 < (l0.length : Int) := of_decide_eq_true (by first | (with_reducible assumption) | assumption)
              obtain ⟨ad214, e214, hx214_0, hx214_1⟩ := at_T31 HR0.out x10_1 p214 q214
              cases e214
              replace hx214_0 := (HB.out.cell (World.block_lt_of_cell? w _ hx214_0)).trans hx214_0
              replace hx214_1 := (HB.out.cell (World.block_lt_of_cell? w _ hx214_1)).trans hx214_1
              replace p214 := eq_true p214
              replace q214 := eq_true q214
              go_wp2_with (first | ((with_reducible refine gate_dst (N := 7) rfl ?_); refine box_event ?hg (N := 7) ?hd (cs := #[.string (⟨#[]⟩ : ByteArray), .string (⟨#[]⟩ : ByteArray)]) (t := 31) ?hr ?_; (case hd => rfl); (case hg => rfl); (case hr => first | (go_simp; done) | (go_simp; rfl)); intro gb215 hg w9 hbox hb; have n0_ := Aside0.mk (below_step (by repeat (first | (with_reducible first | exact HB.out | apply below_alloc | apply pw_below_drewN | apply below_drew1) | exact HB.out)) hb); have n1_ := Aside0.mk (hbox); have n2_ := Aside0.mk ((by rw [hg]; exact (below_size (by repeat (first | (with_reducible first | exact HB.out | apply below_alloc | apply pw_below_drewN | apply below_drew1) | exact HB.out))) : w.heap.size ≤ gb215)); have n3_ := Aside0.mk ((by rw [hg]; exact (below_size (by repeat (first | (with_reducible first | exact HB.out | apply below_alloc | apply pw_below_drewN | apply below_drew1) | exact HB.out))) : w.heap.size ≤ gb215)); clear HB; have HB := n0_; have BK215 := n1_; have GW215 := n2_; have GE215 := n3_; clear n0_ n1_ n2_ n3_; clear hb hbox hg; have hcz10_0 : w9.cell? ⟨gb215, 0, none⟩ = some (.string (⟨#[]⟩ : ByteArray)) := (blk_cell BK215.out 0).trans rfl; have hcz10_1 : w9.cell? ⟨gb215, 1, none⟩ = some (.string (⟨#[]⟩ : ByteArray)) := (blk_cell BK215.out 1).trans rfl; have hfz10_0 := blk_frozen BK215.out 0; have hfz10_1 := blk_frozen BK215.out 1))
              go_roundg k1
              case measure => have := HK1.out; omega
              case rel => exact ⟨(wrap64 (x10_1 + 1)), (by first | rfl | (simp; done) | (simp [*]; done)), H', ⟨by have := HK1.out; omega⟩, ⟨by repeat (first | (with_reducible first | exact HB.out | apply below_alloc | apply pw_below_drewN | apply below_drew1 | refine below_set ?_ GE215.out) | exact HB.out)⟩⟩
          · rw [if_neg c5] at H
            exact absurd H (by simp)
        · rw [if_neg c4] at H
          exact absurd H (by simp)
      · rw [if_neg c3] at H
        have c3b0 : decide (x10_1 < (l0.length : Int)) = false := decide_eq_false c3
        clear c3
        simp only [Option.some.injEq, Prod.mk.injEq] at H
        obtain ⟨rfl, rfl⟩ := H
        go_wp2
        go_ret2
        exact ⟨by first | rfl | (simp [errW_none, errW_some] <;> rfl) | (simp [*, errW_none, errW_some] <;> rfl), by repeat (first | (with_reducible first | exact HB.out | apply below_alloc | apply pw_below_drewN | apply below_drew1) | exact HB.out)⟩

end Go.Proofs.YtbcjhmeeonhmaaaDoor.M
end

-- Laid by a program of this session for this claim.
section
namespace Go.Proofs.YtbcjhmeeonhmaaaDoor.M
open Go.RowKit Go.Proofs.YtbcjhmeeonhmaaaDoorW.PrintWords Go.Proofs.YtbcjhmeeonhmaaaDoorW.PrintLast Go.Proofs.YtbcjhmeeonhmaaaDoorW.PrintMore
attribute [local go_sem] max2_int min2_int max_two min_two max_three min_three max_four min_four   -- for this text's walks alone
set_option linter.unusedVariables false
set_option linter.unusedSimpArgs false

/-! ### pax_Put: function 17 -/
-- IMPORT Derived.Test.YtbcjhmeeonhmaaaDoorHPaxPut
def pax_Put.f (l0 : List S31) : Option (ByteArray × Int) := if l0.length ≤ 1073741824 then some (H.putsS l0) else none
theorem pax_Put.calls (A0 : Option Addr) (c0 : Nat) (l0 : List S31) (r1 : ByteArray) (r2 : Int) (w : World) (hr0 : Kd.C k31 w A0 l0.length l0) (hc0 : l0.length ≤ c0) (h : pax_Put.f l0 = some (r1, r2)) :
    Calls Tryd.prog 17 #[.slice A0 l0.length c0] w fun e w' => e = .returned (.tuple #[.string r1, .int .i64 r2]) ∧ Below w.heap.size w w' := by
  unfold pax_Put.f at h
  by_cases hh : l0.length ≤ 1073741824
  · rw [if_pos hh] at h
    have := H.paxPut A0 c0 l0 w hr0 hc0 hh
    rw [Option.some.inj h] at this
    exact this
  · rw [if_neg hh] at h; cases h

end Go.Proofs.YtbcjhmeeonhmaaaDoor.M
end

/-
Lists of records: what the law's helpers, pax.Find and the document's Find and Put say.
-/
section
set_option linter.unusedVariables false
set_option maxRecDepth 100000
namespace Go.Proofs.YtbcjhmeeonhmaaaDoor.H
open Go Go.RowKit Go.Proofs.YtbcjhmeeonhmaaaDoorW.PrintWords Go.Proofs.YtbcjhmeeonhmaaaDoorW.PrintMore Go.Proofs.YtbcjhmeeonhmaaaDoor.M

abbrev At := S31
theorem rd_at (l : List At) (i : Nat) (h : i < l.length) : rd_T31 l (i : Int) = l[i] := by
  unfold rd_T31
  rw [Int.toNat_natCast, List.getD_eq_getElem?_getD, List.getElem?_eq_getElem h]; rfl
theorem mn_le (x : Int) (k : Int) : mn x k ≤ k ∧ mn x k ≤ x ∧ (mn x k = x ∨ mn x k = k) := by unfold mn; split <;> omega
/-- A record, cut. -/
def cutA (x : At) : At := ⟨x.f0.extract 0 (min x.f0.size 410), x.f1.extract 0 (min x.f1.size 410)⟩
theorem one_f (x : At) : pleacherlaw09_one.f x.f0 x.f1 = some ((cutA x).f0, (cutA x).f1) := by
  unfold pleacherlaw09_one.f cutA
  have h0 := mn_le (x.f0.size : Int) 410
  have h1 := mn_le (x.f1.size : Int) 410
  rw [if_pos (by omega), if_pos (by omega), if_pos (by omega), if_pos (by omega)]
  have e0 : (mn (x.f0.size : Int) 410).toNat = min x.f0.size 410 := by omega
  have e1 : (mn (x.f1.size : Int) 410).toNat = min x.f1.size 410 := by omega
  rw [e0, e1]
def few (l : List At) : List At := (l.take 32).map cutA
theorem few_len (l : List At) : (few l).length ≤ 32 := by unfold few; rw [List.length_map, List.length_take]; omega
theorem few_small (l : List At) : ∀ x ∈ few l, x.f0.size ≤ 410 ∧ x.f1.size ≤ 410 := by
  intro x hx
  unfold few at hx
  obtain ⟨y, _, rfl⟩ := List.mem_map.1 hx
  unfold cutA
  simp only [ByteArray.size_extract]
  omega
theorem few_l (l : List At) : ∀ (k i : Nat), i ≤ 32 → i ≤ l.length → 32 - i ≤ k → pleacherlaw09_Few.l0 (k + 1) l ((l.take i).map cutA) i = some (few l) := by
  intro k
  induction k with
  | zero =>
    intro i h1 h2 h3
    obtain rfl : i = 32 := by omega
    rw [pleacherlaw09_Few.l0]
    by_cases h : (32 : Int) < (l.length : Int)
    · rw [if_pos (by omega), if_neg (by omega)]; rfl
    · rw [if_neg (by omega)]; rfl
  | succ k ih =>
    intro i h1 h2 h3
    by_cases h : i < l.length
    · by_cases h32 : i < 32
      · rw [pleacherlaw09_Few.l0, if_pos (by omega), if_pos (by omega), if_pos (by omega), rd_at l i h, one_f, Option.bind_some]
        simp only []
        rw [if_pos (by rw [List.length_map, List.length_take]; omega), w64 (by omega) (by omega), show (i : Int) + 1 = ((i + 1 : Nat) : Int) from by omega]
        have e : (l.take i).map cutA ++ [(⟨(cutA l[i]).f0, (cutA l[i]).f1⟩ : At)] = (l.take (i + 1)).map cutA := by
          rw [List.take_add_one, List.getElem?_eq_getElem h, List.map_append]; rfl
        rw [e]
        exact ih (i + 1) (by omega) (by omega) (by omega)
      · obtain rfl : i = 32 := by omega
        rw [pleacherlaw09_Few.l0, if_pos (by omega), if_neg (by omega)]; rfl
    · rw [pleacherlaw09_Few.l0, if_neg (by omega)]
      unfold few
      rw [List.take_of_length_le (by omega), List.take_of_length_le (by omega)]
theorem few_f (l : List At) (k : Nat) (hk : 40 ≤ k) : pleacherlaw09_Few.f k l = some (few l) := by
  obtain ⟨j, rfl⟩ : ∃ j, k = j + 1 := ⟨k - 1, by omega⟩
  exact few_l l j 0 (by omega) (by omega) (by omega)

/-- A name's value. -/
def findS : List At → ByteArray → ByteArray × Bool
  | [], _ => (⟨#[]⟩, false)
  | x :: t, n => if x.f0 = n then (x.f1, true) else findS t n
theorem find_l (l : List At) (n : ByteArray) (hl : l.length ≤ 1073741824) : ∀ (k i m : Nat), i + m = l.length → m ≤ k → pax_Find.l0 (k + 1) n l l.length i = some (findS (l.drop i) n) := by
  intro k
  induction k with
  | zero =>
    intro i m h1 h2
    rw [pax_Find.l0, if_neg (by omega), List.drop_of_length_le (by omega)]; rfl
  | succ k ih =>
    intro i m h1 h2
    by_cases h : i < l.length
    · rw [pax_Find.l0, if_pos (by omega), if_pos (by omega), if_pos (by omega), rd_at l i h, List.drop_eq_getElem_cons h, findS]
      by_cases hn : l[i].f0 = n
      · rw [if_pos (toList_inj.2 hn), if_pos hn]
      · rw [if_neg (fun e => hn (toList_inj.1 e)), if_neg hn, w64 (by omega) (by omega), show (i : Int) + 1 = ((i + 1 : Nat) : Int) from by omega]
        exact ih (i + 1) (m - 1) (by omega) (by omega)
    · rw [pax_Find.l0, if_neg (by omega), List.drop_of_length_le (by omega)]; rfl
theorem find_f (l : List At) (n : ByteArray) (hl : l.length ≤ 1073741824) (k : Nat) (hk : l.length + 1 ≤ k) : pax_Find.f k l n = some (findS l n) := by
  obtain ⟨j, rfl⟩ : ∃ j, k = j + 1 := ⟨k - 1, by omega⟩
  have := find_l l n hl j 0 l.length (by omega) (by omega)
  rw [List.drop_zero] at this
  exact this
theorem rfind_l (l : List At) (n : ByteArray) (hl : l.length ≤ 1073741824) : ∀ (k i m : Nat), i + m = l.length → m ≤ k → pleacherref09_Find.l0 (k + 1) l n i = some (findS (l.drop i) n) := by
  intro k
  induction k with
  | zero =>
    intro i m h1 h2
    rw [pleacherref09_Find.l0, if_neg (by omega), List.drop_of_length_le (by omega)]; rfl
  | succ k ih =>
    intro i m h1 h2
    by_cases h : i < l.length
    · rw [pleacherref09_Find.l0, if_pos (by omega), if_pos (by omega), rd_at l i h, List.drop_eq_getElem_cons h, findS]
      by_cases hn : l[i].f0 = n
      · rw [if_pos (toList_inj.2 hn), if_pos hn]
      · rw [if_neg (fun e => hn (toList_inj.1 e)), if_neg hn, w64 (by omega) (by omega), show (i : Int) + 1 = ((i + 1 : Nat) : Int) from by omega]
        exact ih (i + 1) (m - 1) (by omega) (by omega)
    · rw [pleacherref09_Find.l0, if_neg (by omega), List.drop_of_length_le (by omega)]; rfl
theorem rfind_f (l : List At) (n : ByteArray) (hl : l.length ≤ 1073741824) (k : Nat) (hk : l.length + 1 ≤ k) : pleacherref09_Find.f k l n = some (findS l n) := by
  obtain ⟨j, rfl⟩ : ∃ j, k = j + 1 := ⟨k - 1, by omega⟩
  have := rfind_l l n hl j 0 l.length (by omega) (by omega)
  rw [List.drop_zero] at this
  exact this
theorem findS_iff (l : List At) (n : ByteArray) : (findS l n).2 = true ↔ n ∈ l.map (·.f0) := by
  induction l with
  | nil => simp [findS]
  | cons x t ih =>
    unfold findS
    by_cases h : x.f0 = n
    · rw [if_pos h]; simp [h]
    · rw [if_neg h, ih]; simp; intro e; exact absurd e.symm h

/-! Put -/
theorem putR_long : ∀ (l : List At) (ns : List ByteArray) (acc : ByteArray), 30 < ns.length + l.length → l ≠ [] → putR ns acc l = (⟨#[]⟩, 90)
  | [], _, _, _, h => absurd rfl h
  | x :: t, ns, acc, h, _ => by
    rw [putR_step]
    by_cases h1 : (oneS x.f0 x.f1).2 = 0
    · rw [if_pos h1]
      by_cases h2 : (decide (ns.length + 1 ≤ 30) && decide (x.f0 ∉ ns)) = true
      · rw [if_pos h2]
        have h3 : ns.length + 1 ≤ 30 := by rw [Bool.and_eq_true] at h2; simpa using h2.1
        refine putR_long t _ _ (by simp at h ⊢; omega) ?_
        rintro rfl
        simp at h
        omega
      · rw [if_neg h2]
    · rw [if_neg h1]
theorem rput_l (l : List At) (hl : l.length ≤ 1000) (hs : ∀ x ∈ l, x.f0.size ≤ 1000 ∧ x.f1.size ≤ 1000) : ∀ (k i m : Nat) (acc : ByteArray), i + m = l.length → m ≤ k → acc.size ≤ 810 * i → (l.length ≤ 30 ∨ i = 0) →
    pleacherref09_Put.l0 (k + 1 + l.length) l acc i = some (putR ((l.take i).map (·.f0)) acc (l.drop i)) := by
  intro k
  induction k with
  | zero =>
    intro i m acc h1 h2 _ _
    rw [show 0 + 1 + l.length = l.length + 1 from by omega, pleacherref09_Put.l0, if_neg (by omega), List.drop_of_length_le (by omega)]; rfl
  | succ k ih =>
    intro i m acc h1 h2 ha h30
    by_cases h : i < l.length
    · have hx := hs l[i] (List.getElem_mem _)
      rw [show k + 1 + 1 + l.length = (k + 1 + l.length) + 1 from by omega, pleacherref09_Put.l0, if_pos (by omega), if_pos (by omega), rd_at l i h]
      unfold pleacherref09_One.f
      rw [if_pos ⟨by omega, by omega⟩, Option.bind_some, if_pos (by omega), Int.toNat_natCast, rfind_f _ _ (by rw [List.length_take]; omega) _ (by rw [List.length_take]; omega), Option.bind_some, List.drop_eq_getElem_cons h, putR_step]
      by_cases h0 : (oneS l[i].f0 l[i].f1).2 = 0
      · rw [if_pos h0, if_pos h0]
        have hlen : ((l.take i).map (·.f0)).length = i := by rw [List.length_map, List.length_take]; omega
        by_cases htw : (findS (l.take i) l[i].f0).2 = true
        · have := (findS_iff _ _).1 htw
          rw [if_pos htw, if_neg (by rw [Bool.and_eq_true, decide_eq_true_iff, decide_eq_true_iff]; exact fun e => e.2 this)]
        · have hni : l[i].f0 ∉ (l.take i).map (·.f0) := fun e => htw ((findS_iff _ _).2 e)
          rw [if_neg htw]
          by_cases hlong : 30 < l.length
          · obtain rfl : i = 0 := by omega
            rw [if_pos (by omega)]
            have hp : putR [] acc (l.drop 0) = (⟨#[]⟩, 90) := putR_long _ _ _ (by simp; omega) (by rw [List.drop_zero]; rintro rfl; simp at h)
            rw [List.drop_eq_getElem_cons h, putR_step, if_pos h0] at hp
            rw [← hp]; rfl
          · have hc := oneS_cases l[i].f0 l[i].f1
            have hz : (oneS l[i].f0 l[i].f1).1.size ≤ 810 := by
              rcases hc with hc | hc
              · exact hc.2
              · rw [hc] at h0; cases h0
            rw [if_neg (by omega), if_pos (by omega), w64 (by omega) (by omega), show (i : Int) + 1 = ((i + 1 : Nat) : Int) from by omega,
              ih (i + 1) (m - 1) _ (by omega) (by omega) (by simp only [ByteArray.size_append]; omega) (by omega)]
            have e : (l.take i).map (·.f0) ++ [l[i].f0] = (l.take (i + 1)).map (·.f0) := by
              rw [List.take_add_one, List.getElem?_eq_getElem h, List.map_append]; rfl
            rw [e, if_pos (by rw [Bool.and_eq_true, decide_eq_true_iff, decide_eq_true_iff]; exact ⟨by omega, hni⟩)]
      · rw [if_neg h0, if_neg h0]
    · rw [show k + 1 + 1 + l.length = (k + 1 + l.length) + 1 from by omega, pleacherref09_Put.l0, if_neg (by omega), List.drop_of_length_le (by omega)]; rfl
theorem rput_f (l : List At) (hl : l.length ≤ 1000) (hs : ∀ x ∈ l, x.f0.size ≤ 1000 ∧ x.f1.size ≤ 1000) (k : Nat) (hk : 2001 ≤ k) : pleacherref09_Put.f k l = some (putsS l) := by
  obtain ⟨j, rfl⟩ : ∃ j, k = j + 1 + l.length := ⟨k - 1 - l.length, by omega⟩
  have := rput_l l hl hs j 0 l.length ⟨#[]⟩ (by omega) (by omega) (by decide) (.inr rfl)
  rw [List.drop_zero] at this
  exact this
theorem put_f (l : List At) (hl : l.length ≤ 1073741824) : pax_Put.f l = some (putsS l) := by unfold pax_Put.f; rw [if_pos hl]
end Go.Proofs.YtbcjhmeeonhmaaaDoor.H
end

/-
What the rows of this seat share: what 'laid' gives a walk, the witness' world, arguments opened.
-/
section
set_option linter.unusedVariables false
set_option maxRecDepth 100000
namespace Go.Proofs.YtbcjhmeeonhmaaaDoor.H
open Go Go.ChangeShapes Go.WideShapes Go.ChangeAt Go.RowKit Go.Proofs.YtbcjhmeeonhmaaaDoorW.PrintWords Go.Proofs.YtbcjhmeeonhmaaaDoorW.PrintMore Go.Proofs.YtbcjhmeeonhmaaaDoor.M

theorem own : ownKnob Tryd.prog.godebug = none := by kernel_rfl
theorem gType : Tryd.prog.globalNamed "errors.errorType" = some 0 := by kernel_rfl
theorem gBase : Tryd.prog.globalNamed "pleacher/num.errBase" = some 1 := by kernel_rfl
theorem gNum : Tryd.prog.globalNamed "pleacher/num.errNum" = some 2 := by kernel_rfl
theorem gBaseT : (Tryd.prog.globals[1]?).map (·.type) = some 45 := by kernel_rfl
theorem gNumT : (Tryd.prog.globals[2]?).map (·.type) = some 45 := by kernel_rfl
theorem rtT : (Tryd.prog.cutTypes.find? (·.1 == "internal/reflectlite.rtype")).map (·.2) = some 124 := by kernel_rfl
theorem sizeT : Tryd.prog.types.size = 211 := by kernel_rfl
theorem oneErr : ((List.range 211).filter fun t => Tryd.prog.rowNamed t [101, 114, 114, 111, 114]) = [45] := by kernel_rfl
theorem laidTwo {W : World} (h : laidMetH Tryd.prog Rows.paxPutsRow.laid W) : laidMet Tryd.prog [("pleacher/num.errBase", Rows.laid_pleacher_num_errBase), ("pleacher/num.errNum", Rows.laid_pleacher_num_errNum)] W ∧ handlesMet Tryd.prog [("errors.errorType", Rows.laid_errors_errorType)] W := h

theorem cellsE : Tryd.prog.cellsOf 199 = 1 := by kernel_rfl
theorem cellsS : Tryd.prog.cellsOf 9 = 1 := by kernel_rfl
theorem starE : "*" ++ "errors.errorString" = "*errors.errorString" := by decide
theorem rowE (u : TypeId) (h : Tryd.prog.typeName? 3 u = some "*errors.errorString") : u = 179 :=
  typeName_ptr_named (nm := "errors.errorString") (by rw [starE]; kernel_rfl) (by kernel_rfl) (by decide) u (by rw [starE]; exact h)
/-- WHAT 'laid' GIVES: the two sentinels, and the type's handle. -/
theorem gw_of_laid {W : World} (h : laidMetH Tryd.prog Rows.paxPutsRow.laid W) : GW W := by
  obtain ⟨h1, h2⟩ := laidTwo h
  obtain ⟨a0, a1, s0, s1, c0, c1, t0, t1, v0, v1, _, _, _, _, _, _, hne, b0, b1⟩ := Go.laid_sentinels2 h1 gBase gBaseT gNum gNumT Tryd.underlying45 rowE Tryd.underlying179 Tryd.underlying199 rfl rfl Tryd.underlying9 cellsE cellsS
  obtain ⟨name, u, ty, e1, e2, e3, e4, e5⟩ := h2 _ (List.mem_singleton.2 rfl)
  have en : name = [101, 114, 114, 111, 114] := (Option.some.inj e1).symm
  subst en
  obtain rfl := Option.some.inj (rtT.symm.trans e2)
  have hm : ty ∈ (List.range 211).filter fun t => Tryd.prog.rowNamed t [101, 114, 114, 111, 114] := List.mem_filter.2 ⟨List.mem_range.2 (by rw [← sizeT]; exact e3), e4⟩
  rw [oneErr] at hm
  obtain rfl := List.mem_singleton.1 hm
  have hh : typeHandle Tryd.prog 45 = .pointer (some ⟨4, 45, none⟩) := by kernel_rfl
  rw [hh] at e5
  exact ⟨a0, a1, c0, c1, t0, t1, by simpa using World.var?_cell gBase v0 0, by simpa using World.var?_cell gNum v1 0, hne, b0, b1, by simpa using World.var?_cell gType e5 0⟩
/-- A WORLD FOR THE WITNESS: as the program's own start lays the three. -/
theorem door_met (os : Os) (args : Array Value) : laidMetH Tryd.prog Rows.paxPutsRow.laid ((World.doorLaid Tryd.prog 54 os).forCall (fun _ _ => 0) ⟨#[], args, []⟩).memory :=
  laidMetH_of_parts (laidMet_of_run' 8 (by kernel_rfl) (by kernel_rfl)) (by kernel_rfl)

theorem cellsA31 : Tryd.prog.cellsOf 31 = 2 := by kernel_rfl
theorem laidOutA : laidOutB Tryd.prog = true := by kernel_rfl
instance : Inhabited At := ⟨z31⟩
/-- AN ARGUMENT OF RECORDS: what a walk reads. -/
theorem open_attrs {H : Type} {enc : TypeId × Value → H} {w : World} {v : Value} {d : DataW H} {ps : List MemPlace} {b0 : Nat} {r : Reach} (hv : Value.okWide Tryd.prog w r b0 23 v) (h : DataW.Trod enc Tryd.prog w 0 (fun _ => true) true 23 v d ps) :
    ∃ (A : Option Addr) (c : Nat) (l : List At), v = .slice A l.length c ∧ l.length ≤ c ∧ Kd.C k31 w A l.length l := by
  obtain ⟨a, len, cap, rfl⟩ := okWide_slice Tryd.underlying23 hv
  obtain ⟨n, hn⟩ := h
  rcases Go.Deep.open_slice_pairs Tryd.underlying23 Tryd.underlying31 cellsA31 rfl rfl cellsS cellsS hn with ⟨hc, hx⟩ | ⟨a', len', cap', m, k, V0, V1, D0, D1, P0, P1, hc, _, hl, hm, hmm, hx, hall⟩
  · injection hc with hc _
    injection hc with h1 h2 h3
    subst h1 h2 h3
    exact ⟨none, 0, [], rfl, Nat.le_refl _, rfl, by decide, fun h => by cases h⟩
  · injection hc with hc _
    injection hc with h1 h2 h3
    subst h1 h2 h3
    have hlm : len ≤ m := by rw [hmm]; split <;> omega
    have each : ∀ i, i < len → ∃ q : At, w.cell? (a'.add (i * 2)) = some (.string q.f0) ∧ w.cell? (a'.add (i * 2 + 1)) = some (.string q.f1) := by
      intro i hi
      obtain ⟨g0, g1, t0, t1⟩ := hall i (by omega)
      obtain ⟨s0, e0, _⟩ := DataW.trod_string Tryd.underlying9 t0
      obtain ⟨s1, e1, _⟩ := DataW.trod_string Tryd.underlying9 t1
      injection e0 with e0 _
      injection e1 with e1 _
      exact ⟨⟨s0, s1⟩, by rw [g0, e0], by rw [g1, e1]⟩
    obtain ⟨q, hq⟩ := Go.Deep.choose_lt each
    have hlen : ((List.range len).map q).length = len := by simp
    refine ⟨some a', cap, (List.range len).map q, by rw [hlen], by rw [hlen]; exact hl, ?_⟩
    rw [hlen]
    refine ⟨hlen, by have : maxLen ≤ 9223372036854775807 := by { unfold maxLen; decide }
                     omega, fun _ => ⟨a', rfl, fun j p hj => ?_⟩⟩
    have hjl : j < len := by
      have := (List.getElem?_eq_some_iff.1 hj).1
      omega
    have hp : q j = p := by
      rw [List.getElem?_map, List.getElem?_range hjl] at hj
      exact Option.some.inj hj
    obtain ⟨g0, g1⟩ := hq j hjl
    rw [hp] at g0 g1
    refine ⟨[.string p.f0, .string p.f1], rfl, k31_mk w p, fun i u hu => ?_⟩
    match i, hu with
    | 0, hu => simp at hu; subst hu; exact g0
    | 1, hu => simp at hu; subst hu; exact g1
    | i + 2, hu => simp at hu
/-- POST where nothing below the old heap's end has turned, and 'true' is handed back. -/
theorem post_true {H : Type} {enc : TypeId × Value → H} {f : Func} {s : ChangeSpec} {apart fresh handsOn : Bool} {W W' : World} {args : Array Value} {ds gs : List (DataW H)} {before pa : List MemPlace}
    (hW : DataW.Whole enc Tryd.prog f.params.toList s.vars apart W args.toList ds gs before) (hvars : s.vars = []) (hr : f.resultTypes = #[4])
    (hfn : (s.fn H (ds ++ gs)).results = [.lit (.bool true)] ∧ (s.fn H (ds ++ gs)).args = ds ∧ (s.fn H (ds ++ gs)).vars = [])
    (hargs : DataW.TrodAll enc Tryd.prog W' 0 (fun b => decide (b < W.heap.size)) true f.params.toList args.toList ds pa) (hb : Below W.heap.size W W') (hpa : before = pa) :
    s.post enc Tryd.prog f apart fresh handsOn false W args (.bool true) W' := by
  refine ⟨ds, gs, before, [], pa, [], hW, ?_, ?_, ?_, hb.frame _, fun h => by cases h⟩
  · rw [hr, hfn.1]
    exact trodAll_cons_mk (shut_bool Tryd.underlying4 _) trodAll_mk0
  · rw [hfn.2.1]; exact hargs
  · rw [hvars, hfn.2.2]; rfl

theorem readA : Tryd.prog.readableRec 23 = true := by kernel_rfl
theorem readS : Tryd.prog.readableRec 9 = true := by kernel_rfl
theorem rowsA : 23 < Tryd.prog.types.size := by rw [sizeT]; decide
theorem rowsS : 9 < Tryd.prog.types.size := by rw [sizeT]; decide
/-- The witness' arguments: records, and a text. -/
def wargs : Array Value := #[.slice none 0 0, .string ⟨#[]⟩]
end Go.Proofs.YtbcjhmeeonhmaaaDoor.H
end

/-
Put, told in plain words.
-/
section
set_option linter.unusedVariables false
set_option maxRecDepth 100000
namespace Go.Proofs.YtbcjhmeeonhmaaaDoor.H
open Go Go.RowKit Go.Proofs.YtbcjhmeeonhmaaaDoorW.PrintWords Go.Proofs.YtbcjhmeeonhmaaaDoorW.PrintMore Go.Proofs.YtbcjhmeeonhmaaaDoor.M
end Go.Proofs.YtbcjhmeeonhmaaaDoor.H
end

-- Laid by a program of this session for this claim.
section
namespace Go.Proofs.YtbcjhmeeonhmaaaDoor.M
open Go.RowKit Go.Proofs.YtbcjhmeeonhmaaaDoorW.PrintWords Go.Proofs.YtbcjhmeeonhmaaaDoorW.PrintLast Go.Proofs.YtbcjhmeeonhmaaaDoorW.PrintMore
attribute [local go_sem] max2_int min2_int max_two min_two max_three min_three max_four min_four   -- for this text's walks alone
set_option linter.unusedVariables false
set_option linter.unusedSimpArgs false

/-! ### pleacherlaw09_PaxPuts: function 6 -/
def pleacherlaw09_PaxPuts.l0 : Nat → List (S31) → ByteArray → Bool → ByteArray → Int → ByteArray → Int → Int → Option (Bool)
  | 0, _, _, _, _, _, _, _, _ => none
  | k + 1, x0, x1, x5, x6, x7, x8, x9, x10 => if x10 < (x0.length : Int) then (if 0 ≤ x10 then ((pax_One.f ((rd_T31 x0 x10).f0) ((rd_T31 x0 x10).f1)).bind fun bt229 => ((pleacherref09_One.f ((rd_T31 x0 x10).f0) ((rd_T31 x0 x10).f1)).bind fun bt232 => (if bt229.1.toList = bt232.1.toList then (if bt229.2 = bt232.2 then ((pax_Size.f ((rd_T31 x0 x10).f0) ((rd_T31 x0 x10).f1)).bind fun t235 => (if t235 = (bt232.1.size : Int) then (pleacherlaw09_PaxPuts.l0 k x0 x1 x5 x6 x7 x8 x9 (wrap64 (x10 + 1))) else (some false))) else (some false)) else (some false)))) else (none)) else ((pax_Find.f k x0 x1).bind fun bt224 => ((pleacherref09_Find.f k x0 x1).bind fun bt226 => (if x5 = true then (if x6.toList = x8.toList then (if x7 = x9 then (if bt224.1.toList = bt226.1.toList then (some (bt224.2 == bt226.2)) else (some false)) else (some false)) else (some false)) else (some false))))
def pleacherlaw09_PaxPuts.f (k : Nat) (l0 : List (S31)) (a1 : ByteArray) : Option (Bool) := (pleacherlaw09_shown.f).bind fun t216 => ((pleacherlaw09_Few.f k l0).bind fun t217 => ((pax_Put.f t217).bind fun bt220 => ((pleacherref09_Put.f k t217).bind fun bt222 => (pleacherlaw09_PaxPuts.l0 k t217 a1 t216 bt220.1 bt220.2 bt222.1 bt222.2 0))))
set_option maxHeartbeats 8000000 in
set_option maxRecDepth 100000 in
theorem pleacherlaw09_PaxPuts.calls (k : Nat) (A0 : Option Addr) (c0 : Nat) (l0 : List (S31)) (a1 : ByteArray) (r : Bool) (w : World) (hr0 : Kd.C k31 w A0 l0.length l0) (hc0 : l0.length ≤ c0) (hG : GW w) (h : pleacherlaw09_PaxPuts.f k l0 a1 = some r) :
    Calls Tryd.prog 6 #[.slice A0 l0.length c0, .string a1] w fun e w' => e = .returned (.bool r) ∧ Below w.heap.size w w' := by
  have HG := Aside0.mk hG
  clear hG
  have hu31 := Tryd.underlying31
  have HR0 := Aside0.mk hr0
  have HC0 := Aside0.mk hc0
  clear hr0 hc0
  have HB := Aside0.mk (Below.refl w.heap.size w)
  have H : ((pleacherlaw09_shown.f).bind fun t216 => ((pleacherlaw09_Few.f k l0).bind fun t217 => ((pax_Put.f t217).bind fun bt220 => ((pleacherref09_Put.f k t217).bind fun bt222 => (pleacherlaw09_PaxPuts.l0 k t217 a1 t216 bt220.1 bt220.2 bt222.1 bt222.2 0))))) = some r := h
  clear h
  replace H := Option.bind_eq_some_iff.mp H
  obtain ⟨t216, A30, H⟩ := H
  replace H : ((pleacherlaw09_Few.f k l0).bind fun t217 => ((pax_Put.f t217).bind fun bt220 => ((pleacherref09_Put.f k t217).bind fun bt222 => (pleacherlaw09_PaxPuts.l0 k t217 a1 t216 bt220.1 bt220.2 bt222.1 bt222.2 0)))) = some r := H
  have A3 := Aside0.mk A30
  clear A30
  replace H := Option.bind_eq_some_iff.mp H
  obtain ⟨t217, A40, H⟩ := H
  replace H : ((pax_Put.f t217).bind fun bt220 => ((pleacherref09_Put.f k t217).bind fun bt222 => (pleacherlaw09_PaxPuts.l0 k t217 a1 t216 bt220.1 bt220.2 bt222.1 bt222.2 0))) = some r := H
  have A4 := Aside0.mk A40
  clear A40
  replace H := Option.bind_eq_some_iff.mp H
  obtain ⟨⟨t220, t221⟩, A50, H⟩ := H
  replace H : ((pleacherref09_Put.f k t217).bind fun bt222 => (pleacherlaw09_PaxPuts.l0 k t217 a1 t216 t220 t221 bt222.1 bt222.2 0)) = some r := H
  have A5 := Aside0.mk A50
  clear A50
  replace H := Option.bind_eq_some_iff.mp H
  obtain ⟨⟨t222, t223⟩, A60, H⟩ := H
  replace H : (pleacherlaw09_PaxPuts.l0 k t217 a1 t216 t220 t221 t222 t223 0) = some r := H
  have A6 := Aside0.mk A60
  clear A60
  have H' := Aside0.mk H
  clear H
  go_enter Tryd.func6, Tryd.ntmps6
  go_wp2_with (first | ((with_reducible refine gate_callee (f := 9) rfl ?_); refine goesL_ (some 19) rfl rfl Tryd.func9 (by kernel_rfl) rfl #[] rfl (by (try simp only [List.map_toArray, List.map_cons, List.map_nil]); first | done | rfl | (simp only [List.length_drop, List.length_take]; rfl)) ?_; (with_reducible refine (pleacherlaw09_shown.calls  t216 _ ?side1 A3.out).mono ?_); (case side1 => exact GW.below HG.out (by repeat (first | (with_reducible first | exact HB.out | apply below_alloc | apply pw_below_drewN | apply below_drew1) | exact HB.out))); rintro e w7 ⟨rfl, hb⟩; refine ⟨_, rfl, ?_⟩; have n0_ := Aside0.mk (below_step (by repeat (first | (with_reducible first | exact HB.out | apply below_alloc | apply pw_below_drewN | apply below_drew1) | exact HB.out)) hb); clear HB; have HB := n0_; clear n0_; (try clear hb); (try clear hb2); (try clear hk); (try clear hi)) | ((with_reducible refine gate_callee (f := 16) rfl ?_); refine goesL_ (some 21) rfl rfl Tryd.func16 (by kernel_rfl) rfl #[.slice A0 l0.length c0] rfl (by (try simp only [List.map_toArray, List.map_cons, List.map_nil]); first | done | rfl | (simp only [List.length_drop, List.length_take]; rfl)) ?_; (with_reducible refine (pleacherlaw09_Few.calls k _ _ l0 t217 _ ?side1 ?side2 A4.out).mono ?_); (case side1 => repeat (first | exact (Kd.C_below HR0.out HB.out) | (with_reducible refine Kd.C_alloc ?_ _) | (with_reducible refine Kd.C_drewN ?_ _) | (with_reducible refine Kd.C_drew ?_))); (case side2 => exact HC0.out); rintro e w8 ⟨v218, rfl, ho0, hb⟩; refine ⟨_, rfl, ?_⟩; have n0_ := Aside0.mk (Kd.R_lower ho0 (below_size (by repeat (first | (with_reducible first | exact HB.out | apply below_alloc | apply pw_below_drewN | apply below_drew1) | exact HB.out)))); have n1_ := Aside0.mk (below_step (by repeat (first | (with_reducible first | exact HB.out | apply below_alloc | apply pw_below_drewN | apply below_drew1) | exact HB.out)) hb); clear HB; have HO219 := n0_; have HB := n1_; clear n0_ n1_; (try clear hb); (try clear hb2); (try clear hk); (try clear hi); (try clear ho0); obtain ⟨Ao9, co9, eo9⟩ := Kd.R_slice HO219.out; subst eo9) | ((with_reducible refine gate_callee (f := 17) rfl ?_); refine goesL_ (some 24) rfl rfl Tryd.func17 (by kernel_rfl) rfl #[.slice Ao9 t217.length co9] rfl (by (try simp only [List.map_toArray, List.map_cons, List.map_nil]); first | done | rfl | (simp only [List.length_drop, List.length_take]; rfl)) ?_; (with_reducible refine (pax_Put.calls _ _ t217 t220 t221 _ ?side1 ?side2 A5.out).mono ?_); (case side1 => repeat (first | exact (Kd.R_reads' HO219.out).2.2 | (with_reducible refine Kd.C_alloc ?_ _) | (with_reducible refine Kd.C_drewN ?_ _) | (with_reducible refine Kd.C_drew ?_))); (case side2 => exact (Kd.R_reads' HO219.out).2.1); rintro e w10 ⟨rfl, hb⟩; refine ⟨_, rfl, ?_⟩; have n0_ := Aside0.mk (Kd.R_below (by (with_reducible repeat (first | apply Kd.R_alloc | apply Kd.R_drewN | apply Kd.R_drew)); exact HO219.out) hb); have n1_ := Aside0.mk (below_step (by repeat (first | (with_reducible first | exact HB.out | apply below_alloc | apply pw_below_drewN | apply below_drew1) | exact HB.out)) hb); clear HO219; clear HB; have HO219 := n0_; have HB := n1_; clear n0_ n1_; (try clear hb); (try clear hb2); (try clear hk); (try clear hi)) | ((with_reducible refine gate_callee (f := 18) rfl ?_); refine goesL_ (some 29) rfl rfl Tryd.func18 (by kernel_rfl) rfl #[.slice Ao9 t217.length co9] rfl (by (try simp only [List.map_toArray, List.map_cons, List.map_nil]); first | done | rfl | (simp only [List.length_drop, List.length_take]; rfl)) ?_; (with_reducible refine (pleacherref09_Put.calls k _ _ t217 t222 t223 _ ?side1 ?side2 A6.out).mono ?_); (case side1 => repeat (first | exact (Kd.R_reads' HO219.out).2.2 | (with_reducible refine Kd.C_alloc ?_ _) | (with_reducible refine Kd.C_drewN ?_ _) | (with_reducible refine Kd.C_drew ?_))); (case side2 => exact (Kd.R_reads' HO219.out).2.1); rintro e w11 ⟨rfl, hb⟩; refine ⟨_, rfl, ?_⟩; have n0_ := Aside0.mk (Kd.R_below (by (with_reducible repeat (first | apply Kd.R_alloc | apply Kd.R_drewN | apply Kd.R_drew)); exact HO219.out) hb); have n1_ := Aside0.mk (below_step (by repeat (first | (with_reducible first | exact HB.out | apply below_alloc | apply pw_below_drewN | apply below_drew1) | exact HB.out)) hb); clear HO219; clear HB; have HO219 := n0_; have HB := n1_; clear n0_ n1_; (try clear hb); (try clear hb2); (try clear hk); (try clear hi)))
  go_loopg [10] k (fun kq v10 w' => ∃ (x10_1 : Int), v10 = .int .i64 x10_1 ∧ Aside0 (pleacherlaw09_PaxPuts.l0 kq t217 a1 t216 t220 t221 t222 t223 x10_1 = some r) ∧ Aside0 (kq ≤ k) ∧ Aside0 (Kd.R k31 31 w' w.heap.size (fun _ => True) (.slice Ao9 t217.length co9) t217) ∧ Aside0 (Below w.heap.size w w'))
  case atStart => exact ⟨(0), (by first | rfl | (simp; done) | (simp [*]; done)), H', ⟨Nat.le_refl _⟩, ⟨by (with_reducible repeat (first | apply Kd.R_alloc | apply Kd.R_drewN | apply Kd.R_drew)); exact HO219.out⟩, ⟨by repeat (first | (with_reducible first | exact HB.out | apply below_alloc | apply pw_below_drewN | apply below_drew1) | exact HB.out)⟩⟩
  case round =>
    clear H'
    try clear c1
    try clear p2
    try clear c6
    try clear c9
    obtain ⟨x10_1, rfl, HA, HK1, HO_0, HB⟩ := hrel
    cases gk with
    | zero => exact absurd HA.out (by simp [pleacherlaw09_PaxPuts.l0])
    | succ k1 =>
      have H := HA.out
      clear HA
      simp only [pleacherlaw09_PaxPuts.l0] at H
      by_cases c12 : x10_1 < (t217.length : Int)
      · rw [if_pos c12] at H
        have c12b0 : decide (x10_1 < (t217.length : Int)) = true := decide_eq_true c12
        clear c12
        by_cases c13 : 0 ≤ x10_1
        · rw [if_pos c13] at H
          have c13b0 : decide (0 ≤ x10_1) = true := decide_eq_true c13
          clear c13
          replace H := Option.bind_eq_some_iff.mp H
          obtain ⟨⟨t229, t230⟩, A140, H⟩ := H
          replace H : ((pleacherref09_One.f ((rd_T31 t217 x10_1).f0) ((rd_T31 t217 x10_1).f1)).bind fun bt232 => (if t229.toList = bt232.1.toList then (if t230 = bt232.2 then ((pax_Size.f ((rd_T31 t217 x10_1).f0) ((rd_T31 t217 x10_1).f1)).bind fun t235 => (if t235 = (bt232.1.size : Int) then (pleacherlaw09_PaxPuts.l0 k1 t217 a1 t216 t220 t221 t222 t223 (wrap64 (x10_1 + 1))) else (some false))) else (some false)) else (some false))) = some r := H
          have A14 := Aside0.mk A140
          clear A140
          replace H := Option.bind_eq_some_iff.mp H
          obtain ⟨⟨t232, t233⟩, A150, H⟩ := H
          replace H : (if t229.toList = t232.toList then (if t230 = t233 then ((pax_Size.f ((rd_T31 t217 x10_1).f0) ((rd_T31 t217 x10_1).f1)).bind fun t235 => (if t235 = (t232.size : Int) then (pleacherlaw09_PaxPuts.l0 k1 t217 a1 t216 t220 t221 t222 t223 (wrap64 (x10_1 + 1))) else (some false))) else (some false)) else (some false)) = some r := H
          have A15 := Aside0.mk A150
          clear A150
          by_cases c16 : t229.toList = t232.toList
          · rw [if_pos c16] at H
            have c16b0 : (t229.toList == t232.toList) = true := beq_iff_eq.mpr c16
            have c16b1 : (t229.toList != t232.toList) = false := bne_eq_false_iff_eq.mpr c16
            clear c16
            by_cases c17 : t230 = t233
            · rw [if_pos c17] at H
              have c17b0 : (t230 == t233) = true := beq_iff_eq.mpr c17
              have c17b1 : (t230 != t233) = false := bne_eq_false_iff_eq.mpr c17
              clear c17
              replace H := Option.bind_eq_some_iff.mp H
              obtain ⟨t235, A180, H⟩ := H
              replace H : (if t235 = (t232.size : Int) then (pleacherlaw09_PaxPuts.l0 k1 t217 a1 t216 t220 t221 t222 t223 (wrap64 (x10_1 + 1))) else (some false)) = some r := H
              have A18 := Aside0.mk A180
              clear A180
              by_cases c19 : t235 = (t232.size : Int)
              · rw [if_pos c19] at H
                have c19b0 : (t235 == (t232.size : Int)) = true := beq_iff_eq.mpr c19
                have c19b1 : (t235 != (t232.size : Int)) = false := bne_eq_false_iff_eq.mpr c19
                clear c19
                have H' := Aside0.mk H
                clear H
                have p228 : 0 ≤ (x10_1 : Int) := of_decide_eq_true (by first | (with_reducible assumption) | assumption)
                have q228 : x10_1 < (t217.length : Int) := of_decide_eq_true (by first | (with_reducible assumption) | assumption)
                obtain ⟨ad228, e228, hx228_0, hx228_1⟩ := at_T31 (Kd.R_reads' HO_0.out).2.2 x10_1 p228 q228
                cases e228
                replace p228 := eq_true p228
                replace q228 := eq_true q228
                go_wp2_with (first | ((with_reducible refine gate_callee (f := 15) rfl ?_); refine goesL_ (some 43) rfl rfl Tryd.func15 (by kernel_rfl) rfl #[.agg #[.string ((rd_T31 t217 x10_1).f0), .string ((rd_T31 t217 x10_1).f1)]] rfl (by (try simp only [List.map_toArray, List.map_cons, List.map_nil]); first | done | rfl | (simp only [List.length_drop, List.length_take]; rfl)) ?_; (with_reducible refine (pax_One.calls ((rd_T31 t217 x10_1).f0) ((rd_T31 t217 x10_1).f1) t229 t230 _ A14.out).mono ?_); rintro e w20 ⟨rfl, hb⟩; refine ⟨_, rfl, ?_⟩; have n0_ := Aside0.mk (Kd.R_below (by (with_reducible repeat (first | apply Kd.R_alloc | apply Kd.R_drewN | apply Kd.R_drew)); exact HO_0.out) hb); have n1_ := Aside0.mk (below_step (by repeat (first | (with_reducible first | exact HB.out | apply below_alloc | apply pw_below_drewN | apply below_drew1) | exact HB.out)) hb); clear HO_0; clear HB; have HO_0 := n0_; have HB := n1_; clear n0_ n1_; (try clear hb); (try clear hb2); (try clear hk); (try clear hi); have p231 : 0 ≤ (x10_1 : Int) := of_decide_eq_true (by first | (with_reducible assumption) | assumption); have q231 : x10_1 < (t217.length : Int) := of_decide_eq_true (by first | (with_reducible assumption) | assumption); obtain ⟨ad231, e231, hx231_0, hx231_1⟩ := at_T31 (Kd.R_reads' HO_0.out).2.2 x10_1 p231 q231; obtain rfl : ad228 = ad231 := (by injection e231); replace p231 := eq_true p231; replace q231 := eq_true q231) | ((with_reducible refine gate_callee (f := 19) rfl ?_); refine goesL_ (some 51) rfl rfl Tryd.func19 (by kernel_rfl) rfl #[.agg #[.string ((rd_T31 t217 x10_1).f0), .string ((rd_T31 t217 x10_1).f1)]] rfl (by (try simp only [List.map_toArray, List.map_cons, List.map_nil]); first | done | rfl | (simp only [List.length_drop, List.length_take]; rfl)) ?_; (with_reducible refine (pleacherref09_One.calls ((rd_T31 t217 x10_1).f0) ((rd_T31 t217 x10_1).f1) t232 t233 _ A15.out).mono ?_); rintro e w21 ⟨rfl, hb⟩; refine ⟨_, rfl, ?_⟩; have n0_ := Aside0.mk (Kd.R_below (by (with_reducible repeat (first | apply Kd.R_alloc | apply Kd.R_drewN | apply Kd.R_drew)); exact HO_0.out) hb); have n1_ := Aside0.mk (below_step (by repeat (first | (with_reducible first | exact HB.out | apply below_alloc | apply pw_below_drewN | apply below_drew1) | exact HB.out)) hb); clear HO_0; clear HB; have HO_0 := n0_; have HB := n1_; clear n0_ n1_; (try clear hb); (try clear hb2); (try clear hk); (try clear hi); have p234 : 0 ≤ (x10_1 : Int) := of_decide_eq_true (by first | (with_reducible assumption) | assumption); have q234 : x10_1 < (t217.length : Int) := of_decide_eq_true (by first | (with_reducible assumption) | assumption); obtain ⟨ad234, e234, hx234_0, hx234_1⟩ := at_T31 (Kd.R_reads' HO_0.out).2.2 x10_1 p234 q234; obtain rfl : ad228 = ad234 := (by injection e234); replace p234 := eq_true p234; replace q234 := eq_true q234) | (go_at_call 14; (with_reducible refine (pax_Size.calls ((rd_T31 t217 x10_1).f0) ((rd_T31 t217 x10_1).f1) t235 _ A18.out).mono ?_); rintro e w22 ⟨rfl, hb⟩; have n0_ := Aside0.mk (Kd.R_below (by (with_reducible repeat (first | apply Kd.R_alloc | apply Kd.R_drewN | apply Kd.R_drew)); exact HO_0.out) hb); have n1_ := Aside0.mk (below_step (by repeat (first | (with_reducible first | exact HB.out | apply below_alloc | apply pw_below_drewN | apply below_drew1) | exact HB.out)) hb); clear HO_0; clear HB; have HO_0 := n0_; have HB := n1_; clear n0_ n1_; (try clear hb); (try clear hb2); (try clear hk); (try clear hi)))
                go_roundg k1
                case measure => have := HK1.out; omega
                case rel => exact ⟨(wrap64 (x10_1 + 1)), (by first | rfl | (simp; done) | (simp [*]; done)), H', ⟨by have := HK1.out; omega⟩, ⟨by (with_reducible repeat (first | apply Kd.R_alloc | apply Kd.R_drewN | apply Kd.R_drew)); exact HO_0.out⟩, ⟨by repeat (first | (with_reducible first | exact HB.out | apply below_alloc | apply pw_below_drewN | apply below_drew1) | exact HB.out)⟩⟩
              · rw [if_neg c19] at H
                have c19b0 : (t235 == (t232.size : Int)) = false := beq_eq_false_iff_ne.mpr c19
                have c19b1 : (t235 != (t232.size : Int)) = true := bne_iff_ne.mpr c19
                obtain rfl := Option.some.inj H
                have p228 : 0 ≤ (x10_1 : Int) := of_decide_eq_true (by first | (with_reducible assumption) | assumption)
                have q228 : x10_1 < (t217.length : Int) := of_decide_eq_true (by first | (with_reducible assumption) | assumption)
                obtain ⟨ad228, e228, hx228_0, hx228_1⟩ := at_T31 (Kd.R_reads' HO_0.out).2.2 x10_1 p228 q228
                cases e228
                replace p228 := eq_true p228
                replace q228 := eq_true q228
                go_wp2_with (first | ((with_reducible refine gate_callee (f := 15) rfl ?_); refine goesL_ (some 43) rfl rfl Tryd.func15 (by kernel_rfl) rfl #[.agg #[.string ((rd_T31 t217 x10_1).f0), .string ((rd_T31 t217 x10_1).f1)]] rfl (by (try simp only [List.map_toArray, List.map_cons, List.map_nil]); first | done | rfl | (simp only [List.length_drop, List.length_take]; rfl)) ?_; (with_reducible refine (pax_One.calls ((rd_T31 t217 x10_1).f0) ((rd_T31 t217 x10_1).f1) t229 t230 _ A14.out).mono ?_); rintro e w23 ⟨rfl, hb⟩; refine ⟨_, rfl, ?_⟩; have n0_ := Aside0.mk (Kd.R_below (by (with_reducible repeat (first | apply Kd.R_alloc | apply Kd.R_drewN | apply Kd.R_drew)); exact HO_0.out) hb); have n1_ := Aside0.mk (below_step (by repeat (first | (with_reducible first | exact HB.out | apply below_alloc | apply pw_below_drewN | apply below_drew1) | exact HB.out)) hb); clear HO_0; clear HB; have HO_0 := n0_; have HB := n1_; clear n0_ n1_; (try clear hb); (try clear hb2); (try clear hk); (try clear hi); have p231 : 0 ≤ (x10_1 : Int) := of_decide_eq_true (by first | (with_reducible assumption) | assumption); have q231 : x10_1 < (t217.length : Int) := of_decide_eq_true (by first | (with_reducible assumption) | assumption); obtain ⟨ad231, e231, hx231_0, hx231_1⟩ := at_T31 (Kd.R_reads' HO_0.out).2.2 x10_1 p231 q231; obtain rfl : ad228 = ad231 := (by injection e231); replace p231 := eq_true p231; replace q231 := eq_true q231) | ((with_reducible refine gate_callee (f := 19) rfl ?_); refine goesL_ (some 51) rfl rfl Tryd.func19 (by kernel_rfl) rfl #[.agg #[.string ((rd_T31 t217 x10_1).f0), .string ((rd_T31 t217 x10_1).f1)]] rfl (by (try simp only [List.map_toArray, List.map_cons, List.map_nil]); first | done | rfl | (simp only [List.length_drop, List.length_take]; rfl)) ?_; (with_reducible refine (pleacherref09_One.calls ((rd_T31 t217 x10_1).f0) ((rd_T31 t217 x10_1).f1) t232 t233 _ A15.out).mono ?_); rintro e w24 ⟨rfl, hb⟩; refine ⟨_, rfl, ?_⟩; have n0_ := Aside0.mk (Kd.R_below (by (with_reducible repeat (first | apply Kd.R_alloc | apply Kd.R_drewN | apply Kd.R_drew)); exact HO_0.out) hb); have n1_ := Aside0.mk (below_step (by repeat (first | (with_reducible first | exact HB.out | apply below_alloc | apply pw_below_drewN | apply below_drew1) | exact HB.out)) hb); clear HO_0; clear HB; have HO_0 := n0_; have HB := n1_; clear n0_ n1_; (try clear hb); (try clear hb2); (try clear hk); (try clear hi); have p234 : 0 ≤ (x10_1 : Int) := of_decide_eq_true (by first | (with_reducible assumption) | assumption); have q234 : x10_1 < (t217.length : Int) := of_decide_eq_true (by first | (with_reducible assumption) | assumption); obtain ⟨ad234, e234, hx234_0, hx234_1⟩ := at_T31 (Kd.R_reads' HO_0.out).2.2 x10_1 p234 q234; obtain rfl : ad228 = ad234 := (by injection e234); replace p234 := eq_true p234; replace q234 := eq_true q234) | (go_at_call 14; (with_reducible refine (pax_Size.calls ((rd_T31 t217 x10_1).f0) ((rd_T31 t217 x10_1).f1) t235 _ A18.out).mono ?_); rintro e w25 ⟨rfl, hb⟩; have n0_ := Aside0.mk (Kd.R_below (by (with_reducible repeat (first | apply Kd.R_alloc | apply Kd.R_drewN | apply Kd.R_drew)); exact HO_0.out) hb); have n1_ := Aside0.mk (below_step (by repeat (first | (with_reducible first | exact HB.out | apply below_alloc | apply pw_below_drewN | apply below_drew1) | exact HB.out)) hb); clear HO_0; clear HB; have HO_0 := n0_; have HB := n1_; clear n0_ n1_; (try clear hb); (try clear hb2); (try clear hk); (try clear hi)))
                go_ret
                exact ⟨by first | rfl | (simp [errW_none, errW_some] <;> rfl) | (simp [*, errW_none, errW_some] <;> rfl), by repeat (first | (with_reducible first | exact HB.out | apply below_alloc | apply pw_below_drewN | apply below_drew1) | exact HB.out)⟩
            · rw [if_neg c17] at H
              have c17b0 : (t230 == t233) = false := beq_eq_false_iff_ne.mpr c17
              have c17b1 : (t230 != t233) = true := bne_iff_ne.mpr c17
              obtain rfl := Option.some.inj H
              have p228 : 0 ≤ (x10_1 : Int) := of_decide_eq_true (by first | (with_reducible assumption) | assumption)
              have q228 : x10_1 < (t217.length : Int) := of_decide_eq_true (by first | (with_reducible assumption) | assumption)
              obtain ⟨ad228, e228, hx228_0, hx228_1⟩ := at_T31 (Kd.R_reads' HO_0.out).2.2 x10_1 p228 q228
              cases e228
              replace p228 := eq_true p228
              replace q228 := eq_true q228
              go_wp2_with (first | ((with_reducible refine gate_callee (f := 15) rfl ?_); refine goesL_ (some 43) rfl rfl Tryd.func15 (by kernel_rfl) rfl #[.agg #[.string ((rd_T31 t217 x10_1).f0), .string ((rd_T31 t217 x10_1).f1)]] rfl (by (try simp only [List.map_toArray, List.map_cons, List.map_nil]); first | done | rfl | (simp only [List.length_drop, List.length_take]; rfl)) ?_; (with_reducible refine (pax_One.calls ((rd_T31 t217 x10_1).f0) ((rd_T31 t217 x10_1).f1) t229 t230 _ A14.out).mono ?_); rintro e w26 ⟨rfl, hb⟩; refine ⟨_, rfl, ?_⟩; have n0_ := Aside0.mk (Kd.R_below (by (with_reducible repeat (first | apply Kd.R_alloc | apply Kd.R_drewN | apply Kd.R_drew)); exact HO_0.out) hb); have n1_ := Aside0.mk (below_step (by repeat (first | (with_reducible first | exact HB.out | apply below_alloc | apply pw_below_drewN | apply below_drew1) | exact HB.out)) hb); clear HO_0; clear HB; have HO_0 := n0_; have HB := n1_; clear n0_ n1_; (try clear hb); (try clear hb2); (try clear hk); (try clear hi); have p231 : 0 ≤ (x10_1 : Int) := of_decide_eq_true (by first | (with_reducible assumption) | assumption); have q231 : x10_1 < (t217.length : Int) := of_decide_eq_true (by first | (with_reducible assumption) | assumption); obtain ⟨ad231, e231, hx231_0, hx231_1⟩ := at_T31 (Kd.R_reads' HO_0.out).2.2 x10_1 p231 q231; obtain rfl : ad228 = ad231 := (by injection e231); replace p231 := eq_true p231; replace q231 := eq_true q231) | ((with_reducible refine gate_callee (f := 19) rfl ?_); refine goesL_ (some 51) rfl rfl Tryd.func19 (by kernel_rfl) rfl #[.agg #[.string ((rd_T31 t217 x10_1).f0), .string ((rd_T31 t217 x10_1).f1)]] rfl (by (try simp only [List.map_toArray, List.map_cons, List.map_nil]); first | done | rfl | (simp only [List.length_drop, List.length_take]; rfl)) ?_; (with_reducible refine (pleacherref09_One.calls ((rd_T31 t217 x10_1).f0) ((rd_T31 t217 x10_1).f1) t232 t233 _ A15.out).mono ?_); rintro e w27 ⟨rfl, hb⟩; refine ⟨_, rfl, ?_⟩; have n0_ := Aside0.mk (Kd.R_below (by (with_reducible repeat (first | apply Kd.R_alloc | apply Kd.R_drewN | apply Kd.R_drew)); exact HO_0.out) hb); have n1_ := Aside0.mk (below_step (by repeat (first | (with_reducible first | exact HB.out | apply below_alloc | apply pw_below_drewN | apply below_drew1) | exact HB.out)) hb); clear HO_0; clear HB; have HO_0 := n0_; have HB := n1_; clear n0_ n1_; (try clear hb); (try clear hb2); (try clear hk); (try clear hi)))
              go_ret
              exact ⟨by first | rfl | (simp [errW_none, errW_some] <;> rfl) | (simp [*, errW_none, errW_some] <;> rfl), by repeat (first | (with_reducible first | exact HB.out | apply below_alloc | apply pw_below_drewN | apply below_drew1) | exact HB.out)⟩
          · rw [if_neg c16] at H
            have c16b0 : (t229.toList == t232.toList) = false := beq_eq_false_iff_ne.mpr c16
            have c16b1 : (t229.toList != t232.toList) = true := bne_iff_ne.mpr c16
            obtain rfl := Option.some.inj H
            have p228 : 0 ≤ (x10_1 : Int) := of_decide_eq_true (by first | (with_reducible assumption) | assumption)
            have q228 : x10_1 < (t217.length : Int) := of_decide_eq_true (by first | (with_reducible assumption) | assumption)
            obtain ⟨ad228, e228, hx228_0, hx228_1⟩ := at_T31 (Kd.R_reads' HO_0.out).2.2 x10_1 p228 q228
            cases e228
            replace p228 := eq_true p228
            replace q228 := eq_true q228
            go_wp2_with (first | ((with_reducible refine gate_callee (f := 15) rfl ?_); refine goesL_ (some 43) rfl rfl Tryd.func15 (by kernel_rfl) rfl #[.agg #[.string ((rd_T31 t217 x10_1).f0), .string ((rd_T31 t217 x10_1).f1)]] rfl (by (try simp only [List.map_toArray, List.map_cons, List.map_nil]); first | done | rfl | (simp only [List.length_drop, List.length_take]; rfl)) ?_; (with_reducible refine (pax_One.calls ((rd_T31 t217 x10_1).f0) ((rd_T31 t217 x10_1).f1) t229 t230 _ A14.out).mono ?_); rintro e w28 ⟨rfl, hb⟩; refine ⟨_, rfl, ?_⟩; have n0_ := Aside0.mk (Kd.R_below (by (with_reducible repeat (first | apply Kd.R_alloc | apply Kd.R_drewN | apply Kd.R_drew)); exact HO_0.out) hb); have n1_ := Aside0.mk (below_step (by repeat (first | (with_reducible first | exact HB.out | apply below_alloc | apply pw_below_drewN | apply below_drew1) | exact HB.out)) hb); clear HO_0; clear HB; have HO_0 := n0_; have HB := n1_; clear n0_ n1_; (try clear hb); (try clear hb2); (try clear hk); (try clear hi); have p231 : 0 ≤ (x10_1 : Int) := of_decide_eq_true (by first | (with_reducible assumption) | assumption); have q231 : x10_1 < (t217.length : Int) := of_decide_eq_true (by first | (with_reducible assumption) | assumption); obtain ⟨ad231, e231, hx231_0, hx231_1⟩ := at_T31 (Kd.R_reads' HO_0.out).2.2 x10_1 p231 q231; obtain rfl : ad228 = ad231 := (by injection e231); replace p231 := eq_true p231; replace q231 := eq_true q231) | ((with_reducible refine gate_callee (f := 19) rfl ?_); refine goesL_ (some 51) rfl rfl Tryd.func19 (by kernel_rfl) rfl #[.agg #[.string ((rd_T31 t217 x10_1).f0), .string ((rd_T31 t217 x10_1).f1)]] rfl (by (try simp only [List.map_toArray, List.map_cons, List.map_nil]); first | done | rfl | (simp only [List.length_drop, List.length_take]; rfl)) ?_; (with_reducible refine (pleacherref09_One.calls ((rd_T31 t217 x10_1).f0) ((rd_T31 t217 x10_1).f1) t232 t233 _ A15.out).mono ?_); rintro e w29 ⟨rfl, hb⟩; refine ⟨_, rfl, ?_⟩; have n0_ := Aside0.mk (Kd.R_below (by (with_reducible repeat (first | apply Kd.R_alloc | apply Kd.R_drewN | apply Kd.R_drew)); exact HO_0.out) hb); have n1_ := Aside0.mk (below_step (by repeat (first | (with_reducible first | exact HB.out | apply below_alloc | apply pw_below_drewN | apply below_drew1) | exact HB.out)) hb); clear HO_0; clear HB; have HO_0 := n0_; have HB := n1_; clear n0_ n1_; (try clear hb); (try clear hb2); (try clear hk); (try clear hi)))
            go_ret
            exact ⟨by first | rfl | (simp [errW_none, errW_some] <;> rfl) | (simp [*, errW_none, errW_some] <;> rfl), by repeat (first | (with_reducible first | exact HB.out | apply below_alloc | apply pw_below_drewN | apply below_drew1) | exact HB.out)⟩
        · rw [if_neg c13] at H
          exact absurd H (by simp)
      · rw [if_neg c12] at H
        have c12b0 : decide (x10_1 < (t217.length : Int)) = false := decide_eq_false c12
        clear c12
        replace H := Option.bind_eq_some_iff.mp H
        obtain ⟨⟨t224, t225⟩, A300, H⟩ := H
        replace H : ((pleacherref09_Find.f k1 t217 a1).bind fun bt226 => (if t216 = true then (if t220.toList = t222.toList then (if t221 = t223 then (if t224.toList = bt226.1.toList then (some (t225 == bt226.2)) else (some false)) else (some false)) else (some false)) else (some false))) = some r := H
        have A30 := Aside0.mk A300
        clear A300
        replace H := Option.bind_eq_some_iff.mp H
        obtain ⟨⟨t226, t227⟩, A310, H⟩ := H
        replace H : (if t216 = true then (if t220.toList = t222.toList then (if t221 = t223 then (if t224.toList = t226.toList then (some (t225 == t227)) else (some false)) else (some false)) else (some false)) else (some false)) = some r := H
        have A31 := Aside0.mk A310
        clear A310
        by_cases c32 : t216 = true
        · subst c32
          have H1 : (if t220.toList = t222.toList then (if t221 = t223 then (if t224.toList = t226.toList then (some (t225 == t227)) else (some false)) else (some false)) else (some false)) = some r := by rw [if_pos rfl] at H; exact H
          clear H
          have H := H1
          clear H1
          by_cases c33 : t220.toList = t222.toList
          · rw [if_pos c33] at H
            have c33b0 : (t220.toList == t222.toList) = true := beq_iff_eq.mpr c33
            have c33b1 : (t220.toList != t222.toList) = false := bne_eq_false_iff_eq.mpr c33
            clear c33
            by_cases c34 : t221 = t223
            · rw [if_pos c34] at H
              have c34b0 : (t221 == t223) = true := beq_iff_eq.mpr c34
              have c34b1 : (t221 != t223) = false := bne_eq_false_iff_eq.mpr c34
              clear c34
              by_cases c35 : t224.toList = t226.toList
              · rw [if_pos c35] at H
                have c35b0 : (t224.toList == t226.toList) = true := beq_iff_eq.mpr c35
                have c35b1 : (t224.toList != t226.toList) = false := bne_eq_false_iff_eq.mpr c35
                clear c35
                obtain rfl := Option.some.inj H
                go_wp2_with (first | ((with_reducible refine gate_callee (f := 20) rfl ?_); refine goesL_ (some 75) rfl rfl Tryd.func20 (by kernel_rfl) rfl #[.slice Ao9 t217.length co9, .string a1] rfl (by (try simp only [List.map_toArray, List.map_cons, List.map_nil]); first | done | rfl | (simp only [List.length_drop, List.length_take]; rfl)) ?_; (with_reducible refine (pax_Find.calls k1 _ _ t217 a1 t224 t225 _ ?side1 ?side2 A30.out).mono ?_); (case side1 => repeat (first | exact (Kd.R_reads' HO_0.out).2.2 | (with_reducible refine Kd.C_alloc ?_ _) | (with_reducible refine Kd.C_drewN ?_ _) | (with_reducible refine Kd.C_drew ?_))); (case side2 => exact (Kd.R_reads' HO_0.out).2.1); rintro e w36 ⟨rfl, hb⟩; refine ⟨_, rfl, ?_⟩; have n0_ := Aside0.mk (Kd.R_below (by (with_reducible repeat (first | apply Kd.R_alloc | apply Kd.R_drewN | apply Kd.R_drew)); exact HO_0.out) hb); have n1_ := Aside0.mk (below_step (by repeat (first | (with_reducible first | exact HB.out | apply below_alloc | apply pw_below_drewN | apply below_drew1) | exact HB.out)) hb); clear HO_0; clear HB; have HO_0 := n0_; have HB := n1_; clear n0_ n1_; (try clear hb); (try clear hb2); (try clear hk); (try clear hi)) | ((with_reducible refine gate_callee (f := 21) rfl ?_); refine goesL_ (some 81) rfl rfl Tryd.func21 (by kernel_rfl) rfl #[.slice Ao9 t217.length co9, .string a1] rfl (by (try simp only [List.map_toArray, List.map_cons, List.map_nil]); first | done | rfl | (simp only [List.length_drop, List.length_take]; rfl)) ?_; (with_reducible refine (pleacherref09_Find.calls k1 _ _ t217 a1 t226 t227 _ ?side1 ?side2 A31.out).mono ?_); (case side1 => repeat (first | exact (Kd.R_reads' HO_0.out).2.2 | (with_reducible refine Kd.C_alloc ?_ _) | (with_reducible refine Kd.C_drewN ?_ _) | (with_reducible refine Kd.C_drew ?_))); (case side2 => exact (Kd.R_reads' HO_0.out).2.1); rintro e w' ⟨rfl, ⟨nd, rfl⟩⟩; refine ⟨_, rfl, ?_⟩))
                go_ret
                exact ⟨by first | rfl | (simp [errW_none, errW_some] <;> rfl) | (simp [*, errW_none, errW_some] <;> rfl), by repeat (first | (with_reducible first | exact HB.out | apply below_alloc | apply pw_below_drewN | apply below_drew1) | exact HB.out)⟩
              · rw [if_neg c35] at H
                have c35b0 : (t224.toList == t226.toList) = false := beq_eq_false_iff_ne.mpr c35
                have c35b1 : (t224.toList != t226.toList) = true := bne_iff_ne.mpr c35
                obtain rfl := Option.some.inj H
                go_wp2_with (first | ((with_reducible refine gate_callee (f := 20) rfl ?_); refine goesL_ (some 75) rfl rfl Tryd.func20 (by kernel_rfl) rfl #[.slice Ao9 t217.length co9, .string a1] rfl (by (try simp only [List.map_toArray, List.map_cons, List.map_nil]); first | done | rfl | (simp only [List.length_drop, List.length_take]; rfl)) ?_; (with_reducible refine (pax_Find.calls k1 _ _ t217 a1 t224 t225 _ ?side1 ?side2 A30.out).mono ?_); (case side1 => repeat (first | exact (Kd.R_reads' HO_0.out).2.2 | (with_reducible refine Kd.C_alloc ?_ _) | (with_reducible refine Kd.C_drewN ?_ _) | (with_reducible refine Kd.C_drew ?_))); (case side2 => exact (Kd.R_reads' HO_0.out).2.1); rintro e w37 ⟨rfl, hb⟩; refine ⟨_, rfl, ?_⟩; have n0_ := Aside0.mk (Kd.R_below (by (with_reducible repeat (first | apply Kd.R_alloc | apply Kd.R_drewN | apply Kd.R_drew)); exact HO_0.out) hb); have n1_ := Aside0.mk (below_step (by repeat (first | (with_reducible first | exact HB.out | apply below_alloc | apply pw_below_drewN | apply below_drew1) | exact HB.out)) hb); clear HO_0; clear HB; have HO_0 := n0_; have HB := n1_; clear n0_ n1_; (try clear hb); (try clear hb2); (try clear hk); (try clear hi)) | ((with_reducible refine gate_callee (f := 21) rfl ?_); refine goesL_ (some 81) rfl rfl Tryd.func21 (by kernel_rfl) rfl #[.slice Ao9 t217.length co9, .string a1] rfl (by (try simp only [List.map_toArray, List.map_cons, List.map_nil]); first | done | rfl | (simp only [List.length_drop, List.length_take]; rfl)) ?_; (with_reducible refine (pleacherref09_Find.calls k1 _ _ t217 a1 t226 t227 _ ?side1 ?side2 A31.out).mono ?_); (case side1 => repeat (first | exact (Kd.R_reads' HO_0.out).2.2 | (with_reducible refine Kd.C_alloc ?_ _) | (with_reducible refine Kd.C_drewN ?_ _) | (with_reducible refine Kd.C_drew ?_))); (case side2 => exact (Kd.R_reads' HO_0.out).2.1); rintro e w' ⟨rfl, ⟨nd, rfl⟩⟩; refine ⟨_, rfl, ?_⟩))
                go_ret
                exact ⟨by first | rfl | (simp [errW_none, errW_some] <;> rfl) | (simp [*, errW_none, errW_some] <;> rfl), by repeat (first | (with_reducible first | exact HB.out | apply below_alloc | apply pw_below_drewN | apply below_drew1) | exact HB.out)⟩
            · rw [if_neg c34] at H
              have c34b0 : (t221 == t223) = false := beq_eq_false_iff_ne.mpr c34
              have c34b1 : (t221 != t223) = true := bne_iff_ne.mpr c34
              obtain rfl := Option.some.inj H
              go_wp2_with (first | ((with_reducible refine gate_callee (f := 20) rfl ?_); refine goesL_ (some 75) rfl rfl Tryd.func20 (by kernel_rfl) rfl #[.slice Ao9 t217.length co9, .string a1] rfl (by (try simp only [List.map_toArray, List.map_cons, List.map_nil]); first | done | rfl | (simp only [List.length_drop, List.length_take]; rfl)) ?_; (with_reducible refine (pax_Find.calls k1 _ _ t217 a1 t224 t225 _ ?side1 ?side2 A30.out).mono ?_); (case side1 => repeat (first | exact (Kd.R_reads' HO_0.out).2.2 | (with_reducible refine Kd.C_alloc ?_ _) | (with_reducible refine Kd.C_drewN ?_ _) | (with_reducible refine Kd.C_drew ?_))); (case side2 => exact (Kd.R_reads' HO_0.out).2.1); rintro e w38 ⟨rfl, hb⟩; refine ⟨_, rfl, ?_⟩; have n0_ := Aside0.mk (Kd.R_below (by (with_reducible repeat (first | apply Kd.R_alloc | apply Kd.R_drewN | apply Kd.R_drew)); exact HO_0.out) hb); have n1_ := Aside0.mk (below_step (by repeat (first | (with_reducible first | exact HB.out | apply below_alloc | apply pw_below_drewN | apply below_drew1) | exact HB.out)) hb); clear HO_0; clear HB; have HO_0 := n0_; have HB := n1_; clear n0_ n1_; (try clear hb); (try clear hb2); (try clear hk); (try clear hi)) | ((with_reducible refine gate_callee (f := 21) rfl ?_); refine goesL_ (some 81) rfl rfl Tryd.func21 (by kernel_rfl) rfl #[.slice Ao9 t217.length co9, .string a1] rfl (by (try simp only [List.map_toArray, List.map_cons, List.map_nil]); first | done | rfl | (simp only [List.length_drop, List.length_take]; rfl)) ?_; (with_reducible refine (pleacherref09_Find.calls k1 _ _ t217 a1 t226 t227 _ ?side1 ?side2 A31.out).mono ?_); (case side1 => repeat (first | exact (Kd.R_reads' HO_0.out).2.2 | (with_reducible refine Kd.C_alloc ?_ _) | (with_reducible refine Kd.C_drewN ?_ _) | (with_reducible refine Kd.C_drew ?_))); (case side2 => exact (Kd.R_reads' HO_0.out).2.1); rintro e w' ⟨rfl, ⟨nd, rfl⟩⟩; refine ⟨_, rfl, ?_⟩))
              go_ret
              exact ⟨by first | rfl | (simp [errW_none, errW_some] <;> rfl) | (simp [*, errW_none, errW_some] <;> rfl), by repeat (first | (with_reducible first | exact HB.out | apply below_alloc | apply pw_below_drewN | apply below_drew1) | exact HB.out)⟩
          · rw [if_neg c33] at H
            have c33b0 : (t220.toList == t222.toList) = false := beq_eq_false_iff_ne.mpr c33
            have c33b1 : (t220.toList != t222.toList) = true := bne_iff_ne.mpr c33
            obtain rfl := Option.some.inj H
            go_wp2_with (first | ((with_reducible refine gate_callee (f := 20) rfl ?_); refine goesL_ (some 75) rfl rfl Tryd.func20 (by kernel_rfl) rfl #[.slice Ao9 t217.length co9, .string a1] rfl (by (try simp only [List.map_toArray, List.map_cons, List.map_nil]); first | done | rfl | (simp only [List.length_drop, List.length_take]; rfl)) ?_; (with_reducible refine (pax_Find.calls k1 _ _ t217 a1 t224 t225 _ ?side1 ?side2 A30.out).mono ?_); (case side1 => repeat (first | exact (Kd.R_reads' HO_0.out).2.2 | (with_reducible refine Kd.C_alloc ?_ _) | (with_reducible refine Kd.C_drewN ?_ _) | (with_reducible refine Kd.C_drew ?_))); (case side2 => exact (Kd.R_reads' HO_0.out).2.1); rintro e w39 ⟨rfl, hb⟩; refine ⟨_, rfl, ?_⟩; have n0_ := Aside0.mk (Kd.R_below (by (with_reducible repeat (first | apply Kd.R_alloc | apply Kd.R_drewN | apply Kd.R_drew)); exact HO_0.out) hb); have n1_ := Aside0.mk (below_step (by repeat (first | (with_reducible first | exact HB.out | apply below_alloc | apply pw_below_drewN | apply below_drew1) | exact HB.out)) hb); clear HO_0; clear HB; have HO_0 := n0_; have HB := n1_; clear n0_ n1_; (try clear hb); (try clear hb2); (try clear hk); (try clear hi)) | ((with_reducible refine gate_callee (f := 21) rfl ?_); refine goesL_ (some 81) rfl rfl Tryd.func21 (by kernel_rfl) rfl #[.slice Ao9 t217.length co9, .string a1] rfl (by (try simp only [List.map_toArray, List.map_cons, List.map_nil]); first | done | rfl | (simp only [List.length_drop, List.length_take]; rfl)) ?_; (with_reducible refine (pleacherref09_Find.calls k1 _ _ t217 a1 t226 t227 _ ?side1 ?side2 A31.out).mono ?_); (case side1 => repeat (first | exact (Kd.R_reads' HO_0.out).2.2 | (with_reducible refine Kd.C_alloc ?_ _) | (with_reducible refine Kd.C_drewN ?_ _) | (with_reducible refine Kd.C_drew ?_))); (case side2 => exact (Kd.R_reads' HO_0.out).2.1); rintro e w' ⟨rfl, ⟨nd, rfl⟩⟩; refine ⟨_, rfl, ?_⟩))
            go_ret
            exact ⟨by first | rfl | (simp [errW_none, errW_some] <;> rfl) | (simp [*, errW_none, errW_some] <;> rfl), by repeat (first | (with_reducible first | exact HB.out | apply below_alloc | apply pw_below_drewN | apply below_drew1) | exact HB.out)⟩
        · replace c32 := Bool.eq_false_iff.mpr c32
          subst c32
          have H1 : (some false) = some r := by rw [if_neg (show ¬ (false = true) by decide)] at H; exact H
          clear H
          have H := H1
          clear H1
          obtain rfl := Option.some.inj H
          go_wp2_with (first | ((with_reducible refine gate_callee (f := 20) rfl ?_); refine goesL_ (some 75) rfl rfl Tryd.func20 (by kernel_rfl) rfl #[.slice Ao9 t217.length co9, .string a1] rfl (by (try simp only [List.map_toArray, List.map_cons, List.map_nil]); first | done | rfl | (simp only [List.length_drop, List.length_take]; rfl)) ?_; (with_reducible refine (pax_Find.calls k1 _ _ t217 a1 t224 t225 _ ?side1 ?side2 A30.out).mono ?_); (case side1 => repeat (first | exact (Kd.R_reads' HO_0.out).2.2 | (with_reducible refine Kd.C_alloc ?_ _) | (with_reducible refine Kd.C_drewN ?_ _) | (with_reducible refine Kd.C_drew ?_))); (case side2 => exact (Kd.R_reads' HO_0.out).2.1); rintro e w40 ⟨rfl, hb⟩; refine ⟨_, rfl, ?_⟩; have n0_ := Aside0.mk (Kd.R_below (by (with_reducible repeat (first | apply Kd.R_alloc | apply Kd.R_drewN | apply Kd.R_drew)); exact HO_0.out) hb); have n1_ := Aside0.mk (below_step (by repeat (first | (with_reducible first | exact HB.out | apply below_alloc | apply pw_below_drewN | apply below_drew1) | exact HB.out)) hb); clear HO_0; clear HB; have HO_0 := n0_; have HB := n1_; clear n0_ n1_; (try clear hb); (try clear hb2); (try clear hk); (try clear hi)) | ((with_reducible refine gate_callee (f := 21) rfl ?_); refine goesL_ (some 81) rfl rfl Tryd.func21 (by kernel_rfl) rfl #[.slice Ao9 t217.length co9, .string a1] rfl (by (try simp only [List.map_toArray, List.map_cons, List.map_nil]); first | done | rfl | (simp only [List.length_drop, List.length_take]; rfl)) ?_; (with_reducible refine (pleacherref09_Find.calls k1 _ _ t217 a1 t226 t227 _ ?side1 ?side2 A31.out).mono ?_); (case side1 => repeat (first | exact (Kd.R_reads' HO_0.out).2.2 | (with_reducible refine Kd.C_alloc ?_ _) | (with_reducible refine Kd.C_drewN ?_ _) | (with_reducible refine Kd.C_drew ?_))); (case side2 => exact (Kd.R_reads' HO_0.out).2.1); rintro e w' ⟨rfl, ⟨nd, rfl⟩⟩; refine ⟨_, rfl, ?_⟩))
          go_ret
          exact ⟨by first | rfl | (simp [errW_none, errW_some] <;> rfl) | (simp [*, errW_none, errW_some] <;> rfl), by repeat (first | (with_reducible first | exact HB.out | apply below_alloc | apply pw_below_drewN | apply below_drew1) | exact HB.out)⟩

end Go.Proofs.YtbcjhmeeonhmaaaDoor.M
end

/-
PaxPuts: what the law computes is true.
-/
section
set_option linter.unusedVariables false
set_option maxRecDepth 100000
namespace Go.Proofs.YtbcjhmeeonhmaaaDoor.H
open Go Go.RowKit Go.Proofs.YtbcjhmeeonhmaaaDoorW.PrintWords Go.Proofs.YtbcjhmeeonhmaaaDoorW.PrintMore Go.Proofs.YtbcjhmeeonhmaaaDoor.M

theorem puts_l (l : List At) (n : ByteArray) (p : ByteArray × Int) (hl : l.length ≤ 32) (hs : ∀ x ∈ l, x.f0.size ≤ 410 ∧ x.f1.size ≤ 410) : ∀ (k i m : Nat), i + m = l.length → m ≤ k →
    pleacherlaw09_PaxPuts.l0 (k + 1 + 40) l n true p.1 p.2 p.1 p.2 i = some true := by
  have fin : ∀ (k : Nat), 40 ≤ k → ((pax_Find.f k l n).bind fun bt224 => ((pleacherref09_Find.f k l n).bind fun bt226 => (if (true : Bool) = true then (if p.1.toList = p.1.toList then (if p.2 = p.2 then (if bt224.1.toList = bt226.1.toList then (some (bt224.2 == bt226.2)) else (some false)) else (some false)) else (some false)) else (some false)))) = some true := by
    intro k hk
    rw [find_f l n (by omega) k (by omega), rfind_f l n (by omega) k (by omega)]
    simp
  intro k
  induction k with
  | zero =>
    intro i m h1 h2
    rw [show 0 + 1 + 40 = 40 + 1 from rfl, pleacherlaw09_PaxPuts.l0, if_neg (by omega)]
    exact fin 40 (by omega)
  | succ k ih =>
    intro i m h1 h2
    rw [show k + 1 + 1 + 40 = (k + 1 + 40) + 1 from by omega, pleacherlaw09_PaxPuts.l0]
    by_cases h : i < l.length
    · have hx := hs l[i] (List.getElem_mem _)
      rw [if_pos (by omega), if_pos (by omega), rd_at l i h]
      unfold pax_One.f pleacherref09_One.f
      rw [if_pos ⟨by omega, by omega⟩]
      simp only [Option.bind_some, if_true, size_f]
      rw [w64 (by omega) (by omega), show (i : Int) + 1 = ((i + 1 : Nat) : Int) from by omega]
      exact ih (i + 1) (m - 1) (by omega) (by omega)
    · rw [if_neg (by omega)]
      exact fin _ (by omega)
theorem paxPuts_f (l : List At) (n : ByteArray) : pleacherlaw09_PaxPuts.f 2100 l n = some true := by
  unfold pleacherlaw09_PaxPuts.f
  have hl := few_len l
  have hs := few_small l
  rw [shown_f, few_f l _ (by omega)]
  simp only [Option.bind_some]
  rw [put_f _ (by omega), rput_f _ (by omega) (fun x hx => by have := hs x hx; omega) _ (by omega)]
  simp only [Option.bind_some]
  exact puts_l (few l) n (putsS (few l)) hl hs 2059 0 (few l).length (by omega) (by omega)

end Go.Proofs.YtbcjhmeeonhmaaaDoor.H
end

/-
The row and card of PaxPuts.
-/
section
set_option linter.unusedVariables false
set_option maxRecDepth 100000
namespace Go.Proofs.YtbcjhmeeonhmaaaDoor.H
open Go Go.ChangeShapes Go.WideShapes Go.ChangeAt Go.RowKit Go.Proofs.YtbcjhmeeonhmaaaDoorW.PrintWords Go.Proofs.YtbcjhmeeonhmaaaDoorW.PrintMore Go.Proofs.YtbcjhmeeonhmaaaDoor.M

/-- records, and a text. -/
theorem puts_contract (H : Type) (enc : TypeId × Value → H) (W : World) (base : Nat) (args : Array Value) (ds gs : List (DataW H)) (before : List MemPlace)
    (hval : ∀ (j : Nat) t v, Tryd.f6.params[j]? = some t → args[j]? = some v → Value.okWide Tryd.prog W .any base t v)
    (hW : DataW.Whole enc Tryd.prog Tryd.f6.params.toList Rows.paxPutsSpec.vars false W args.toList ds gs before) (hL : laidMetH Tryd.prog Rows.paxPutsRow.laid W) :
    Calls Tryd.prog 6 args W fun e W' => ∃ v, e = .returned v ∧ Rows.paxPutsSpec.post enc Tryd.prog Tryd.f6 false true false false W args v W' := by
  have hW' := hW
  have hlt := hW.lt
  obtain ⟨p, q, hA0, hV, rfl, hfz, hnd⟩ := hW
  have hA : DataW.TrodAll enc Tryd.prog W 0 (fun _ => true) true Tryd.f6.params.toList args.toList ds p := hA0
  rw [Tryd.params6] at hA hval
  obtain ⟨v0, vs0, d0, ds0, p0, q0, hargs, rfl, rfl, h0, r0⟩ := trodAll_cons hA
  obtain ⟨v1, vs1, d1, ds1, p1, q1, hargs1, rfl, rfl, h1, r1⟩ := trodAll_cons r0
  obtain ⟨rfl, rfl, rfl⟩ := trodAll_nil r1
  obtain rfl : args = #[v0, v1] := by cases args; simp_all
  obtain ⟨rfl, rfl⟩ := trodVars_none hV
  obtain ⟨A, c, l, rfl, hc, hK⟩ := open_attrs (hval 0 23 v0 rfl rfl) h0
  obtain ⟨n, rfl, _⟩ := Go.ChangeMaps.open_string Tryd.underlying9 (hval 1 9 v1 rfl rfl) h1
  refine (pleacherlaw09_PaxPuts.calls 2100 A c l n true W hK hc (gw_of_laid hL) (paxPuts_f l n)).mono fun e W' ⟨he, hb⟩ => ?_
  subst he
  refine ⟨_, rfl, post_true hW' rfl (by kernel_rfl) ⟨rfl, rfl, rfl⟩ (pa := p0 ++ (p1 ++ [])) ?_ hb (by simp)⟩
  rw [Tryd.params6]
  have hl2 : ∀ x ∈ p0 ++ p1, x.block < W.heap.size := fun x hx => hlt x (by simpa using hx)
  exact trodAll_cons_mk (Below.trod laidOutA readA rowsA h0 hb (fun x hx => hl2 x (List.mem_append_left _ hx))) (trodAll_cons_mk (Below.trod laidOutA readS rowsS h1 hb (fun x hx => hl2 x (List.mem_append_right _ hx))) trodAll_mk0)
theorem puts_reads (os : Os) {H : Type} (enc : TypeId × Value → H) : ∃ places, DataW.whole enc Tryd.prog ((World.doorLaid Tryd.prog 54 os).forCall (fun _ _ => 0) ⟨#[], wargs, []⟩).memory Tryd.f6.params.toList Rows.paxPutsSpec.vars false wargs.toList 8 = some ([.nil, .lit (.string [])], [], places) :=
  ⟨[], by kernel_rfl⟩
/-- THE ROW's STEP. -/
theorem puts_lifted (os : Os) (started : os.Started) (H : Type) (enc : TypeId × Value → H) (F : Stop.Interp) :
    ReturnsInHanded {} Tryd.checked os 6 .any ((OpenSpec.ofChange Rows.paxPutsSpec).preRow enc Tryd.prog Tryd.f6 Rows.paxPutsRow.domain false Rows.paxPutsRow.laid) (((OpenSpec.ofChange Rows.paxPutsSpec).at F).post enc Tryd.prog Tryd.f6 false true false false) := by
  obtain ⟨places, hx⟩ := puts_reads os enc
  refine returnsInHanded_of_row (C := Tryd.checked) (s := OpenSpec.ofChange Rows.paxPutsSpec) own started (by kernel_rfl) Tryd.func6
    (witness_row_atRef (enc := enc) (C := Tryd.checked) false (World.doorLaid Tryd.prog 54 os) wargs rfl (by kernel_rfl) (by kernel_rfl) (by kernel_rfl)
      (OpenSpec.preRow_of_cond 8 hx (by kernel_rfl) (fun k hk => by cases hk) (by kernel_rfl) (door_met os _))) ?_
  intro W base args ds gs before hval hW _ _ _ hL _ _
  exact puts_contract H enc W base args ds gs before hval hW hL
theorem puts_said : Rows.PaxPutsSaid :=
  OpenClaim.holds_of_cond 6 Tryd.f6 rfl rfl rfl rfl rfl rfl rfl ⟨rfl, rfl, rfl, rfl, rfl⟩ rfl rfl rfl rfl rfl (by kernel_rfl) Tryd.func6 (by kernel_rfl)
    (of_decide_eq_true (by kernel_rfl)) (by unfold Func.isWrapper; first | (rw [if_pos (by decide +kernel)]; kernel_rfl) | (rw [if_neg (by decide +kernel)]; exact ⟨rfl, rfl⟩))
    (fun os started H enc _ F => by rw [OpenClaim.pre_eq_preRow]; exact puts_lifted os started H enc F)
theorem puts_plain (f : FuncId) (fn : Func) (hf : Tryd.pinned.checked.prog.funcNamed "pleacher/pleacherlaw09.PaxPuts" = some f) (hfn : Tryd.pinned.checked.prog.funcs[f]? = some fn) :
    true = Tryd.pinned.checked.prog.looks [] ∧ ∀ (j : Nat) t, fn.params[j]? = some t → Tryd.pinned.checked.prog.wantsStandIn t = false := by
  obtain rfl : f = 6 := Option.some.inj ((show Tryd.prog.funcNamed "pleacher/pleacherlaw09.PaxPuts" = some 6 by kernel_rfl).symm.trans hf) |>.symm
  obtain rfl : fn = Tryd.f6 := (Option.some.inj (Tryd.func6.symm.trans hfn)).symm
  refine ⟨by kernel_rfl, fun j t ht => ?_⟩
  rw [Tryd.params6] at ht
  have ht := Array.mem_of_getElem? ht
  simp only [List.mem_toArray, List.mem_cons, List.not_mem_nil, or_false] at ht
  rcases ht with rfl | rfl
  · exact (show Tryd.prog.wantsStandIn 23 = false by kernel_rfl)
  · exact (show Tryd.prog.wantsStandIn 9 = false by kernel_rfl)
/-- THE CARD of PaxPuts. -/
theorem puts_card : Rows.PaxPutsCardSaid :=
  Claim7.holds_tied_plain_at .later [] _ _ _ _ puts_said (fun _ h => by cases h) (by kernel_rfl) (fun _ h => by cases h) paxPuts_row_tie rfl ⟨rfl, rfl⟩ (by kernel_rfl) rfl puts_plain (by kernel_rfl)
end Go.Proofs.YtbcjhmeeonhmaaaDoor.H
end
