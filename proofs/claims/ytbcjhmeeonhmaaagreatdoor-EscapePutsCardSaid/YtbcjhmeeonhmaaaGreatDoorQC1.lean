/-
Part 1 of: The laws of escape: what their cards share.
-/
import Derived.Test.YtbcjhmeeonhmaaaGreatDoorProg
import Derived.WalkKit
import Derived.KernelRfl
import Derived.Lib.Hide
import Derived.Deep.Draws
import Derived.Deep.QuietTactic
import Derived.BigQuiet
import Derived.Lib.Builder
import Derived.Lib.FrozenHead
import Derived.Lib.OthersKept
import Derived.Defers
import Derived.Laws.Pointers
import Derived.Laws.LoneSync
import Derived.Laws.NewBlocks
import Derived.RegionTactic
import Derived.RegionCalls
import Derived.ChangeAlike
import Derived.RangeFuncNested
import Derived.RangeFuncBound
import Derived.RangeFuncCalls
import Derived.RangeFuncLeaves
import Derived.RangeFuncWrites
import Derived.Shelf.Abstract
import Derived.OwnWalkIn
import Derived.TacticsInMore
import Derived.LoopNIn
import Derived.LoopIn
import Derived.Scope
import Derived.RangeFuncRecord
import Derived.LoopN
import Derived.Stop.RegionWithIn
import Derived.Below
import Derived.Deep.AppendLies
import Derived.Maps.AppendAt
import Derived.OwnWalk
import Derived.Laws.BytesArg
import Derived.Laws.MakeOwn
import Derived.Laws.OwnMore
import Derived.Deep.OwnRows
import Derived.Tactics
import Derived.Lib.ConvBytes
import Derived.Laws.Slices
import Derived.RowKit3
import Derived.Deep.LoopGhost
import Derived.WideLaws
import Derived.Deep.DeepCutAuto
import Derived.Deep.CutBlock
import Derived.Deep.RegionHeld3
import Derived.Laws.Rows
import Derived.Lib.AppendStr
import Derived.ArgAppend
import Derived.Laws.IdiomCopy
import Derived.OrdersHeld
import Derived.Laws.BitsLemmas
import Derived.RowKit
import Derived.Test.YtbcjhmeeonhmaaaGreatDoorWWords
import Derived.Test.YtbcjhmeeonhmaaaGreatDoorWLast
import Derived.Test.YtbcjhmeeonhmaaaGreatDoorWTab
import Derived.Test.YtbcjhmeeonhmaaaGreatDoorWFour
import Derived.Test.YtbcjhmeeonhmaaaGreatDoorWQPut
import Derived.Test.YtbcjhmeeonhmaaaGreatDoorWApart
import Derived.Test.YtbcjhmeeonhmaaaGreatDoorWArr
import Derived.Test.YtbcjhmeeonhmaaaGreatDoorWZeros
import Derived.Test.YtbcjhmeeonhmaaaGreatDoorWFoot
import Derived.Test.YtbcjhmeeonhmaaaGreatDoorWKept
import Derived.Test.YtbcjhmeeonhmaaaGreatDoorWShare
import Derived.Test.YtbcjhmeeonhmaaaGreatDoorWN
import Derived.Test.YtbcjhmeeonhmaaaGreatDoorWFootNe
import Derived.Test.YtbcjhmeeonhmaaaGreatDoorWAt
import Derived.Test.YtbcjhmeeonhmaaaGreatDoorWEqStruct
import Derived.Test.YtbcjhmeeonhmaaaGreatDoorWRepsOne
import Derived.Test.YtbcjhmeeonhmaaaGreatDoorWInv
import Derived.Test.YtbcjhmeeonhmaaaGreatDoorWInvWords
import Derived.Test.YtbcjhmeeonhmaaaGreatDoorWGuard
import Derived.Test.YtbcjhmeeonhmaaaGreatDoorWNEv
import Derived.Test.YtbcjhmeeonhmaaaGreatDoorWMore
import Derived.RangeFuncBox
import Derived.Lib.SmallJoins
set_option linter.unusedVariables false
set_option linter.unusedSimpArgs false
/-
Small lemmas on worlds and values that the hand walks of this seat use. By this session.
-/
section
set_option linter.unusedVariables false
namespace Go.Proofs.YtbcjhmeeonhmaaaGreatDoor.H
open Go Go.RowKit

theorem ret_bool {a b : Bool} (h : a = b) : Ending.returned (.bool a) = .returned (.bool b) := by rw [h]
theorem ret_int {k : IntKind} {a b : Int} (h : a = b) : Ending.returned (.int k a) = .returned (.int k b) := by rw [h]
/-- What a cell holds, it holds in a later world. -/
theorem celB {w w1 : World} (h : Below w.heap.size w w1) {a : Addr} {v : Value} (hc : w.cell? a = some v) : w1.cell? a = some v :=
  (h.cell (World.block_lt_of_cell? w a hc)).trans hc
theorem below_tr {w w1 w2 : World} (h : Below w.heap.size w w1) (k : Below w1.heap.size w1 w2) : Below w.heap.size w w2 := h.trans (k.mono h.size)
theorem below_al {w w1 : World} (h : Below w.heap.size w w1) (o : Obj) : Below w.heap.size w (w1.alloc o) := h.alloc h.size o
theorem below_dr {B : Nat} {w w1 : World} (h : Below B w w1) : Below B w w1.drew := ⟨h.os, h.tape, h.output, h.size, h.block⟩
theorem below_drN {B : Nat} {w w1 : World} (h : Below B w w1) (n : Nat) : Below B w (w1.drewN n) := ⟨h.os, h.tape, h.output, h.size, h.block⟩
theorem below_one (w : World) (o : Obj) : Below w.heap.size w (w.alloc o) := (Below.refl _ w).alloc (Nat.le_refl _) o
theorem cel_al {w : World} {a : Addr} {v : Value} (h : w.cell? a = some v) (o : Obj) : (w.alloc o).cell? a = some v := celB (below_one w o) h
theorem cel_new (w : World) (cs : Array Value) (t : TypeId) (i : Nat) {v : Value} (h : cs[i]? = some v) : (w.alloc (.cells cs t)).cell? ⟨w.heap.size, i, none⟩ = some v := by rw [World.cell?_alloc_new]; exact h
theorem toList_data (s : ByteArray) : s.toList = s.data.toList := by first | exact ByteArray.toList_eq s | simp
theorem size_data (s : ByteArray) : s.data.toList.length = s.size := by rw [Array.length_toList]; rfl
end Go.Proofs.YtbcjhmeeonhmaaaGreatDoor.H
end

/-
(*strings.Builder).copyCheck and WriteString at this program. The lines of the shelf's proofs, turned to this dump.
-/
section
set_option linter.unusedVariables false
set_option maxRecDepth 100000
namespace Go.Proofs.YtbcjhmeeonhmaaaGreatDoor.H
open Go Go.RowKit

theorem sizeBuilder : (Tryz.prog.info? 47).map (·.size) = some 2 := by kernel_rfl
theorem infoByte : (Tryz.prog.info? 5).map (fun i => (i.zero, i.size, i.bytes)) = some (some (.int .u8 0), 1, 1) := by kernel_rfl

set_option maxHeartbeats 1000000 in
theorem copyCheck_used (b : Nat) (w : World) (h0 : w.cell? ⟨b, 0, none⟩ = some (.pointer (some ⟨b, 0, none⟩))) :
    Calls Tryz.prog 75 #[.pointer (some ⟨b, 0, none⟩)] w fun e w' => e = .returned (.tuple #[]) ∧ w' = w := by
  obtain ⟨j, hj, _⟩ := Option.map_eq_some_iff.1 sizeBuilder
  have hq := Lib.run_neq_ptr_same (P := Tryz.prog) w ⟨b, 0, none⟩ Tryz.underlying44 hj
  go_enter Tryz.func75, Tryz.ntmps75
  go_wp2
  try rw [hq]
  go_wp2
  go_end0
  exact ⟨rfl, rfl⟩

set_option maxHeartbeats 1000000 in
theorem copyCheck_fresh (b : Nat) (w : World) (h0 : w.cell? ⟨b, 0, none⟩ = some (.pointer none)) (hsh : w.shape? b = some (47, 2)) (hfz : w.frozen? ⟨b, 0, none⟩ = false) :
    Calls Tryz.prog 75 #[.pointer (some ⟨b, 0, none⟩)] w fun e w' => e = .returned (.tuple #[]) ∧ w' = w.setCell ⟨b, 0, none⟩ (.pointer (some ⟨b, 0, none⟩)) := by
  obtain ⟨j, hj, hjs⟩ := Option.map_eq_some_iff.1 sizeBuilder
  have g1 := Lib.run_to_unsafe (P := Tryz.prog) (src := 44) (dst := 125) w ⟨b, 0, none⟩ Tryz.underlying44 Tryz.underlying125 hj (by rw [hjs]; decide) hsh (Nat.zero_lt_succ 1)
  have g2 := fun args => @run_callFunc_extern Tryz.prog 99 _ Extern.AbiNoEscape.same Tryz.func99 (by kernel_rfl) (by kernel_rfl) (by kernel_rfl) (by kernel_rfl) args w
  have g4 : (Extern.AbiNoEscape.same #[.pointer (some ⟨b, 0, none⟩)]).run Tryz.prog w = .ok (.pointer (some ⟨b, 0, none⟩)) w := rfl
  have g3 := Lib.run_from_unsafe (P := Tryz.prog) (src := 125) (dst := 44) w ⟨b, 0, none⟩ Tryz.underlying125 Tryz.underlying44 hj hsh (by kernel_rfl)
  go_enter Tryz.func75, Tryz.ntmps75
  go_wp2
  go_end0
  exact ⟨rfl, rfl⟩
theorem copyCheck (B b : Nat) (bs : List Value) (w : World) (h : Lib.IsBuilderF 47 5 B b bs w) :
    Calls Tryz.prog 75 #[.pointer (some ⟨b, 0, none⟩)] w fun e w' => e = .returned (.tuple #[]) ∧ (Lib.BuilderAtF 47 5 B b (.pointer (some ⟨b, 0, none⟩)) bs w' ∧ Below B w w' ∧ Lib.OthersKept 5 (some b) w w') := by
  rcases h with h | h
  · refine (copyCheck_fresh b w h.cell0 h.shape h.frozen0).mono ?_
    rintro e w' ⟨rfl, rfl⟩
    exact ⟨rfl, h.used _, (Below.refl B w).setCell (p := ⟨b, 0, none⟩) h.1 _, (Lib.OthersKept.refl _ _ w).setCell ⟨b, 0, none⟩ rfl _⟩
  · refine (copyCheck_used b w h.cell0).mono ?_
    rintro e w' ⟨rfl, rfl⟩
    exact ⟨rfl, h, Below.refl B _, Lib.OthersKept.refl _ _ _⟩

end Go.Proofs.YtbcjhmeeonhmaaaGreatDoor.H
end

/-
sync.Once, by one goroutine: Do the first time, whatever function it is handed.
-/
section
set_option linter.unusedVariables false
set_option maxRecDepth 100000
namespace Go.Proofs.YtbcjhmeeonhmaaaGreatDoor.H
open Go Go.RowKit

theorem once_disable (w : World) : (callFunc 129 #[]).run Tryz.prog w = .ok (.value (.tuple #[])) w := run_call_mark0 Tryz.func129 (by kernel_rfl) (by kernel_rfl) (by kernel_rfl) .disable (by kernel_rfl) w
theorem once_enable (w : World) : (callFunc 131 #[]).run Tryz.prog w = .ok (.value (.tuple #[])) w := run_call_mark0 Tryz.func131 (by kernel_rfl) (by kernel_rfl) (by kernel_rfl) .enable (by kernel_rfl) w
theorem once_acquire (a : Addr) (w : World) : (callFunc 132 #[.pointer (some a)]).run Tryz.prog w = .ok (.value (.tuple #[])) w := run_call_marked Tryz.func132 (by kernel_rfl) (by kernel_rfl) (by kernel_rfl) .acquire (by kernel_rfl) a w
theorem once_release (a : Addr) (w : World) : (callFunc 134 #[.pointer (some a)]).run Tryz.prog w = .ok (.value (.tuple #[])) w := run_call_marked Tryz.func134 (by kernel_rfl) (by kernel_rfl) (by kernel_rfl) .releaseMerge (by kernel_rfl) a w

/-- '(*sync/atomic.Bool).Store(true)', entered as a deferred call: the cell holds 1. -/
theorem once_store (a : Addr) (x : Value) (u : FrameMode) (w : World) (hc : w.cell? a = some x) (hz : w.frozen? a = false) :
    CallsD Tryz.prog 106 #[.pointer (some a), .bool true] u w fun e u' w' => u' = u ∧ (e = .returned (.tuple #[]) ∧ w' = w.drew.setCell a (.int .u32 1)) := by
  have hc' : w.drew.cell? a = some x := by go_simp
  have hz' : w.drew.frozen? a = false := by go_simp
  have hst := run_call_store (P := Tryz.prog) Tryz.func120 (by kernel_rfl) (by kernel_rfl) (by kernel_rfl) (by kernel_rfl) (k := .u32) (y := 1) hc' hz'
  go_enter_d Tryz.func106, Tryz.ntmps106
  go_wp2
  go_region_calls
  all_goals (go_end0; exact ⟨rfl, rfl⟩)
/-- '(*sync.Mutex).Unlock', entered as a deferred call, the lock held and nobody waiting: state 0. -/
theorem once_unlock (a : Addr) (u : FrameMode) (w : World) (hc : w.cell? a = some (.int .i32 1)) (hz : w.frozen? a = false) :
    CallsD Tryz.prog 105 #[.pointer (some a)] u w fun e u' w' => u' = u ∧ (e = .returned (.tuple #[]) ∧ w' = w.setCell a (.int .i32 0)) := by
  have hd := once_disable
  have he := once_enable
  have hr := once_release
  have hadd := run_call_add (P := Tryz.prog) Tryz.func135 (by kernel_rfl) (by kernel_rfl) (by kernel_rfl) .i32 (by kernel_rfl) (y := -1) (s := 0) hc hz (by simp [go_sem]; rfl)
  have hcv := run_convert_to_unsafe (P := Tryz.prog) (src := 206) (dst := 125) Tryz.underlying206 Tryz.underlying125 (by kernel_rfl) hc
  go_enter_d Tryz.func105, Tryz.ntmps105
  go_wp2
  go_end0
  go_wp2
  go_end0
  exact ⟨rfl, rfl⟩
/-- '(*sync.Mutex).Lock', the lock free: state 1. -/
theorem once_lock (a : Addr) (w : World) (hc : w.cell? a = some (.int .i32 0)) (hz : w.frozen? a = false) :
    Calls Tryz.prog 104 #[.pointer (some a)] w fun e w' => e = .returned (.tuple #[]) ∧ w' = w.setCell a (.int .i32 1) := by
  have hd := once_disable
  have he := once_enable
  have ha := once_acquire
  have hcas := run_call_cas_hit (P := Tryz.prog) Tryz.func130 (by kernel_rfl) (by kernel_rfl) (by kernel_rfl) .i32 (by kernel_rfl) (y := 1) hc hz
  have hc' : (w.setCell a (.int .i32 1)).cell? a = some (.int .i32 1) := World.cell?_setCell_same w a _ hc
  have hcv := run_convert_to_unsafe (P := Tryz.prog) (src := 206) (dst := 125) Tryz.underlying206 Tryz.underlying125 (by kernel_rfl) hc'
  go_enter Tryz.func104, Tryz.ntmps104
  go_wp2
  first | go_end0 | (simp only [Exit.inBlock, Exit.then]; refine bodyPost_ret (results_none rfl _ _ _) rfl ?_) | refine bodyPost_ret (results_none rfl _ _ _) rfl ?_
  go_wp2
  go_end0
  exact ⟨rfl, rfl⟩
/-- What the function that Do is handed does: with the lock held; it leaves the Once's cells alone. -/
def OnceRuns (b : Nat) (g : FuncId) (cap : Array Value) (w : World) (Q : World → Prop) : Prop :=
  ∀ w1, w1 = w.setCell ⟨b, 1, none⟩ (.int .i32 1) → Calls Tryz.prog g cap w1 fun e w2 => e = .returned (.tuple #[]) ∧
    w2.cell? ⟨b, 0, none⟩ = some (.int .u32 0) ∧ w2.cell? ⟨b, 1, none⟩ = some (.int .i32 1) ∧ w2.frozen? ⟨b, 0, none⟩ = false ∧ w2.frozen? ⟨b, 1, none⟩ = false ∧ Q w2
def OnceEnd (b : Nat) (Q : World → Prop) (e : Ending) (w' : World) : Prop :=
  e = .returned (.tuple #[]) ∧ ∃ w2, Q w2 ∧ w' = (w2.drew.setCell ⟨b, 0, none⟩ (.int .u32 1)).setCell ⟨b, 1, none⟩ (.int .i32 0)

def Enters (g : FuncId) (cap : Array Value) : Prop := ∀ w : World, (callFunc g cap).run Tryz.prog w = .ok (.enter g cap) w
set_option maxHeartbeats 1600000 in
theorem once_slow (b : Nat) (g : FuncId) (cap : Array Value) (w : World) (Q : World → Prop) (hen : Enters g cap)
    (h0 : w.cell? ⟨b, 0, none⟩ = some (.int .u32 0)) (h1 : w.cell? ⟨b, 1, none⟩ = some (.int .i32 0)) (f0 : w.frozen? ⟨b, 0, none⟩ = false) (f1 : w.frozen? ⟨b, 1, none⟩ = false)
    (hg : OnceRuns b g cap w Q) : Calls Tryz.prog 84 #[.pointer (some ⟨b, 0, none⟩), .func (.func g) #[] cap] w (OnceEnd b Q) := by
  have hl := run_call_load (P := Tryz.prog) Tryz.func103 (by kernel_rfl) (by kernel_rfl) (by kernel_rfl) .u32 (by kernel_rfl) (w := w.setCell ⟨b, 1, none⟩ (.int .i32 1)) (a := ⟨b, 0, none⟩) (x := 0) ((World.cell?_setCell_other _ ⟨b, 1, none⟩ ⟨b, 0, none⟩ _ (by simp)).trans h0)
  have hnot : ∀ (x : Bool) (w : World), (Op.unary .not (.bool x)).run Tryz.prog w = .ok (.bool (!x)) w := fun _ _ => rfl
  have HGo := Lib.hid (hg _ rfl)
  clear hg
  have hen' : ∀ w : World, (callFunc g cap).run Tryz.prog w = .ok (.enter g cap) w := hen
  go_enter_defers Tryz.func84, Tryz.ntmps84
  go_wp2_with (first | (go_at_call 104; refine (once_lock ⟨b, 1, none⟩ _ (by go_simp) (by go_simp)).mono ?_; rintro e w' ⟨rfl, rfl⟩) | (go_at_call 83; go_in))
  refine HGo.out.mono ?_
  rintro e w2 ⟨rfl, k0, k1, z0, z1, hQ⟩
  clear hl HGo h0 h1 f0 f1
  go_wp2
  refine leaves_cons (f := 106) (args := #[.pointer (some ⟨b, 0, none⟩), .bool true]) (by simp) (by simp [go_sem]) ?_
  refine (once_store ⟨b, 0, none⟩ (.int .u32 0) .returning _ k0 z0).mono ?_
  rintro e u' w'' ⟨rfl, rfl, rfl⟩
  refine leaves_cons (f := 105) (args := #[.pointer (some ⟨b, 1, none⟩)]) (by simp [settle]) (by simp [go_sem]) ?_
  refine (once_unlock ⟨b, 1, none⟩ _ _ ?_ (by simp [z1])).mono ?_
  · refine (World.cell?_setCell_other _ ⟨b, 0, none⟩ ⟨b, 1, none⟩ _ (by simp)).trans ?_
    rw [World.cell?_drew]
    exact k1
  rintro e u' w'' ⟨rfl, rfl, rfl⟩
  simp [Leaves, settle, results, Tryz.results84]
  exact ⟨rfl, w2, hQ, rfl⟩
/-- '(*sync.Once).Do', not yet done, the lock free. -/
theorem once_do (b : Nat) (g : FuncId) (cap : Array Value) (w : World) (Q : World → Prop) (hen : Enters g cap)
    (h0 : w.cell? ⟨b, 0, none⟩ = some (.int .u32 0)) (h1 : w.cell? ⟨b, 1, none⟩ = some (.int .i32 0)) (f0 : w.frozen? ⟨b, 0, none⟩ = false) (f1 : w.frozen? ⟨b, 1, none⟩ = false)
    (hg : OnceRuns b g cap w Q) : Calls Tryz.prog 56 #[.pointer (some ⟨b, 0, none⟩), .func (.func g) #[] cap] w (OnceEnd b Q) := by
  have hl := run_call_load (P := Tryz.prog) Tryz.func103 (by kernel_rfl) (by kernel_rfl) (by kernel_rfl) .u32 (by kernel_rfl) h0
  have hnot : ∀ (x : Bool) (w : World), (Op.unary .not (.bool x)).run Tryz.prog w = .ok (.bool (!x)) w := fun _ _ => rfl
  have HS := Lib.hid (once_slow b g cap w Q hen h0 h1 f0 f1 hg)
  clear hg hen
  go_enter Tryz.func56, Tryz.ntmps56
  go_wp2_with (first | (go_at_call 83; go_in))
  refine HS.out.mono ?_
  rintro e w' ⟨rfl, hq⟩
  go_wp2
  go_end0
  exact ⟨rfl, hq⟩
end Go.Proofs.YtbcjhmeeonhmaaaGreatDoor.H
end

section
set_option linter.unusedVariables false
namespace Go.Proofs.YtbcjhmeeonhmaaaGreatDoor.H
open Go Go.RowKit

/-- One span holds r. -/
def inB (r lo hi : Int) : Bool := decide (lo ≤ r) && decide (r ≤ hi)

set_option maxHeartbeats 400000 in
theorem isIn1 (r lo hi : Int) (B : Nat) (w : World) (hc : w.cell? ⟨B, 0, none⟩ = some (.int .i64 r)) (hlo : -2147483648 ≤ lo ∧ lo ≤ 2147483647) (hhi : -2147483648 ≤ hi ∧ hi ≤ 2147483647) :
    Calls Tryz.prog 63 #[.agg #[.int .i32 lo, .int .i32 hi], .pointer (some ⟨B, 0, none⟩)] w fun e w' => e = .returned (.bool (inB r lo hi)) ∧ Below w.heap.size w w' := by
  have hb := World.block_lt_of_cell? w _ hc
  by_cases h1 : lo ≤ r
  · go_enter Tryz.func63, Tryz.ntmps63
    go_wp2
    go_ret
    exact ⟨ret_bool (by simp [inB, h1]), (Below.refl _ _).alloc (Nat.le_refl _) _⟩
  · go_enter Tryz.func63, Tryz.ntmps63
    go_wp2
    go_ret
    exact ⟨ret_bool (by have : decide (lo ≤ r) = false := by simpa using h1
                        simp [inB, this]), (Below.refl _ _).alloc (Nat.le_refl _) _⟩

def idxB (r : Int) : List (Int × Int) → Nat → Int
  | [], _ => -1
  | x :: t, k => if inB r x.1 x.2 = true then k else idxB r t (k + 1)
def anyB (r : Int) (xs : List (Int × Int)) : Bool := xs.any fun x => inB r x.1 x.2
theorem idxB_any (r : Int) (xs : List (Int × Int)) (k : Nat) : decide (0 ≤ idxB r xs k) = anyB r xs := by
  induction xs generalizing k with
  | nil => rfl
  | cons x t ih =>
    unfold idxB anyB
    simp only [List.any_cons]
    by_cases h : inB r x.1 x.2 = true
    · rw [if_pos h, h]; simp
    · rw [if_neg h]; simp only [Bool.not_eq_true] at h; rw [h]; simpa [anyB] using ih (k + 1)
def SpansAt (w : World) (b : Addr) (xs : List (Int × Int)) : Prop :=
  ∀ j (h : j < xs.length), w.cell? (b.add (j * 2)) = some (.int .i32 xs[j].1) ∧ w.cell? ⟨(b.add (j * 2)).block, (b.add (j * 2)).off + 1, none⟩ = some (.int .i32 xs[j].2)
def SpansOk (xs : List (Int × Int)) : Prop := ∀ x ∈ xs, (-2147483648 ≤ x.1 ∧ x.1 ≤ 2147483647) ∧ (-2147483648 ≤ x.2 ∧ x.2 ≤ 2147483647)
instance (xs : List (Int × Int)) : Decidable (SpansOk xs) := by unfold SpansOk; infer_instance
def RetI (n : Int) (w : World) (e : Ending) (w' : World) : Prop := e = .returned (.int .i64 n) ∧ Below w.heap.size w w'

set_option maxHeartbeats 400000 in
theorem indexFunc (r : Int) (xs : List (Int × Int)) (B : Nat) (b : Addr) (c : Nat) (w : World) (hc : w.cell? ⟨B, 0, none⟩ = some (.int .i64 r)) (hx : SpansAt w b xs) (hok : SpansOk xs) (hl : xs.length ≤ 1000) :
    Calls Tryz.prog 89 #[.slice (some b) xs.length c, .func (.func 63) #[] #[.pointer (some ⟨B, 0, none⟩)]] w
      (RetI (idxB r xs 0) w) := by
  have HX := Lib.hid hx
  have hbB := World.block_lt_of_cell? w _ hc
  clear hx
  go_enter Tryz.func89, Tryz.ntmps89
  go_wp2
  go_loopw [5, 8] (fun _ i wr => ∃ k : Nat, k ≤ xs.length ∧ i = .int .i64 k ∧ Hid (idxB r (xs.drop k) k = idxB r xs 0) ∧ Below w.heap.size w wr) (fun _ i _ => xs.length - (intOf i).toNat)
  case atStart => exact ⟨0, by omega, rfl, Lib.hid rfl, Below.refl _ _⟩
  case round =>
    obtain ⟨k, hk, rfl, hI, hB⟩ := hrel
    by_cases hlt : k < xs.length
    · have h12 := HX.out k hlt
      have c1 := celB hB h12.1
      have c2 := celB hB h12.2
      have c3 := (hB.cell (p := ⟨B, 0, none⟩) hbB).trans hc
      have o := hok xs[k] (List.getElem_mem _)
      have hd := List.drop_eq_getElem_cons hlt
      have hI2 : idxB r (xs.drop k) k = if inB r xs[k].1 xs[k].2 = true then (k : Int) else idxB r (xs.drop (k + 1)) (k + 1) := by rw [hd]; rfl
      have HI2 := Lib.hid hI2
      clear hI2 hd
      go_wp2_with fail
      refine (isIn1 r _ _ B wr c3 o.1 o.2).mono ?_
      rintro e w1 ⟨rfl, hb1⟩
      have hB1 : Below w.heap.size w w1 := hB.trans (hb1.mono hB.size)
      cases hin : inB r xs[k].1 xs[k].2
      · have HH := Lib.hid hin
        clear hin
        go_wp2
        go_roundw
        case rel => exact ⟨k + 1, by omega, by go_num, Lib.hid (by rw [← hI.out, HI2.out, HH.out]; rfl), hB1⟩
        case measure => simp [intOf]; omega
      · have HH := Lib.hid hin
        clear hin
        go_wp2
        go_ret
        exact ⟨by rw [← hI.out, HI2.out, HH.out]; rfl, hB1⟩
    · go_wp2
      go_ret
      exact ⟨by rw [← hI.out, List.drop_of_length_le (by omega)]; rfl, hB⟩

set_option maxHeartbeats 400000 in
theorem containsFunc (r : Int) (xs : List (Int × Int)) (B : Nat) (b : Addr) (c : Nat) (w : World) (hc : w.cell? ⟨B, 0, none⟩ = some (.int .i64 r)) (hx : SpansAt w b xs) (hok : SpansOk xs) (hl : xs.length ≤ 1000) :
    Calls Tryz.prog 62 #[.slice (some b) xs.length c, .func (.func 63) #[] #[.pointer (some ⟨B, 0, none⟩)]] w
      fun e w' => e = .returned (.bool (anyB r xs)) ∧ Below w.heap.size w w' := by
  go_enter Tryz.func62, Tryz.ntmps62
  go_wp2_with fail
  refine (indexFunc r xs B b c w hc hx hok hl).mono ?_
  rintro e w1 ⟨rfl, hb1⟩
  go_wp2
  go_ret
  exact ⟨ret_bool (by rw [← idxB_any r xs 0]), hb1⟩

theorem spansAt_below {w w1 : World} {b : Addr} {xs : List (Int × Int)} (h : SpansAt w b xs) (hb : Below w.heap.size w w1) : SpansAt w1 b xs := fun j hj => ⟨celB hb (h j hj).1, celB hb (h j hj).2⟩

set_option maxHeartbeats 400000 in
theorem isIn (r : Int) (xs : List (Int × Int)) (b : Addr) (c : Nat) (w : World) (hx : SpansAt w b xs) (hok : SpansOk xs) (hl : xs.length ≤ 1000) :
    Calls Tryz.prog 39 #[.int .i64 r, .slice (some b) xs.length c] w
      fun e w' => e = .returned (.bool (anyB r xs)) ∧ Below w.heap.size w w' := by
  have H2 := Lib.hid (spansAt_below hx (below_one w (.cells #[.int .i64 r] 3)))
  have H3 := Lib.hid (cel_new w #[.int .i64 r] 3 0 rfl)
  go_enter Tryz.func39, Tryz.ntmps39
  go_wp2_with fail
  refine (containsFunc r xs _ b c _ H3.out H2.out hok hl).mono ?_
  rintro e w1 ⟨rfl, hb1⟩
  go_wp2
  go_ret
  exact ⟨rfl, below_tr (below_one _ _) hb1⟩
end Go.Proofs.YtbcjhmeeonhmaaaGreatDoor.H
end

/-
utf.known, IsChar, walked.
-/
section
set_option linter.unusedVariables false
set_option maxRecDepth 100000
namespace Go.Proofs.YtbcjhmeeonhmaaaGreatDoor.H
open Go Go.RowKit

/-- XML's runes. -/
def charL : List (Int × Int) := [(9, 10), (13, 13), (32, 55295), (57344, 65533), (65536, 1114111)]
def ob1 : Obj := .cells #[.int .i32 9, .int .i32 10, .int .i32 13, .int .i32 13, .int .i32 32, .int .i32 55295, .int .i32 57344, .int .i32 65533, .int .i32 65536, .int .i32 1114111] 113
def ob2 : Obj := .cells #[.int .i32 58, .int .i32 58, .int .i32 65, .int .i32 90, .int .i32 95, .int .i32 95, .int .i32 97, .int .i32 122, .int .i32 192, .int .i32 214, .int .i32 216, .int .i32 246, .int .i32 248, .int .i32 767, .int .i32 880, .int .i32 893, .int .i32 895, .int .i32 8191, .int .i32 8204, .int .i32 8205, .int .i32 8304, .int .i32 8591, .int .i32 11264, .int .i32 12271, .int .i32 12289, .int .i32 55295, .int .i32 63744, .int .i32 64975, .int .i32 65008, .int .i32 65533, .int .i32 65536, .int .i32 983039] 113
def ob3 : Obj := .cells #[.int .i32 45, .int .i32 46, .int .i32 48, .int .i32 57, .int .i32 183, .int .i32 183, .int .i32 768, .int .i32 879, .int .i32 8255, .int .i32 8256] 113
theorem spans_char {w : World} {c : Nat} (h : w.heap[c]? = some ob1) : SpansAt w ⟨c, 0, none⟩ charL := by
  unfold ob1 at h
  intro j hj
  have hj5 : j < 5 := hj
  have : j = 0 ∨ j = 1 ∨ j = 2 ∨ j = 3 ∨ j = 4 := by omega
  rcases this with rfl | rfl | rfl | rfl | rfl <;> simp [World.cell?, h, charL, Addr.add]
theorem heap_old {w : World} {i : Nat} {o : Obj} (h : w.heap[i]? = some o) (o' : Obj) : (w.alloc o').heap[i]? = some o := by
  have hlt : i < w.heap.size := (Array.getElem?_eq_some_iff.1 h).1
  show (w.heap.push o')[i]? = some o
  rw [Array.getElem?_push_lt hlt, ← Array.getElem?_eq_getElem hlt]; exact h
theorem heap_new (w : World) (o : Obj) : (w.alloc o).heap[w.heap.size]? = some o := by
  show (w.heap.push o)[w.heap.size]? = some o
  simp
theorem heap_set_ne {w : World} {i : Nat} {a : Addr} {v : Value} {o : Obj} (h : w.heap[i]? = some o) (hne : a.block ≠ i) : (w.setCell a v).heap[i]? = some o := by
  rw [heap_setCell_other _ _ _ _ (fun e => hne e.symm)]; exact h
theorem row_put {w W : World} {b : Nat} (h : w.grownBy W (some b)) (o : Obj) (i : Nat) (v : Value) : w.grownBy ((W.alloc o).setCell ⟨b, i, none⟩ v) (some b) := by
  refine ⟨h.os, h.tape, h.output, by have := h.size; simp [World.setCell]; omega, fun k hk hr => ?_⟩
  have hb : k ≠ b := fun e => hr (by rw [e])
  rw [heap_setCell_other _ _ _ _ (by simpa using hb)]
  have hlt : k < W.heap.size := Nat.lt_of_lt_of_le hk h.size
  have := heap_old (w := W) (i := k) (o := W.heap[k]) (by rw [Array.getElem?_eq_getElem hlt]) o
  rw [this, ← h.block k hk hr, Array.getElem?_eq_getElem hlt]
theorem row_refl (w : World) (r : Option Nat) : w.grownBy w r := ⟨rfl, rfl, rfl, Nat.le_refl _, fun _ _ _ => rfl⟩

/-- What the classes' closure leaves. -/
def Fill1 (b : Nat) (s : Value) (w w' : World) : Prop := w.grownBy w' (some b) ∧ ∃ (c : Nat) (v1 v2 : Value), w'.heap[b]? = some (.cells #[.int .u32 0, .int .i32 1, s, .slice (some ⟨c, 0, none⟩) 5 5, v1, v2] 90) ∧ w'.heap[c]? = some ob1 ∧ w.heap.size ≤ c
set_option maxHeartbeats 4000000 in
theorem classes_fill1 (b pl : Nat) (s x3 x4 x5 : Value) (w : World) (hne : pl ≠ b) (hp : w.cell? ⟨pl, 0, none⟩ = some (.pointer (some ⟨b, 0, none⟩))) (hz : w.heap[b]? = some (.cells #[.int .u32 0, .int .i32 1, s, x3, x4, x5] 90)) :
    Calls Tryz.prog 90 #[.pointer (some ⟨pl, 0, none⟩)] w fun e w' => e = .returned (.tuple #[]) ∧ Fill1 b s w w' := by
  have hbl : b < w.heap.size := (Array.getElem?_eq_some_iff.1 hz).1
  have hpl : pl < w.heap.size := World.block_lt_of_cell? w _ hp
  have z1 := heap_old hz ob1
  obtain ⟨W1, hW1⟩ : ∃ W1, (w.alloc ob1).setCell ⟨b, 3, none⟩ (.slice (some ⟨w.heap.size, 0, none⟩) 5 5) = W1 := ⟨_, rfl⟩
  have y1 : W1.heap[b]? = some (.cells #[.int .u32 0, .int .i32 1, s, .slice (some ⟨w.heap.size, 0, none⟩) 5 5, x4, x5] 90) := by rw [← hW1]; simp [World.setCell, Array.getElem?_modify, z1]
  have n1 : W1.heap[w.heap.size]? = some ob1 := by rw [← hW1]; exact heap_set_ne (heap_new w ob1) (by simp only []; omega)
  have g1 : w.grownBy W1 (some b) := by rw [← hW1]; exact row_put (row_refl w _) _ _ _
  have p1 : W1.cell? ⟨pl, 0, none⟩ = some (.pointer (some ⟨b, 0, none⟩)) := by
    rw [World.cell?_of_block (g1.block pl hpl (by simpa using hne))]; exact hp
  have z2 := heap_old y1 ob2
  have b1 : W1.heap.size = w.heap.size + 1 := by rw [← hW1]; simp [World.setCell]
  obtain ⟨W2, hW2⟩ : ∃ W2, (W1.alloc ob2).setCell ⟨b, 4, none⟩ (.slice (some ⟨W1.heap.size, 0, none⟩) 16 16) = W2 := ⟨_, rfl⟩
  have y2 : W2.heap[b]? = some (.cells #[.int .u32 0, .int .i32 1, s, .slice (some ⟨w.heap.size, 0, none⟩) 5 5, .slice (some ⟨W1.heap.size, 0, none⟩) 16 16, x5] 90) := by rw [← hW2]; simp [World.setCell, Array.getElem?_modify, z2]
  have n2 : W2.heap[w.heap.size]? = some ob1 := by rw [← hW2]; exact heap_set_ne (heap_old n1 _) (by simp only []; omega)
  have g2 : w.grownBy W2 (some b) := by rw [← hW2]; exact row_put g1 _ _ _
  have p2 : W2.cell? ⟨pl, 0, none⟩ = some (.pointer (some ⟨b, 0, none⟩)) := by
    rw [World.cell?_of_block (g2.block pl hpl (by simpa using hne))]; exact hp
  have z3 := heap_old y2 ob3
  have b2 : W2.heap.size = w.heap.size + 2 := by rw [← hW2]; simp [World.setCell, b1]
  obtain ⟨W3, hW3⟩ : ∃ W3, (W2.alloc ob3).setCell ⟨b, 5, none⟩ (.slice (some ⟨W2.heap.size, 0, none⟩) 5 5) = W3 := ⟨_, rfl⟩
  have y3 : W3.heap[b]? = some (.cells #[.int .u32 0, .int .i32 1, s, .slice (some ⟨w.heap.size, 0, none⟩) 5 5, .slice (some ⟨W1.heap.size, 0, none⟩) 16 16, .slice (some ⟨W2.heap.size, 0, none⟩) 5 5] 90) := by rw [← hW3]; simp [World.setCell, Array.getElem?_modify, z3]
  have n3 : W3.heap[w.heap.size]? = some ob1 := by rw [← hW3]; exact heap_set_ne (heap_old n2 _) (by simp only []; omega)
  have g3 : w.grownBy W3 (some b) := by rw [← hW3]; exact row_put g2 _ _ _
  have HE := Lib.hid (show Fill1 b s w W3 from ⟨g3, _, _, _, y3, n3, Nat.le_refl _⟩)
  have c3 : (w.alloc ob1).cell? ⟨b, 3, none⟩ = some x3 := by simp [World.cell?, z1]
  have f3 : (w.alloc ob1).frozen? ⟨b, 3, none⟩ = false := by simp [World.frozen?, z1]
  have c4 : (W1.alloc ob2).cell? ⟨b, 4, none⟩ = some x4 := by simp [World.cell?, z2]
  have f4 : (W1.alloc ob2).frozen? ⟨b, 4, none⟩ = false := by simp [World.frozen?, z2]
  have c5 : (W2.alloc ob3).cell? ⟨b, 5, none⟩ = some x5 := by simp [World.cell?, z3]
  have f5 : (W2.alloc ob3).frozen? ⟨b, 5, none⟩ = false := by simp [World.frozen?, z3]
  clear y1 n1 g1 y2 n2 g2 y3 n3 g3 z1 z2 z3 b1 b2 hz
  unfold ob1 ob2 ob3 at *
  go_enter Tryz.func90, Tryz.ntmps90
  go_wp2
  go_end0
  exact ⟨rfl, HE.out⟩
theorem enters {g : FuncId} {fn : Func} (cap : Array Value) (hf : Tryz.prog.funcs[g]? = some fn) (hn : (fn.name == "runtime.NumGoroutine") = false) (hb : fn.body.isNone = false) : Enters g cap := fun w => by
  have h1 : ¬ fn.name = "runtime.NumGoroutine" := by simpa using hn
  have h2 : ¬ fn.body = none := by intro e; rw [e] at hb; cases hb
  simp [callFunc, go_sem, hf, h1, h2]
theorem setCell_size (w : World) (a : Addr) (v : Value) : (w.setCell a v).heap.size = w.heap.size := by simp [World.setCell]
/-- The classes' block, filled. -/
def Cls (b : Nat) (w : World) : Prop := ∃ c : Nat, w.cell? ⟨b, 3, none⟩ = some (.slice (some ⟨c, 0, none⟩) 5 5) ∧ SpansAt w ⟨c, 0, none⟩ charL
theorem row_two {w W : World} {b : Nat} (h : w.grownBy W (some b)) (i j : Nat) (u v : Value) : w.grownBy ((W.drew.setCell ⟨b, i, none⟩ u).setCell ⟨b, j, none⟩ v) (some b) := by
  refine ⟨h.os, by show W.drew.tape = _; exact h.tape, h.output, by rw [setCell_size, setCell_size]; exact h.size, fun k hk hr => ?_⟩
  have hb : k ≠ b := fun e => hr (by rw [e])
  rw [heap_setCell_other _ _ _ _ (by simpa using hb), heap_setCell_other _ _ _ _ (by simpa using hb)]
  exact h.block k hk hr
set_option maxHeartbeats 4000000 in
theorem classes_fill (b : Nat) (s x3 x4 x5 : Value) (w : World) (hz : w.heap[b]? = some (.cells #[.int .u32 0, .int .i32 0, s, x3, x4, x5] 90)) :
    Calls Tryz.prog 64 #[.pointer (some ⟨b, 0, none⟩)] w fun e w' => e = .returned (.pointer (some ⟨b, 0, none⟩)) ∧ Cls b w' ∧ w.grownBy w' (some b) := by
  have hmf : ∀ (fn : Fn) (first cap : Array Value) (w : World), (Instr.makeFunc fn first cap).run Tryz.prog w = .ok (.func fn first cap) w := fun _ _ _ _ => rfl
  have hbl : b < w.heap.size := (Array.getElem?_eq_some_iff.1 hz).1
  obtain ⟨W0, hW0⟩ : ∃ W0, w.alloc (.cells #[.pointer (some ⟨b, 0, none⟩)] 91) = W0 := ⟨_, rfl⟩
  have n0 : W0.heap[w.heap.size]? = some (.cells #[.pointer (some ⟨b, 0, none⟩)] 91) := by rw [← hW0]; exact heap_new _ _
  have z0 : W0.heap[b]? = some (.cells #[.int .u32 0, .int .i32 0, s, x3, x4, x5] 90) := by rw [← hW0]; exact heap_old hz _
  have g0 : w.grownBy W0 (some b) := by
    rw [← hW0]
    exact ⟨rfl, rfl, rfl, by simp, fun k hk _ => by
      have := heap_old (w := w) (i := k) (o := w.heap[k]) (by rw [Array.getElem?_eq_getElem hk]) (.cells #[.pointer (some ⟨b, 0, none⟩)] 91)
      rw [this, Array.getElem?_eq_getElem hk]⟩
  have hs0 : W0.heap.size = w.heap.size + 1 := by rw [← hW0]; simp
  have p0 : W0.cell? ⟨w.heap.size, 0, none⟩ = some (.pointer (some ⟨b, 0, none⟩)) := by simp [World.cell?, n0]
  have run : OnceRuns b 90 #[.pointer (some ⟨w.heap.size, 0, none⟩)] W0 (fun w2 => Fill1 b s (W0.setCell ⟨b, 1, none⟩ (.int .i32 1)) w2) := by
    intro w1 hw1
    have hz1 : w1.heap[b]? = some (.cells #[.int .u32 0, .int .i32 1, s, x3, x4, x5] 90) := by rw [hw1]; simp [World.setCell, Array.getElem?_modify, z0]
    have hp1 : w1.cell? ⟨w.heap.size, 0, none⟩ = some (.pointer (some ⟨b, 0, none⟩)) := by
      rw [hw1, World.cell?_setCell_other _ _ _ _ (by first | (simp; done) | (simp; omega))]; exact p0
    refine (classes_fill1 b w.heap.size s x3 x4 x5 w1 (by omega) hp1 hz1).mono ?_
    rintro e w2 ⟨rfl, hF⟩
    obtain ⟨hg, c, v1, v2, h1, h2, h3⟩ := hF
    refine ⟨rfl, by simp [World.cell?, h1], by simp [World.cell?, h1], by simp [World.frozen?, h1], by simp [World.frozen?, h1], ?_⟩
    rw [← hw1]
    exact ⟨hg, c, v1, v2, h1, h2, h3⟩
  have HO := Lib.hid (once_do b _ _ W0 _ (enters _ Tryz.func90 (by kernel_rfl) (by kernel_rfl)) (by simp [World.cell?, z0]) (by simp [World.cell?, z0]) (by simp [World.frozen?, z0]) (by simp [World.frozen?, z0]) run)
  clear run
  go_enter Tryz.func64, Tryz.ntmps64
  go_wp2_with fail
  refine HO.out.mono ?_
  rintro e W3 ⟨rfl, w2, hF, hW3⟩
  replace hW3 := hW3.symm
  obtain ⟨hg, c, v1, v2, h1, h2, h3⟩ := hF
  have hd1 : w2.drew.heap[b]? = some (.cells #[.int .u32 0, .int .i32 1, s, .slice (some ⟨c, 0, none⟩) 5 5, v1, v2] 90) := h1
  have k1 : W3.heap[b]? = some (.cells #[.int .u32 1, .int .i32 0, s, .slice (some ⟨c, 0, none⟩) 5 5, v1, v2] 90) := by rw [← hW3]; simp [World.setCell, Array.getElem?_modify, hd1]
  have hsz : (W0.setCell ⟨b, 1, none⟩ (.int .i32 1)).heap.size = W0.heap.size := by simp [World.setCell]
  have k2 : W3.heap[c]? = some ob1 := by
    rw [← hW3]
    exact heap_set_ne (heap_set_ne (show w2.drew.heap[c]? = some ob1 from h2) (by simp only []; omega)) (by simp only []; omega)
  have gw : w.grownBy W3 (some b) := by
    have hg0 : w.grownBy (W0.setCell ⟨b, 1, none⟩ (.int .i32 1)) (some b) := ⟨g0.os, g0.tape, g0.output, by rw [hsz]; exact g0.size, fun k hk hr => by
      have hb : k ≠ b := fun e => hr (by rw [e])
      rw [heap_setCell_other _ _ _ _ (by simpa using hb)]; exact g0.block k hk hr⟩
    have hg2 : w.grownBy w2 (some b) := ⟨hg.os.trans hg0.os, hg.tape.trans hg0.tape, hg.output.trans hg0.output, Nat.le_trans hg0.size hg.size, fun k hk hr => (hg.block k (Nat.lt_of_lt_of_le hk hg0.size) hr).trans (hg0.block k hk hr)⟩
    rw [← hW3]; exact row_two hg2 _ _ _ _
  have pl : W3.cell? ⟨w.heap.size, 0, none⟩ = some (.pointer (some ⟨b, 0, none⟩)) := by
    have e1 : w2.heap[w.heap.size]? = W0.heap[w.heap.size]? := (hg.block w.heap.size (by rw [hsz]; omega) (by simp; omega)).trans (heap_setCell_other _ _ _ _ (by simp only []; omega))
    have e2 : W3.heap[w.heap.size]? = some (.cells #[.pointer (some ⟨b, 0, none⟩)] 91) := by
      rw [← hW3]
      exact heap_set_ne (heap_set_ne (show w2.drew.heap[w.heap.size]? = _ from e1.trans n0) (by simp only []; omega)) (by simp only []; omega)
    simp [World.cell?, e2]
  have HE := Lib.hid (show Cls b W3 ∧ w.grownBy W3 (some b) from ⟨⟨c, by simp [World.cell?, k1], spans_char k2⟩, gw⟩)
  clear hd1 k1 k2 gw h1 h2 hg HO hW3
  go_wp2
  go_ret
  exact ⟨rfl, HE.out⟩
set_option maxHeartbeats 1000000 in
theorem known (w : World) : Calls Tryz.prog 40 #[] w fun e w' => ∃ b : Nat, e = .returned (.pointer (some ⟨b, 0, none⟩)) ∧ Cls b w' ∧ Below w.heap.size w w' := by
  obtain ⟨W0, hW0⟩ : ∃ W0, w.alloc (.cells #[.int .u32 0, .int .i32 0, .int .u32 0, .slice none 0 0, .slice none 0 0, .slice none 0 0] 90) = W0 := ⟨_, rfl⟩
  have n0 : W0.heap[w.heap.size]? = some (.cells #[.int .u32 0, .int .i32 0, .int .u32 0, .slice none 0 0, .slice none 0 0, .slice none 0 0] 90) := by rw [← hW0]; exact heap_new _ _
  have hb0 : Below w.heap.size w W0 := by rw [← hW0]; exact below_one _ _
  have HF := Lib.hid (classes_fill w.heap.size _ _ _ _ W0 n0)
  go_enter Tryz.func40, Tryz.ntmps40
  go_wp2_with fail
  refine HF.out.mono ?_
  rintro e w' ⟨rfl, hC, hg⟩
  have hB : Below w.heap.size w w' := ⟨hg.os.trans hb0.os, hg.tape.trans hb0.tape, hg.output.trans hb0.output, Nat.le_trans hb0.size hg.size, fun k hk => (hg.block k (Nat.lt_of_lt_of_le hk hb0.size) (by simp; omega)).trans (hb0.block k hk)⟩
  go_wp2
  go_ret
  exact ⟨_, rfl, hC, hB⟩
/-- What IsChar says. -/
def isCharS (r : Int) : Bool := anyB r charL
theorem isChar (r : Int) (w : World) : Calls Tryz.prog 18 #[.int .i64 r] w fun e w' => e = .returned (.bool (isCharS r)) ∧ Below w.heap.size w w' := by
  have HK := Lib.hid (known w)
  go_enter Tryz.func18, Tryz.ntmps18
  go_wp2_with fail
  refine HK.out.mono ?_
  rintro e w1 ⟨b, rfl, ⟨c, hc, hs⟩, hb⟩
  have HI := Lib.hid (isIn r charL ⟨c, 0, none⟩ 5 w1 hs (by decide) (by decide))
  clear hs
  go_wp2_with fail
  refine HI.out.mono ?_
  rintro e w2 ⟨rfl, hb2⟩
  go_wp2
  go_ret
  exact ⟨rfl, below_tr hb hb2⟩
end Go.Proofs.YtbcjhmeeonhmaaaGreatDoor.H
end

/-
A range over a function whose iterator keeps a state of its own in cells: one law for the caller, out of the iterator's contract. Over any program. By this session (after the kit's law for iterators without such a state).
-/
section
set_option linter.unusedVariables false
namespace Go.Proofs.YtbcjhmeeonhmaaaGreatDoor.H
open Go Go.RowKit

/-- THE CONTRACT OF AN ITERATOR: St: what its own steps do to the world; Kp: what a round keeps; Yp: what holds where it calls yield; S: all have come; Sp: it was stopped; P0: what it asks. -/
def Iter {α : Type} (P : Program) (gf : Nat) (lb : Array Value) (encs : α → Array Value) (St Kp : World → World → Prop) (Yp : List α → α → World → Prop) (S Sp : List α → World → Prop) (P0 : World → Prop) : Prop :=
  ∀ (l : Nat) (J Jx : List α → World → Prop) (W : World),
    (∀ s A B, J s A → St A B → J s B) → (∀ s A B, Jx s A → St A B → Jx s B) → P0 W →
    (∀ pre x W1, J pre W1 → Yp pre x W1 → YieldAt Fence.wide 0 P l (encs x) W1 fun e W' =>
      (e = .returned (.bool true) ∧ J (pre ++ [x]) W' ∧ Kp W1 W') ∨ (e = .returned (.bool false) ∧ Jx (pre ++ [x]) W' ∧ Kp W1 W')) →
    J [] W →
    Calls P gf (#[.func (.yield l) #[] #[]] ++ lb) W fun e W' => (∃ v, e = .returned v) ∧ ((∃ xs, S xs W' ∧ J xs W') ∨ (∃ pre, Sp pre W' ∧ Jx pre W'))

/-- HOW THE BODY OF A ROUND MAY BE LEFT. -/
def iterPost {α : Type} (B : Nat) (Kp : World → World → Prop) (I : List α → World → Prop) (Ix : Code → List α → World → Prop) (xs : List α) (W : World) : Exit → Act → World → Prop
  | .normal, _, W' => KeepsFrom B W W' ∧ Kp W W' ∧ I xs W'
  | .ret, _, W' => KeepsFrom B W W' ∧ Kp W W' ∧ Ix .ret xs W'
  | .exit id, _, W' => KeepsFrom B W W' ∧ Kp W W' ∧ Ix (.exit id) xs W'
  | .goto t, _, W' => KeepsFrom B W W' ∧ Kp W W' ∧ Ix (.goto t) xs W'
  | .panic _, _, _ => False
  | .outgrown, _, _ => False

theorem wp_rangeFunc_iterG {P : Program} {α : Type} {g : Operand} {ps : Array Tmp} {assign body : Code} {Q : Exit → Act → World → Prop} {a : Act} {w : World}
    {gf : Nat} {lb : Array Value} (hg : a.eval g = .func (.func gf) #[] lb) (eg : ∀ args w, (callFunc gf args).run P w = .ok (.enter gf args) w)
    {encs : α → Array Value} {St Kp : World → World → Prop} {Yp : List α → α → World → Prop} {S Sp : List α → World → Prop} {P0 : World → Prop} (hseq : Iter P gf lb encs St Kp Yp S Sp P0)
    (hSt : ∀ A B, St A B → ∀ k o, w.heap.size ≤ k → A.heap[k]? = some o → o.isCells = false → o.isWalk = false → B.heap[k]? = some o) (hP0 : ∀ W, Below w.heap.size w W → P0 W)
    (hKt : ∀ {A B C : World}, Kp A B → Kp B C → Kp A C) (hKb : ∀ (W : World) (l : Nat) (o o' : Obj), w.heap.size ≤ l → W.heap[l]? = some o → o.isCells = false → o.isWalk = false → Kp W (W.putObj l o')) (hps : ∀ x, (encs x).size = ps.size)
    (I : List α → World → Prop) (Ix : Code → List α → World → Prop) (hI : OwnFrom w.heap.size I) (hIx : ∀ c, OwnFrom w.heap.size (Ix c))
    (hIs : ∀ s A B, I s A → St A B → I s B) (hIxs : ∀ c s A B, Ix c s A → St A B → Ix c s B)
    (hY : ∀ x, OwnFrom w.heap.size (fun pre W => Yp pre x W)) (hS : OwnFrom w.heap.size S) (hSp : OwnFrom w.heap.size Sp) (h0 : I [] w) (a₁ : α → Act)
    (hassign : ∀ (l : Nat) (x : α) (W : World) (K : Act → World → Prop), K (a₁ x) W →
      assign.wpIn (Fence.wide.inRound l) 0 P (Exit.then K (fun _ _ _ => False)) { tmps := (ps.zip (encs x)).foldl (fun t (p, v) => t.setIfInBounds p v) a.tmps, defers := [] } W)
    (hbody : ∀ (l : Nat) (pre : List α) (x : α) (W : World), I pre W → Yp pre x W → body.wpIn (Fence.wide.inRound l) 0 P (iterPost w.heap.size Kp I Ix (pre ++ [x]) W) (a₁ x) W)
    (hdone : ∀ (D : Nat) (xs : List α) (W : World), w.heap.size ≤ D → S xs W → I xs W → W.heap[D]? = some (.deferred (some [])) → Q .normal { a with defers := { target := .collected D, args := #[] } :: a.defers } W)
    (hstop : ∀ (D : Nat) (c : Code) (pre : List α) (W : World), w.heap.size ≤ D → Sp pre W → Ix c pre W → W.heap[D]? = some (.deferred (some [])) → c.wpIn Fence.wide 0 P Q { a with defers := { target := .collected D, args := #[] } :: a.defers } W) :
    (Code.rangeFunc g ps assign body).wpIn Fence.wide 0 P Q a w := by
  refine wpIn_rangeFunc ?_
  intro fn hfn
  rw [Fence.wide_round]
  obtain ⟨rec, hrec⟩ : ∃ rec : LoopState → Option Code → Loop, rec = fun st pe => { state := st, pending := pe, fn, tmps := a.tmps, params := ps, assign, body, defers := w.heap.size } := ⟨_, rfl⟩
  obtain ⟨W1, hW1⟩ : ∃ W1, (w.alloc (.deferred (some []))).alloc (.loop (rec .ready none)) = W1 := ⟨_, rfl⟩
  have hL1 : W1.heap[w.heap.size + 1]? = some (.loop (rec .ready none)) := by
    rw [← hW1]; have := World.alloc_heap_new (w.alloc (.deferred (some []))) (.loop (rec .ready none)); rwa [World.size_alloc] at this
  have hK1 : W1.heap[w.heap.size]? = some (.deferred (some [])) := by
    rw [← hW1]; exact (Below.heap_alloc _ _ _ (by simp)).trans (World.alloc_heap_new w _)
  have own_al : ∀ {β : Type} {I : β → World → Prop} (_ : OwnFrom w.heap.size I) {s : β} {W : World} (o : Obj), I s W → I s (W.alloc o) := fun h s W o hs => h _ _ _ none hs (World.grownBy_alloc W o none) (fun r e => by cases e)
  have own_put : ∀ {β : Type} {I : β → World → Prop} (_ : OwnFrom w.heap.size I) {s : β} {W : World} {l : Nat} {o : Obj} (o' : Obj), I s W → w.heap.size ≤ l → W.heap[l]? = some o → o.isCells = false → I s (W.putObj l o') :=
    fun h s W l o o' hs hl ho hc => h _ _ _ (some l) hs (grownBy_putObj' W l o') (fun r e => by cases e; exact ⟨hl, o, ho, hc⟩)
  have hI1 : I [] W1 := by rw [← hW1]; exact own_al hI _ (own_al hI _ h0)
  have hb1 : Below w.heap.size w W1 := by
    rw [← hW1]; exact ((Below.refl _ w).alloc (Nat.le_refl _) _).alloc (by simp) _
  refine ⟨w.heap.size + 1, [{ target := .collected w.heap.size, args := #[] }], W1, { target := .fn (.func gf) lb, args := #[.func (.yield (w.heap.size + 1)) #[] #[]] }, W1, gf,
    #[.func (.yield (w.heap.size + 1)) #[] #[]] ++ lb, W1, ?_, ?_, ?_, ?_, (fun h => by cases h), ?_⟩
  · rw [← hW1, hrec]; exact run_enterLoop_outer _ _ _ _ _
  · simp only [resolve, hg]
    simp [go_sem]
  · intro f' hf'; trivial
  · simp [invoke, go_sem, eg]
  · refine callsIn_wide.2 ?_
    refine (hseq (w.heap.size + 1)
      (fun pre W => I pre W ∧ W.heap[w.heap.size + 1]? = some (.loop (rec .ready none)) ∧ W.heap[w.heap.size]? = some (.deferred (some [])))
      (fun pre W => ∃ c, Ix c pre W ∧ W.heap[w.heap.size + 1]? = some (.loop (rec .done (some c))) ∧ W.heap[w.heap.size]? = some (.deferred (some [])))
      W1
      (fun s A B hs hst => ⟨hIs s A B hs.1 hst, hSt A B hst _ _ (by omega) hs.2.1 rfl rfl, hSt A B hst _ _ (Nat.le_refl _) hs.2.2 rfl rfl⟩)
      (fun s A B hs hst => by
        obtain ⟨c, hc, hl, hk⟩ := hs
        exact ⟨c, hIxs c s A B hc hst, hSt A B hst _ _ (by omega) hl rfl rfl, hSt A B hst _ _ (Nat.le_refl _) hk rfl rfl⟩)
      (hP0 W1 hb1) ?_ ⟨hI1, hL1, hK1⟩).mono ?_
    · -- ONE ROUND
      rintro pre x W ⟨hi, hl, hk⟩ hyp
      have hlt : w.heap.size + 1 < W.heap.size := (Array.getElem?_eq_some_iff.1 hl).1
      have hy := run_yield (P := P) (args := encs x) hl (by rw [hrec]; exact hps x)
      rw [hrec] at hy
      refine ⟨fn, _, assign, body, hy, roundIn_of_wpIn trivial (hassign _ x W _ ⟨_, run_beginRound hl (by rw [hrec]), ?_⟩)⟩
      have hl2 : (W.putObj (w.heap.size + 1) (.loop { rec .ready none with state := .busy })).heap[w.heap.size + 1]? = some (.loop { rec .ready none with state := .busy }) := World.putObj_heap_same hlt
      have hk2 : (W.putObj (w.heap.size + 1) (.loop { rec .ready none with state := .busy })).heap[w.heap.size]? = some (.deferred (some [])) := (World.putObj_heap_other (by omega)).trans hk
      have hw2 : Kp W (W.putObj (w.heap.size + 1) (.loop { rec .ready none with state := .busy })) := hKb _ _ _ _ (by omega) hl rfl rfl
      refine wpIn_mono (hbody _ pre x _ (own_put hI _ hi (by omega) hl rfl) (own_put (I := fun pre W => Yp pre x W) (hY x) _ hyp (by omega) hl rfl)) ?_
      have fin : ∀ (jump : Option Code) (W3 : World), KeepsFrom w.heap.size (W.putObj (w.heap.size + 1) (.loop { rec .ready none with state := .busy })) W3 →
          (Instr.endRound (w.heap.size + 1) jump).run P W3 = .ok (.bool jump.isNone) (W3.putObj (w.heap.size + 1) (.loop (rec (if jump.isNone then .ready else .done) jump))) ∧
          W3.heap[w.heap.size + 1]? = some (.loop { rec .ready none with state := .busy }) ∧
          (W3.putObj (w.heap.size + 1) (.loop (rec (if jump.isNone then .ready else .done) jump))).heap[w.heap.size + 1]? = some (.loop (rec (if jump.isNone then .ready else .done) jump)) ∧
          (W3.putObj (w.heap.size + 1) (.loop (rec (if jump.isNone then .ready else .done) jump))).heap[w.heap.size]? = some (.deferred (some [])) := fun jump W3 hk3 => by
        have hl3 := hk3.same _ _ (by omega) hl2 rfl
        have := run_endRound (P := P) jump hl3
        rw [hrec] at this ⊢
        exact ⟨this, by rw [hrec] at hl3; exact hl3, World.putObj_heap_same (Array.getElem?_eq_some_iff.1 hl3).1, (World.putObj_heap_other (by omega)).trans (hk3.same _ _ (Nat.le_refl _) hk2 rfl)⟩
      have lv : ∀ (c : Code) (W3 : World), KeepsFrom w.heap.size (W.putObj (w.heap.size + 1) (.loop { rec .ready none with state := .busy })) W3 → Kp (W.putObj (w.heap.size + 1) (.loop { rec .ready none with state := .busy })) W3 → Ix c (pre ++ [x]) W3 →
          ∃ v w', (Instr.endRound (w.heap.size + 1) (some c)).run P W3 = .ok v w' ∧ ((Ending.returned v = .returned (.bool true) ∧ (I (pre ++ [x]) w' ∧ w'.heap[w.heap.size + 1]? = some (.loop (rec .ready none)) ∧ w'.heap[w.heap.size]? = some (.deferred (some []))) ∧ Kp W w') ∨
            (Ending.returned v = .returned (.bool false) ∧ (∃ c, Ix c (pre ++ [x]) w' ∧ w'.heap[w.heap.size + 1]? = some (.loop (rec .done (some c))) ∧ w'.heap[w.heap.size]? = some (.deferred (some []))) ∧ Kp W w')) := fun c W3 hk3 hkp3 hi3 => by
        obtain ⟨hr, hl3, hl4, hk4⟩ := fin (some c) W3 hk3
        exact ⟨_, _, hr, .inr ⟨rfl, ⟨c, own_put (hIx c) _ hi3 (by omega) hl3 rfl, hl4, hk4⟩, hKt (hKt hw2 hkp3) (hKb _ _ _ _ (by omega) hl3 rfl rfl)⟩⟩
      rintro e a3 W3 hp
      cases e with
      | normal =>
        obtain ⟨hk3, hkp3, hi3⟩ := hp
        obtain ⟨hr, hl3, hl4, hk4⟩ := fin none W3 hk3
        exact ⟨_, _, hr, .inl ⟨rfl, ⟨own_put hI _ hi3 (by omega) hl3 rfl, hl4, hk4⟩, hKt (hKt hw2 hkp3) (hKb _ _ _ _ (by omega) hl3 rfl rfl)⟩⟩
      | ret => exact lv _ W3 hp.1 hp.2.1 hp.2.2
      | exit id => exact lv _ W3 hp.1 hp.2.1 hp.2.2
      | goto t => exact lv _ W3 hp.1 hp.2.1 hp.2.2
      | panic ch => exact hp.elim
      | outgrown => exact hp.elim
    · -- BEHIND THE ITERATOR
      rintro e W2 ⟨⟨v, rfl⟩, (⟨xs, hS2, hi, hl, hk⟩ | ⟨pre, hSp2, c, hi, hl, hk⟩)⟩
      · exact ⟨none, _, by have := run_endLoop (P := P) hl (by rw [hrec]; simp); rw [hrec] at this; exact this, hdone _ xs _ (Nat.le_refl _) (own_put hS _ hS2 (by omega) hl rfl) (own_put hI _ hi (by omega) hl rfl) ((World.putObj_heap_other (by omega)).trans hk)⟩
      · exact ⟨some c, _, by have := run_endLoop (P := P) hl (by rw [hrec]; simp); rw [hrec] at this; exact this, hstop _ c pre _ (Nat.le_refl _) (own_put hSp _ hSp2 (by omega) hl rfl) (own_put (hIx c) _ hi (by omega) hl rfl) ((World.putObj_heap_other (by omega)).trans hk)⟩
theorem wp_rangeFunc_iter {P : Program} {α : Type} {g : Operand} {ps : Array Tmp} {assign body : Code} {Q : Exit → Act → World → Prop} {a : Act} {w : World}
    {gf : Nat} {lb : Array Value} (hg : a.eval g = .func (.func gf) #[] lb) (eg : ∀ args w, (callFunc gf args).run P w = .ok (.enter gf args) w)
    {encs : α → Array Value} {St Kp : World → World → Prop} {Yp : List α → α → World → Prop} {S Sp : List α → World → Prop} {P0 : World → Prop} (hseq : Iter P gf lb encs St Kp Yp S Sp P0)
    (hSt : ∀ A B, St A B → KeepsFrom w.heap.size A B) (hP0 : ∀ W, Below w.heap.size w W → P0 W)
    (hKt : ∀ {A B C : World}, Kp A B → Kp B C → Kp A C) (hKb : ∀ (W : World) (l : Nat) (o o' : Obj), w.heap.size ≤ l → W.heap[l]? = some o → o.isCells = false → o.isWalk = false → Kp W (W.putObj l o')) (hps : ∀ x, (encs x).size = ps.size)
    (I : List α → World → Prop) (Ix : Code → List α → World → Prop) (hI : OwnFrom w.heap.size I) (hIx : ∀ c, OwnFrom w.heap.size (Ix c))
    (hIs : ∀ s A B, I s A → St A B → I s B) (hIxs : ∀ c s A B, Ix c s A → St A B → Ix c s B)
    (hY : ∀ x, OwnFrom w.heap.size (fun pre W => Yp pre x W)) (hS : OwnFrom w.heap.size S) (hSp : OwnFrom w.heap.size Sp) (h0 : I [] w) (a₁ : α → Act)
    (hassign : ∀ (l : Nat) (x : α) (W : World) (K : Act → World → Prop), K (a₁ x) W →
      assign.wpIn (Fence.wide.inRound l) 0 P (Exit.then K (fun _ _ _ => False)) { tmps := (ps.zip (encs x)).foldl (fun t (p, v) => t.setIfInBounds p v) a.tmps, defers := [] } W)
    (hbody : ∀ (l : Nat) (pre : List α) (x : α) (W : World), I pre W → Yp pre x W → body.wpIn (Fence.wide.inRound l) 0 P (iterPost w.heap.size Kp I Ix (pre ++ [x]) W) (a₁ x) W)
    (hdone : ∀ (D : Nat) (xs : List α) (W : World), w.heap.size ≤ D → S xs W → I xs W → W.heap[D]? = some (.deferred (some [])) → Q .normal { a with defers := { target := .collected D, args := #[] } :: a.defers } W)
    (hstop : ∀ (D : Nat) (c : Code) (pre : List α) (W : World), w.heap.size ≤ D → Sp pre W → Ix c pre W → W.heap[D]? = some (.deferred (some [])) → c.wpIn Fence.wide 0 P Q { a with defers := { target := .collected D, args := #[] } :: a.defers } W) :
    (Code.rangeFunc g ps assign body).wpIn Fence.wide 0 P Q a w :=
  wp_rangeFunc_iterG hg eg hseq (fun A B h k o h1 h2 h3 _ => (hSt A B h).same k o h1 h2 h3) hP0 hKt hKb hps I Ix hI hIx hIs hIxs hY hS hSp h0 a₁ hassign hbody hdone hstop
/-- An iterator whose own steps turn block X alone; what a round keeps: blocks X and Bx. -/
def RStep (X : Nat) (A B : World) : Prop := A.grownBy B (some X)
def RKeep (X Bx : Nat) (A B : World) : Prop := B.heap[X]? = A.heap[X]? ∧ B.heap[Bx]? = A.heap[Bx]?
theorem wpIn_scope_wide {P : Program} {n : Nat} {Q : Exit → Act → World → Prop} {a : Act} {w : World} {c : Code} (h : c.wpIn Fence.wide n P (Exit.noGoto Q) a w) : (Code.scope c).wpIn Fence.wide n P Q a w :=
  wpIn_wide.2 (wp_scope_straight (wpIn_wide.1 h))
theorem grown_of_below {w w1 : World} (h : Below w.heap.size w w1) (row : Option Nat) : w.grownBy w1 row := ⟨h.os, h.tape, h.output, h.size, fun i hi _ => h.block i hi⟩
theorem grown_drew {w w1 : World} {row : Option Nat} (h : w.grownBy w1 row) : w.grownBy w1.drew row := ⟨h.os, h.tape, h.output, h.size, h.block⟩
theorem ownBlock_ne_row {W : World} {base : Nat} {e : TypeId} {size n : Nat} {v : Value} {xs : List Value} (hr : W.ownsRow base e size v n xs) {B : Nat} {row : Option Nat} (hrow : ∀ r, row = some r → B ≤ r ∧ ∃ o : Obj, W.heap[r]? = some o ∧ o.isCells = false) : v.ownBlock = none ∨ v.ownBlock ≠ row := by
  rcases hr.2 with ⟨rfl, _⟩ | ⟨g, cap, cur, rfl, _, hgb, _⟩
  · exact .inl rfl
  · refine .inr fun e' => ?_
    obtain ⟨_, o, ho, hc⟩ := hrow g (by simpa [Value.ownBlock] using e'.symm)
    rw [hgb] at ho; cases ho; cases hc
theorem ownBlock_ne_of_base {W : World} {base : Nat} {e : TypeId} {size n : Nat} {v : Value} {xs : List Value} (hr : W.ownsRow base e size v n xs) {X : Nat} (hX : X < base) : v.ownBlock = none ∨ v.ownBlock ≠ some X := by
  rcases hr.2 with ⟨rfl, _⟩ | ⟨g, cap, cur, rfl, hb, hgb, _⟩
  · exact .inl rfl
  · refine .inr fun e' => ?_
    have : g = X := by simpa [Value.ownBlock] using e'
    omega
theorem appended_other {W w1 : World} {B C : Nat} {v v' : Value} {tmp : Obj} (hgrow : (W.alloc tmp).grownBy w1 v.ownBlock) (hC : C < W.heap.size) (hCB : C ≠ B) (hne : some C ≠ v.ownBlock) : (w1.setCell ⟨B, 0, none⟩ v').heap[C]? = W.heap[C]? :=
  (Below.heap_setCell w1 _ v' C hCB).trans ((hgrow.block C (by simp; omega) hne).trans (Below.heap_alloc W tmp C hC))
theorem ownsRow_base {W : World} {base base' : Nat} {e : TypeId} {size n : Nat} {v : Value} {xs : List Value} (hr : W.ownsRow base e size v n xs) (h : base' ≤ base) : W.ownsRow base' e size v n xs := by
  refine ⟨hr.1, ?_⟩
  rcases hr.2 with h1 | ⟨g, cap, cur, h1, hb, h2⟩
  · exact .inl h1
  · exact .inr ⟨g, cap, cur, h1, by omega, h2⟩
end Go.Proofs.YtbcjhmeeonhmaaaGreatDoor.H
end

/-
Small maps over whole numbers or strings that a call has made: one operation at a time, their entries known. Over any program. By this session.
-/
section
set_option linter.unusedVariables false
namespace Go.Proofs.YtbcjhmeeonhmaaaGreatDoor.H
open Go Go.RowKit
section
variable {P : Program} {t kt et : TypeId} {k : IntKind}

theorem run_getObj_map {w : World} {r : Nat} {es : Array MapEntry} {c : Nat} (h : w.heap[r]? = some (.map es c)) : (getObj r).run P w = .ok (.map es c) w := by simp [getObj, Sem.run, h]
theorem run_setObj_map {w : World} {r : Nat} {es : Array MapEntry} {c : Nat} (o : Obj) (h : w.heap[r]? = some (.map es c)) : (setObj r o).run P w = .ok () (w.putObj r o) := by simp [setObj, Sem.run, h, World.putObj]
theorem putObj_alloc (w : World) (o o' : Obj) : (w.alloc o).putObj w.heap.size o' = w.alloc o' := by
  have h : (w.heap.push o).setIfInBounds w.heap.size o' = w.heap.push o' := by
    apply Array.ext
    · simp
    · intro i h1 h2
      simp at h1
      by_cases h : i = w.heap.size
      · subst h; simp
      · rw [Array.getElem_setIfInBounds_ne (by simpa using h1) (Ne.symm h), Array.getElem_push_lt (by omega), Array.getElem_push_lt (by omega)]
  show ({ w with heap := (w.heap.push o).setIfInBounds w.heap.size o' } : World) = { w with heap := w.heap.push o' }
  rw [h]

theorem run_checkKey_int (hk : P.underlying kt = some (.int k)) (b : Bool) (n : Int) (w : World) : (Instr.checkKey b 10000 kt (.int k n)).run P w = .ok () w := by
  rw [show (10000 : Nat) = 9999 + 1 from rfl]
  unfold Instr.checkKey
  simp [run_underlying hk, Result.andThen]
theorem run_findKey {d : TypeDesc} (hk : P.underlying kt = some d) (key : Value) (es : List MapEntry) (r : Option (Nat × Value)) (hf : Instr.findNow d key es 0 = some r) (w : World) : (Instr.findKey kt key es).run P w = .ok r w := by
  simp [Instr.findKey, run_underlying hk, Result.andThen, hf]

theorem run_update_new {d : TypeDesc} (hu : P.underlying t = some (.map kt et)) (hk : P.underlying kt = some d) {key : Value} (hc : ∀ b w, (Instr.checkKey b 10000 kt key).run P w = .ok () w) {w : World} {r : Nat} {es : Array MapEntry} {c : Nat} (h : w.heap[r]? = some (.map es c)) (hf : Instr.findNow d key es.toList 0 = some none) (v : Value) :
    (Instr.mapUpdate t (.map (some r)) key v).run P w = .ok () (w.putObj r (.map (es.push { key, val := v, born := c }) (c + 1))) := by
  simp [Instr.mapUpdate, run_underlying hu, run_getObj_map h, hc, run_findKey hk _ _ _ hf, run_setObj_map _ h, Result.andThen]
theorem run_lookup_hit {d : TypeDesc} (hu : P.underlying t = some (.map kt et)) (hk : P.underlying kt = some d) {key : Value} (hc : ∀ b w, (Instr.checkKey b 10000 kt key).run P w = .ok () w) {w : World} {r : Nat} {es : Array MapEntry} {c : Nat} (h : w.heap[r]? = some (.map es c)) {i : Nat} {v : Value} (hf : Instr.findNow d key es.toList 0 = some (some (i, v))) (b : Bool) :
    (Instr.lookup t (.map (some r)) key b).run P w = .ok (if b then .tuple #[v, .bool true] else v) w := by
  simp [Instr.lookup, run_underlying hu, run_getObj_map h, hc, run_findKey hk _ _ _ hf, Result.andThen]
theorem run_lookup_miss {d : TypeDesc} (hu : P.underlying t = some (.map kt et)) (hk : P.underlying kt = some d) {key : Value} (hc : ∀ b w, (Instr.checkKey b 10000 kt key).run P w = .ok () w) {w : World} {r : Nat} {es : Array MapEntry} {c : Nat} (h : w.heap[r]? = some (.map es c)) (hf : Instr.findNow d key es.toList 0 = some none) {z : Value} (hz : ∀ w, (zeroValue et).run P w = .ok z w) (b : Bool) :
    (Instr.lookup t (.map (some r)) key b).run P w = .ok (if b then .tuple #[z, .bool false] else z) w := by
  simp [Instr.lookup, run_underlying hu, run_getObj_map h, hc, run_findKey hk _ _ _ hf, Result.andThen, hz]
end
end Go.Proofs.YtbcjhmeeonhmaaaGreatDoor.H
end

/-
pax's names: a map of those met, and how many.
-/
section
set_option linter.unusedVariables false
set_option maxRecDepth 100000
namespace Go.Proofs.YtbcjhmeeonhmaaaGreatDoor.H
open Go Go.RowKit
section
variable {P : Program} {t kt et : TypeId} {k : IntKind}
end
theorem ba_beq (a b : ByteArray) : (a == b) = decide (a = b) := by
  cases a with | mk a => cases b with | mk b =>
  show (a == b) = _
  by_cases h : a = b
  · subst h; simp
  · have : (a == b) = false := by simpa using h
    rw [this]; simp [h]
instance : LawfulBEq ByteArray where
  eq_of_beq h := by rw [ba_beq, decide_eq_true_iff] at h; exact h
  rfl := by intro a; rw [ba_beq]; simp
/-- Blocks B and M alone have changed. -/
def Two (B M : Nat) (w w' : World) : Prop := w'.os = w.os ∧ w'.tape = w.tape ∧ w'.output = w.output ∧ w.heap.size ≤ w'.heap.size ∧ ∀ i, i < w.heap.size → i ≠ B → i ≠ M → w'.heap[i]? = w.heap[i]?
end Go.Proofs.YtbcjhmeeonhmaaaGreatDoor.H
end

/-
(*escape.table).fill, walked.
-/
section
set_option linter.unusedVariables false
set_option maxRecDepth 100000
namespace Go.Proofs.YtbcjhmeeonhmaaaGreatDoor.H
open Go Go.RowKit

/-- The five runes that have names, and the names. -/
def rsL : List Int := [38, 60, 62, 34, 39]
def obW : Obj := .cells #[.string ⟨#[97, 109, 112]⟩, .string ⟨#[108, 116]⟩, .string ⟨#[103, 116]⟩, .string ⟨#[113, 117, 111, 116]⟩, .string ⟨#[97, 112, 111, 115]⟩] 9
def e1 (k : Nat) : Array MapEntry := ((List.range k).map fun (i : Nat) => ({ key := .int .i32 (rsL.getD i 0), val := .int .i64 (i : Int), born := i } : MapEntry)).toArray
def e2 (k : Nat) : Array MapEntry := ((List.range k).map fun (i : Nat) => ({ key := .int .i64 (i : Int), val := .int .i32 (rsL.getD i 0), born := i } : MapEntry)).toArray
def strN : ByteArray := ⟨#[38, 60, 62, 34, 39]⟩
theorem run_mapEntry_new {P : Program} {t kt et : TypeId} {d : TypeDesc} (hu : P.underlying t = some (.map kt et)) (hk : P.underlying kt = some d) {key : Value} (hc : ∀ b w, (Instr.checkKey b 10000 kt key).run P w = .ok () w) {w : World} {r : Nat} {es : Array MapEntry} {c : Nat} (h : w.heap[r]? = some (.map es c))
    (hf : Instr.findNow d key es.toList 0 = some none) {z : Value} (hz : ∀ w, (zeroValue et).run P w = .ok z w) :
    (Instr.mapEntry t (.map (some r)) key).run P w = .ok (.tuple #[z, .int .i64 c]) (w.putObj r (.map (es.push { key, val := z, born := c }) (c + 1))) := by
  simp [Instr.mapEntry, run_underlying hu, run_getObj_map h, hc, run_findKey hk _ _ _ hf, run_setObj_map _ h, Result.andThen, hz, goInt]
theorem run_entryStore {P : Program} {t : TypeId} {w : World} {r : Nat} {es : Array MapEntry} {c i : Nat} (h : w.heap[r]? = some (.map es c)) (n : Nat) (hi : es.findIdx? (fun e => (e.born : Int) == (n : Int)) = some i) (v : Value) :
    (Instr.entryStore t (.map (some r)) (.int .i64 n) v).run P w = .ok () (w.putObj r (.map (es.modify i fun e => { e with val := v }) c)) := by
  simp [Instr.entryStore, run_getObj_map h, run_setObj_map _ h, Result.andThen, asInt, asIntOf, hi]
theorem e1_new : ∀ k : Nat, k < 5 → Instr.findNow (.int .i32) (.int .i32 (rsL.getD k 0)) (e1 k).toList 0 = some none := by
  intro k hk
  have : k = 0 ∨ k = 1 ∨ k = 2 ∨ k = 3 ∨ k = 4 := by omega
  rcases this with rfl | rfl | rfl | rfl | rfl <;> rfl
theorem e2_new : ∀ k : Nat, k < 5 → Instr.findNow (.int .i64) (.int .i64 (k : Int)) (e2 k).toList 0 = some none := by
  intro k hk
  have : k = 0 ∨ k = 1 ∨ k = 2 ∨ k = 3 ∨ k = 4 := by omega
  rcases this with rfl | rfl | rfl | rfl | rfl <;> rfl
theorem e1_at : ∀ k : Nat, k < 5 → ((e1 k).push { key := .int .i32 (rsL.getD k 0), val := .int .i64 0, born := k }).findIdx? (fun e => (e.born : Int) == (k : Int)) = some k := by
  intro k hk
  have : k = 0 ∨ k = 1 ∨ k = 2 ∨ k = 3 ∨ k = 4 := by omega
  rcases this with rfl | rfl | rfl | rfl | rfl <;> first | rfl | (simp [e1, e2, rsL, List.range, List.range.loop, List.findIdx?_cons]; done) | decide +kernel
theorem e2_at : ∀ k : Nat, k < 5 → ((e2 k).push { key := .int .i64 (k : Int), val := .int .i32 0, born := k }).findIdx? (fun e => (e.born : Int) == (k : Int)) = some k := by
  intro k hk
  have : k = 0 ∨ k = 1 ∨ k = 2 ∨ k = 3 ∨ k = 4 := by omega
  rcases this with rfl | rfl | rfl | rfl | rfl <;> first | rfl | (simp [e1, e2, rsL, List.range, List.range.loop, List.findIdx?_cons]; done) | decide +kernel
theorem e1_next : ∀ k : Nat, k < 5 → ((e1 k).push { key := .int .i32 (rsL.getD k 0), val := .int .i64 0, born := k }).modify k (fun e => { e with val := .int .i64 (k : Int) }) = e1 (k + 1) := by
  intro k hk
  have : k = 0 ∨ k = 1 ∨ k = 2 ∨ k = 3 ∨ k = 4 := by omega
  rcases this with rfl | rfl | rfl | rfl | rfl <;> rfl
theorem e2_next : ∀ k : Nat, k < 5 → ((e2 k).push { key := .int .i64 (k : Int), val := .int .i32 0, born := k }).modify k (fun e => { e with val := .int .i32 (rsL.getD k 0) }) = e2 (k + 1) := by
  intro k hk
  have : k = 0 ∨ k = 1 ∨ k = 2 ∨ k = 3 ∨ k = 4 := by omega
  rcases this with rfl | rfl | rfl | rfl | rfl <;> rfl
theorem strN_at : ∀ k : Nat, (h : k < strN.size) → ((strN[k]'h).toNat : Int) = rsL.getD k 0 ∧ (strN[k]'h).toNat < 128 := by
  intro k h
  have h5 : k < 5 := h
  have : k = 0 ∨ k = 1 ∨ k = 2 ∨ k = 3 ∨ k = 4 := by omega
  rcases this with rfl | rfl | rfl | rfl | rfl <;> exact ⟨rfl, of_decide_eq_true rfl⟩
/-- The table, with so many names. -/
def TabAt (b pl M1 M2 : Nat) (s : Value) (k : Nat) (w0 w : World) : Prop :=
  w.heap[b]? = some (.cells #[.int .u32 0, .int .i32 1, s, .map (some M1), .map (some M2), .slice (some ⟨w0.heap.size, 0, none⟩) 5 5] 81) ∧ w.heap[M1]? = some (.map (e1 k) k) ∧ w.heap[M2]? = some (.map (e2 k) k) ∧
  w.cell? ⟨pl, 0, none⟩ = some (.pointer (some ⟨b, 0, none⟩)) ∧ w0.grownBy w (some b) ∧ M1 ≠ M2 ∧ w0.heap.size < M1 ∧ w0.heap.size < M2 ∧ w.heap[w0.heap.size]? = some obW
theorem TabAt.keep {b pl M1 M2 it : Nat} {s : Value} {k : Nat} {w0 w w' : World} (h : TabAt b pl M1 M2 s k w0 w) (hos : w'.os = w.os) (htp : w'.tape = w.tape) (hout : w'.output = w.output) (hsz : w.heap.size ≤ w'.heap.size)
    (hb : ∀ i, i ≠ it → i < w.heap.size → w'.heap[i]? = w.heap[i]?) (d1 : b ≠ it) (d2 : M1 ≠ it) (d3 : M2 ≠ it) (d4 : pl ≠ it) (d5 : w0.heap.size < it) : TabAt b pl M1 M2 s k w0 w' := by
  obtain ⟨a1, a2, a3, a4, a5, a6, a7, a8, a9⟩ := h
  have lt : ∀ {i : Nat} {o : Obj}, w.heap[i]? = some o → i < w.heap.size := fun h => (Array.getElem?_eq_some_iff.1 h).1
  refine ⟨(hb _ d1 (lt a1)).trans a1, (hb _ d2 (lt a2)).trans a2, (hb _ d3 (lt a3)).trans a3, ?_, ?_, a6, a7, a8, (hb _ (by omega) (lt a9)).trans a9⟩
  · rw [World.cell?_of_block (hb pl d4 (World.block_lt_of_cell? w _ a4))]; exact a4
  · exact ⟨hos.trans a5.os, htp.trans a5.tape, hout.trans a5.output, Nat.le_trans a5.size hsz, fun i hi hr => (hb i (by omega) (Nat.lt_of_lt_of_le hi a5.size)).trans (a5.block i hi hr)⟩
theorem zeroInt0 (w : World) : (zeroValue 3).run Tryz.prog w = .ok (.int .i64 0) w := by go_simp
theorem zeroRune (w : World) : (zeroValue 21).run Tryz.prog w = .ok (.int .i32 0) w := by go_simp
def Loads (b pl M1 M2 : Nat) (w : World) : Prop := w.cell? ⟨pl, 0, none⟩ = some (.pointer (some ⟨b, 0, none⟩)) ∧ w.cell? ⟨b, 3, none⟩ = some (.map (some M1)) ∧ w.cell? ⟨b, 4, none⟩ = some (.map (some M2))
theorem putObj_block {w : World} {r k : Nat} {o : Obj} (h : k ≠ r) : (w.putObj r o).heap[k]? = w.heap[k]? := World.putObj_heap_other h
/-- One round of the table's filling. -/
theorem tab_round {b pl M1 M2 it : Nat} {s : Value} {k : Nat} {w0 wr : World} (h : TabAt b pl M1 M2 s k w0 wr) (hk : k < 5) (hit : wr.heap[it]? = some (.stringIter strN k)) (d1 : b ≠ it) (d2 : M1 ≠ it) (d3 : M2 ≠ it) (d4 : pl ≠ it) (d5 : w0.heap.size < it) (hbw : b < w0.heap.size) (hpw : pl < w0.heap.size) :
    ∃ V1 V2 V3 V4 V5 : World, (Instr.next (.pointer (some ⟨it, 0, none⟩)) true 0).run Tryz.prog wr = .ok (.tuple #[.bool true, .int .i64 k, .int .i32 (rsL.getD k 0)]) V1 ∧ Loads b pl M1 M2 V1 ∧
      (Instr.mapEntry 77 (.map (some M1)) (.int .i32 (rsL.getD k 0))).run Tryz.prog V1.drew = .ok (.tuple #[.int .i64 0, .int .i64 k]) V2 ∧ Loads b pl M1 M2 V2 ∧
      (Instr.entryStore 77 (.map (some M1)) (.int .i64 k) (.int .i64 k)).run Tryz.prog V2 = .ok () V3 ∧ Loads b pl M1 M2 V3 ∧
      (Instr.mapEntry 78 (.map (some M2)) (.int .i64 k)).run Tryz.prog V3 = .ok (.tuple #[.int .i32 0, .int .i64 k]) V4 ∧
      (Instr.entryStore 78 (.map (some M2)) (.int .i64 k) (.int .i32 (rsL.getD k 0))).run Tryz.prog V4 = .ok () V5 ∧
      TabAt b pl M1 M2 s (k + 1) w0 V5 ∧ V5.heap[it]? = some (.stringIter strN (k + 1)) := by
  have hk5 : k < strN.size := hk
  obtain ⟨hr, ha⟩ := strN_at k hk5
  have hn := Lib.run_next_ascii_at (P := Tryz.prog) wr it strN k 0 hit hk5 ha
  rw [hr] at hn
  have t1 : TabAt b pl M1 M2 s k w0 (wr.iterAt it strN (k + 1)) := h.keep (it := it) rfl rfl rfl (by rw [Lib.iterAt_size]; exact Nat.le_refl _) (fun i hi _ => Lib.iterAt_other wr it i strN (k + 1) hi) d1 d2 d3 d4 d5
  have i1 := Lib.iterAt_heap wr it strN k (k + 1) hit
  obtain ⟨V1, hV1⟩ : ∃ V1, wr.iterAt it strN (k + 1) = V1 := ⟨_, rfl⟩
  rw [hV1] at hn t1 i1
  obtain ⟨a1, a2, a3, a4, a5, a6, a7, a8, a9⟩ := t1
  have lt1 : M1 < V1.heap.size := (Array.getElem?_eq_some_iff.1 a2).1
  have lt2 : M2 < V1.heap.size := (Array.getElem?_eq_some_iff.1 a3).1
  have m1 := run_mapEntry_new (P := Tryz.prog) (t := 77) Tryz.underlying77 Tryz.underlying21 (run_checkKey_int Tryz.underlying21 · (rsL.getD k 0) ·) (w := V1.drew) a2 (e1_new k hk) zeroInt0
  obtain ⟨V2, hV2⟩ : ∃ V2, V1.drew.putObj M1 (.map ((e1 k).push { key := .int .i32 (rsL.getD k 0), val := .int .i64 0, born := k }) (k + 1)) = V2 := ⟨_, rfl⟩
  rw [hV2] at m1
  have o2 : ∀ i, i ≠ M1 → V2.heap[i]? = V1.heap[i]? := fun i hi => by rw [← hV2]; exact putObj_block hi
  have b2 : V2.heap[M1]? = some (.map ((e1 k).push { key := .int .i32 (rsL.getD k 0), val := .int .i64 0, born := k }) (k + 1)) := by rw [← hV2]; exact World.putObj_heap_same lt1
  have m2 := run_entryStore (P := Tryz.prog) (t := 77) b2 k (e1_at k hk) (.int .i64 (k : Int))
  rw [e1_next k hk] at m2
  obtain ⟨V3, hV3⟩ : ∃ V3, V2.putObj M1 (.map (e1 (k + 1)) (k + 1)) = V3 := ⟨_, rfl⟩
  rw [hV3] at m2
  have o3 : ∀ i, i ≠ M1 → V3.heap[i]? = V1.heap[i]? := fun i hi => by rw [← hV3, putObj_block hi]; exact o2 i hi
  have s2 : V2.heap.size = V1.heap.size := by rw [← hV2]; exact World.putObj_size
  have s3 : V3.heap.size = V1.heap.size := by rw [← hV3, World.putObj_size]; exact s2
  have b3 : V3.heap[M1]? = some (.map (e1 (k + 1)) (k + 1)) := by rw [← hV3]; exact World.putObj_heap_same (by omega)
  have m3 := run_mapEntry_new (P := Tryz.prog) (t := 78) Tryz.underlying78 Tryz.underlying3 (run_checkKey_int Tryz.underlying3 · (k : Int) ·) (w := V3) ((o3 M2 (Ne.symm a6)).trans a3) (e2_new k hk) zeroRune
  obtain ⟨V4, hV4⟩ : ∃ V4, V3.putObj M2 (.map ((e2 k).push { key := .int .i64 (k : Int), val := .int .i32 0, born := k }) (k + 1)) = V4 := ⟨_, rfl⟩
  rw [hV4] at m3
  have b4 : V4.heap[M2]? = some (.map ((e2 k).push { key := .int .i64 (k : Int), val := .int .i32 0, born := k }) (k + 1)) := by rw [← hV4]; exact World.putObj_heap_same (by omega)
  have s4 : V4.heap.size = V1.heap.size := by rw [← hV4, World.putObj_size]; exact s3
  have m4 := run_entryStore (P := Tryz.prog) (t := 78) b4 k (e2_at k hk) (.int .i32 (rsL.getD k 0))
  rw [e2_next k hk] at m4
  obtain ⟨V5, hV5⟩ : ∃ V5, V4.putObj M2 (.map (e2 (k + 1)) (k + 1)) = V5 := ⟨_, rfl⟩
  rw [hV5] at m4
  have o5 : ∀ i, i ≠ M1 → i ≠ M2 → V5.heap[i]? = V1.heap[i]? := fun i hi hj => by rw [← hV5, putObj_block hj, ← hV4, putObj_block hj]; exact o3 i hi
  have b5 : V5.heap[M2]? = some (.map (e2 (k + 1)) (k + 1)) := by rw [← hV5]; exact World.putObj_heap_same (by omega)
  have c5 : V5.heap[M1]? = some (.map (e1 (k + 1)) (k + 1)) := by rw [← hV5, putObj_block a6, ← hV4, putObj_block a6]; exact b3
  have hne1 : b ≠ M1 := by omega
  have hne2 : b ≠ M2 := by omega
  have lo : ∀ V : World, V.heap[b]? = V1.heap[b]? → V.heap[pl]? = V1.heap[pl]? → Loads b pl M1 M2 V := fun V e1 e2 => by
    refine ⟨?_, by simp [World.cell?, e1, a1], by simp [World.cell?, e1, a1]⟩
    rw [World.cell?_of_block e2]; exact a4
  refine ⟨V1, V2, V3, V4, V5, hn, lo V1 rfl rfl, m1, lo V2 (o2 _ hne1) (o2 _ (by omega)), m2, lo V3 (o3 _ hne1) (o3 _ (by omega)), m3, m4, ⟨(o5 _ hne1 hne2).trans a1, c5, b5, ?_, ?_, a6, a7, a8, (o5 _ (by omega) (by omega)).trans a9⟩, (o5 _ (Ne.symm d2) (Ne.symm d3)).trans i1⟩
  · rw [World.cell?_of_block (o5 pl (by omega) (by omega))]; exact a4
  · have e1 : V5.os = V1.os := by rw [← hV5, ← hV4, ← hV3, ← hV2]; rfl
    have e2 : V5.tape = V1.tape := by rw [← hV5, ← hV4, ← hV3, ← hV2]; rfl
    have e3 : V5.output = V1.output := by rw [← hV5, ← hV4, ← hV3, ← hV2]; rfl
    have e4 : V5.heap.size = V1.heap.size := by rw [← hV5, World.putObj_size]; exact s4
    exact ⟨e1.trans a5.os, e2.trans a5.tape, e3.trans a5.output, by have := a5.size; omega, fun i hi hr => (o5 i (by omega) (by omega)).trans (a5.block i hi hr)⟩
theorem TabAt.its {b pl M1 M2 : Nat} {s : Value} {k : Nat} {w0 w : World} (h : TabAt b pl M1 M2 s k w0 w) : b < w.heap.size ∧ M1 < w.heap.size ∧ M2 < w.heap.size ∧ pl < w.heap.size ∧ w0.heap.size < w.heap.size := by
  obtain ⟨a1, a2, a3, a4, a5, a6, a7, a8, a9⟩ := h
  have lt : ∀ {i : Nat} {o : Obj}, w.heap[i]? = some o → i < w.heap.size := fun h => (Array.getElem?_eq_some_iff.1 h).1
  exact ⟨lt a1, lt a2, lt a3, World.block_lt_of_cell? w _ a4, lt a9⟩
theorem TabAt.iter {b pl M1 M2 : Nat} {s : Value} {k : Nat} {w0 w : World} (h : TabAt b pl M1 M2 s k w0 w) (t : ByteArray) : TabAt b pl M1 M2 s k w0 (w.drew.iter t 0) := by
  obtain ⟨g1, g2, g3, g4, g5⟩ := h.its
  refine h.keep (it := w.heap.size) rfl rfl rfl ?_ (fun i _ hi => ?_) (by omega) (by omega) (by omega) (by omega) g5
  · show w.heap.size ≤ (w.heap.push _).size
    simp
  · have := heap_old (w := w) (i := i) (o := w.heap[i]) (by rw [Array.getElem?_eq_getElem hi]) (.stringIter t 0)
    rw [Array.getElem?_eq_getElem hi]; exact this
theorem set_world {T p : World → Prop} {W : World} (hT : T W) (h : ∀ W, T W → p W) : p W := h W hT
theorem row_al {w W : World} {b : Nat} (h : w.grownBy W (some b)) (o : Obj) : w.grownBy (W.alloc o) (some b) :=
  ⟨h.os, h.tape, h.output, by have := h.size; simp; omega, fun k hk hr => by
    have hlt : k < W.heap.size := Nat.lt_of_lt_of_le hk h.size
    have := heap_old (w := W) (i := k) (o := W.heap[k]) (by rw [Array.getElem?_eq_getElem hlt]) o
    rw [this, ← h.block k hk hr, Array.getElem?_eq_getElem hlt]⟩
theorem row_set {w W : World} {b : Nat} (h : w.grownBy W (some b)) (i : Nat) (v : Value) : w.grownBy (W.setCell ⟨b, i, none⟩ v) (some b) :=
  ⟨h.os, h.tape, h.output, by rw [setCell_size]; exact h.size, fun k hk hr => by
    have hb : k ≠ b := fun e => hr (by rw [e])
    rw [heap_setCell_other _ _ _ _ (by simpa using hb)]; exact h.block k hk hr⟩
theorem heap_set_eq {w : World} {b : Nat} {cs : Array Value} {t : TypeId} {fz : Nat × Nat} (h : w.heap[b]? = some (.cells cs t fz)) (i : Nat) (v : Value) : (w.setCell ⟨b, i, none⟩ v).heap[b]? = some (.cells (cs.setIfInBounds i v) t fz) := by
  simp [World.setCell, Array.getElem?_modify, h]
set_option maxHeartbeats 4000000 in
theorem table_fill1 (b pl : Nat) (s x3 x4 x5 : Value) (w : World) (hne : pl ≠ b) (hp : w.cell? ⟨pl, 0, none⟩ = some (.pointer (some ⟨b, 0, none⟩))) (hz : w.heap[b]? = some (.cells #[.int .u32 0, .int .i32 1, s, x3, x4, x5] 81)) :
    Calls Tryz.prog 57 #[.pointer (some ⟨pl, 0, none⟩)] w fun e w' => e = .returned (.tuple #[]) ∧ ∃ M1 M2, TabAt b pl M1 M2 s 5 w w' := by
  have hbl : b < w.heap.size := (Array.getElem?_eq_some_iff.1 hz).1
  have hpl : pl < w.heap.size := World.block_lt_of_cell? w _ hp
  have z1 := heap_old hz obW
  obtain ⟨W1, hW1⟩ : ∃ W1, (w.alloc obW).setCell ⟨b, 5, none⟩ (.slice (some ⟨w.heap.size, 0, none⟩) 5 5) = W1 := ⟨_, rfl⟩
  have y1 : W1.heap[b]? = some (.cells #[.int .u32 0, .int .i32 1, s, x3, x4, .slice (some ⟨w.heap.size, 0, none⟩) 5 5] 81) := by rw [← hW1]; simp [World.setCell, Array.getElem?_modify, z1]
  have n1 : W1.heap[w.heap.size]? = some obW := by rw [← hW1]; exact heap_set_ne (heap_new w obW) (by simp only []; omega)
  have g1 : w.grownBy W1 (some b) := by rw [← hW1]; exact row_put (row_refl w _) _ _ _
  have p1 : W1.cell? ⟨pl, 0, none⟩ = some (.pointer (some ⟨b, 0, none⟩)) := by
    rw [World.cell?_of_block (g1.block pl hpl (by simpa using hne))]; exact hp
  have c5 : (w.alloc obW).cell? ⟨b, 5, none⟩ = some x5 := by simp [World.cell?, z1]
  have f5 : (w.alloc obW).frozen? ⟨b, 5, none⟩ = false := by simp [World.frozen?, z1]
  have hm1 : ∀ w, (Instr.makeMap 77 none).run Tryz.prog w = .ok (.map (some w.heap.size)) (w.alloc (.map #[] 0)) := fun w => run_makeMap _ _
  have hm2 : ∀ w, (Instr.makeMap 78 none).run Tryz.prog w = .ok (.map (some w.heap.size)) (w.alloc (.map #[] 0)) := fun w => run_makeMap _ _
  have c3_ : W1.cell? ⟨b, 3, none⟩ = some x3 := by have := y1; simp [World.cell?, this]
  have f3_ : W1.frozen? ⟨b, 3, none⟩ = false := by have := y1; simp [World.frozen?, this]
  have c4_ : W1.cell? ⟨b, 4, none⟩ = some x4 := by have := y1; simp [World.cell?, this]
  have f4_ : W1.frozen? ⟨b, 4, none⟩ = false := by have := y1; simp [World.frozen?, this]
  have y_A : (W1.alloc (.map #[] 0)).heap[b]? = some (.cells #[.int .u32 0, .int .i32 1, s, x3, x4, .slice (some ⟨w.heap.size, 0, none⟩) 5 5] 81) := heap_old (y1) _
  have p_A : (W1.alloc (.map #[] 0)).cell? ⟨pl, 0, none⟩ = some (.pointer (some ⟨b, 0, none⟩)) := cel_al (p1) _
  have c3_A : (W1.alloc (.map #[] 0)).cell? ⟨b, 3, none⟩ = some x3 := by have := y_A; simp [World.cell?, this]
  have f3_A : (W1.alloc (.map #[] 0)).frozen? ⟨b, 3, none⟩ = false := by have := y_A; simp [World.frozen?, this]
  have c4_A : (W1.alloc (.map #[] 0)).cell? ⟨b, 4, none⟩ = some x4 := by have := y_A; simp [World.cell?, this]
  have f4_A : (W1.alloc (.map #[] 0)).frozen? ⟨b, 4, none⟩ = false := by have := y_A; simp [World.frozen?, this]
  have y_3 : ∀ v, (W1.setCell ⟨b, 3, none⟩ v).heap[b]? = some (.cells #[.int .u32 0, .int .i32 1, s, v, x4, .slice (some ⟨w.heap.size, 0, none⟩) 5 5] 81) := fun v => (heap_set_eq (y1) 3 v).trans rfl
  have p_3 : ∀ v, (W1.setCell ⟨b, 3, none⟩ v).cell? ⟨pl, 0, none⟩ = some (.pointer (some ⟨b, 0, none⟩)) := fun v => by rw [World.cell?_setCell_other _ _ _ _ (by intro e; injection e with e _ _; omega)]; exact p1
  have c4_3 : ∀ v, (W1.setCell ⟨b, 3, none⟩ v).cell? ⟨b, 4, none⟩ = some x4 := fun v => by have := y_3 v; simp [World.cell?, this]
  have f4_3 : ∀ v, (W1.setCell ⟨b, 3, none⟩ v).frozen? ⟨b, 4, none⟩ = false := fun v => by have := y_3 v; simp [World.frozen?, this]
  have y_AA : ((W1.alloc (.map #[] 0)).alloc (.map #[] 0)).heap[b]? = some (.cells #[.int .u32 0, .int .i32 1, s, x3, x4, .slice (some ⟨w.heap.size, 0, none⟩) 5 5] 81) := heap_old (y_A) _
  have p_AA : ((W1.alloc (.map #[] 0)).alloc (.map #[] 0)).cell? ⟨pl, 0, none⟩ = some (.pointer (some ⟨b, 0, none⟩)) := cel_al (p_A) _
  have c3_AA : ((W1.alloc (.map #[] 0)).alloc (.map #[] 0)).cell? ⟨b, 3, none⟩ = some x3 := by have := y_AA; simp [World.cell?, this]
  have f3_AA : ((W1.alloc (.map #[] 0)).alloc (.map #[] 0)).frozen? ⟨b, 3, none⟩ = false := by have := y_AA; simp [World.frozen?, this]
  have c4_AA : ((W1.alloc (.map #[] 0)).alloc (.map #[] 0)).cell? ⟨b, 4, none⟩ = some x4 := by have := y_AA; simp [World.cell?, this]
  have f4_AA : ((W1.alloc (.map #[] 0)).alloc (.map #[] 0)).frozen? ⟨b, 4, none⟩ = false := by have := y_AA; simp [World.frozen?, this]
  have y_A3 : ∀ v, ((W1.alloc (.map #[] 0)).setCell ⟨b, 3, none⟩ v).heap[b]? = some (.cells #[.int .u32 0, .int .i32 1, s, v, x4, .slice (some ⟨w.heap.size, 0, none⟩) 5 5] 81) := fun v => (heap_set_eq (y_A) 3 v).trans rfl
  have p_A3 : ∀ v, ((W1.alloc (.map #[] 0)).setCell ⟨b, 3, none⟩ v).cell? ⟨pl, 0, none⟩ = some (.pointer (some ⟨b, 0, none⟩)) := fun v => by rw [World.cell?_setCell_other _ _ _ _ (by intro e; injection e with e _ _; omega)]; exact p_A
  have c4_A3 : ∀ v, ((W1.alloc (.map #[] 0)).setCell ⟨b, 3, none⟩ v).cell? ⟨b, 4, none⟩ = some x4 := fun v => by have := y_A3 v; simp [World.cell?, this]
  have f4_A3 : ∀ v, ((W1.alloc (.map #[] 0)).setCell ⟨b, 3, none⟩ v).frozen? ⟨b, 4, none⟩ = false := fun v => by have := y_A3 v; simp [World.frozen?, this]
  have y_3A : ∀ v, ((W1.setCell ⟨b, 3, none⟩ v).alloc (.map #[] 0)).heap[b]? = some (.cells #[.int .u32 0, .int .i32 1, s, v, x4, .slice (some ⟨w.heap.size, 0, none⟩) 5 5] 81) := fun v => heap_old (y_3 v) _
  have p_3A : ∀ v, ((W1.setCell ⟨b, 3, none⟩ v).alloc (.map #[] 0)).cell? ⟨pl, 0, none⟩ = some (.pointer (some ⟨b, 0, none⟩)) := fun v => cel_al (p_3 v) _
  have c4_3A : ∀ v, ((W1.setCell ⟨b, 3, none⟩ v).alloc (.map #[] 0)).cell? ⟨b, 4, none⟩ = some x4 := fun v => by have := y_3A v; simp [World.cell?, this]
  have f4_3A : ∀ v, ((W1.setCell ⟨b, 3, none⟩ v).alloc (.map #[] 0)).frozen? ⟨b, 4, none⟩ = false := fun v => by have := y_3A v; simp [World.frozen?, this]
  have y_34 : ∀ v u, ((W1.setCell ⟨b, 3, none⟩ v).setCell ⟨b, 4, none⟩ u).heap[b]? = some (.cells #[.int .u32 0, .int .i32 1, s, v, u, .slice (some ⟨w.heap.size, 0, none⟩) 5 5] 81) := fun v u => (heap_set_eq (y_3 v) 4 u).trans rfl
  have p_34 : ∀ v u, ((W1.setCell ⟨b, 3, none⟩ v).setCell ⟨b, 4, none⟩ u).cell? ⟨pl, 0, none⟩ = some (.pointer (some ⟨b, 0, none⟩)) := fun v u => by rw [World.cell?_setCell_other _ _ _ _ (by intro e; injection e with e _ _; omega)]; exact p_3 v
  have y_AA3 : ∀ v, (((W1.alloc (.map #[] 0)).alloc (.map #[] 0)).setCell ⟨b, 3, none⟩ v).heap[b]? = some (.cells #[.int .u32 0, .int .i32 1, s, v, x4, .slice (some ⟨w.heap.size, 0, none⟩) 5 5] 81) := fun v => (heap_set_eq (y_AA) 3 v).trans rfl
  have p_AA3 : ∀ v, (((W1.alloc (.map #[] 0)).alloc (.map #[] 0)).setCell ⟨b, 3, none⟩ v).cell? ⟨pl, 0, none⟩ = some (.pointer (some ⟨b, 0, none⟩)) := fun v => by rw [World.cell?_setCell_other _ _ _ _ (by intro e; injection e with e _ _; omega)]; exact p_AA
  have c4_AA3 : ∀ v, (((W1.alloc (.map #[] 0)).alloc (.map #[] 0)).setCell ⟨b, 3, none⟩ v).cell? ⟨b, 4, none⟩ = some x4 := fun v => by have := y_AA3 v; simp [World.cell?, this]
  have f4_AA3 : ∀ v, (((W1.alloc (.map #[] 0)).alloc (.map #[] 0)).setCell ⟨b, 3, none⟩ v).frozen? ⟨b, 4, none⟩ = false := fun v => by have := y_AA3 v; simp [World.frozen?, this]
  have y_A3A : ∀ v, (((W1.alloc (.map #[] 0)).setCell ⟨b, 3, none⟩ v).alloc (.map #[] 0)).heap[b]? = some (.cells #[.int .u32 0, .int .i32 1, s, v, x4, .slice (some ⟨w.heap.size, 0, none⟩) 5 5] 81) := fun v => heap_old (y_A3 v) _
  have p_A3A : ∀ v, (((W1.alloc (.map #[] 0)).setCell ⟨b, 3, none⟩ v).alloc (.map #[] 0)).cell? ⟨pl, 0, none⟩ = some (.pointer (some ⟨b, 0, none⟩)) := fun v => cel_al (p_A3 v) _
  have c4_A3A : ∀ v, (((W1.alloc (.map #[] 0)).setCell ⟨b, 3, none⟩ v).alloc (.map #[] 0)).cell? ⟨b, 4, none⟩ = some x4 := fun v => by have := y_A3A v; simp [World.cell?, this]
  have f4_A3A : ∀ v, (((W1.alloc (.map #[] 0)).setCell ⟨b, 3, none⟩ v).alloc (.map #[] 0)).frozen? ⟨b, 4, none⟩ = false := fun v => by have := y_A3A v; simp [World.frozen?, this]
  have y_A34 : ∀ v u, (((W1.alloc (.map #[] 0)).setCell ⟨b, 3, none⟩ v).setCell ⟨b, 4, none⟩ u).heap[b]? = some (.cells #[.int .u32 0, .int .i32 1, s, v, u, .slice (some ⟨w.heap.size, 0, none⟩) 5 5] 81) := fun v u => (heap_set_eq (y_A3 v) 4 u).trans rfl
  have p_A34 : ∀ v u, (((W1.alloc (.map #[] 0)).setCell ⟨b, 3, none⟩ v).setCell ⟨b, 4, none⟩ u).cell? ⟨pl, 0, none⟩ = some (.pointer (some ⟨b, 0, none⟩)) := fun v u => by rw [World.cell?_setCell_other _ _ _ _ (by intro e; injection e with e _ _; omega)]; exact p_A3 v
  have y_3AA : ∀ v, (((W1.setCell ⟨b, 3, none⟩ v).alloc (.map #[] 0)).alloc (.map #[] 0)).heap[b]? = some (.cells #[.int .u32 0, .int .i32 1, s, v, x4, .slice (some ⟨w.heap.size, 0, none⟩) 5 5] 81) := fun v => heap_old (y_3A v) _
  have p_3AA : ∀ v, (((W1.setCell ⟨b, 3, none⟩ v).alloc (.map #[] 0)).alloc (.map #[] 0)).cell? ⟨pl, 0, none⟩ = some (.pointer (some ⟨b, 0, none⟩)) := fun v => cel_al (p_3A v) _
  have c4_3AA : ∀ v, (((W1.setCell ⟨b, 3, none⟩ v).alloc (.map #[] 0)).alloc (.map #[] 0)).cell? ⟨b, 4, none⟩ = some x4 := fun v => by have := y_3AA v; simp [World.cell?, this]
  have f4_3AA : ∀ v, (((W1.setCell ⟨b, 3, none⟩ v).alloc (.map #[] 0)).alloc (.map #[] 0)).frozen? ⟨b, 4, none⟩ = false := fun v => by have := y_3AA v; simp [World.frozen?, this]
  have y_3A4 : ∀ v u, (((W1.setCell ⟨b, 3, none⟩ v).alloc (.map #[] 0)).setCell ⟨b, 4, none⟩ u).heap[b]? = some (.cells #[.int .u32 0, .int .i32 1, s, v, u, .slice (some ⟨w.heap.size, 0, none⟩) 5 5] 81) := fun v u => (heap_set_eq (y_3A v) 4 u).trans rfl
  have p_3A4 : ∀ v u, (((W1.setCell ⟨b, 3, none⟩ v).alloc (.map #[] 0)).setCell ⟨b, 4, none⟩ u).cell? ⟨pl, 0, none⟩ = some (.pointer (some ⟨b, 0, none⟩)) := fun v u => by rw [World.cell?_setCell_other _ _ _ _ (by intro e; injection e with e _ _; omega)]; exact p_3A v
  have y_34A : ∀ v u, (((W1.setCell ⟨b, 3, none⟩ v).setCell ⟨b, 4, none⟩ u).alloc (.map #[] 0)).heap[b]? = some (.cells #[.int .u32 0, .int .i32 1, s, v, u, .slice (some ⟨w.heap.size, 0, none⟩) 5 5] 81) := fun v u => heap_old (y_34 v u) _
  have p_34A : ∀ v u, (((W1.setCell ⟨b, 3, none⟩ v).setCell ⟨b, 4, none⟩ u).alloc (.map #[] 0)).cell? ⟨pl, 0, none⟩ = some (.pointer (some ⟨b, 0, none⟩)) := fun v u => cel_al (p_34 v u) _
  have y_AA34 : ∀ v u, ((((W1.alloc (.map #[] 0)).alloc (.map #[] 0)).setCell ⟨b, 3, none⟩ v).setCell ⟨b, 4, none⟩ u).heap[b]? = some (.cells #[.int .u32 0, .int .i32 1, s, v, u, .slice (some ⟨w.heap.size, 0, none⟩) 5 5] 81) := fun v u => (heap_set_eq (y_AA3 v) 4 u).trans rfl
  have p_AA34 : ∀ v u, ((((W1.alloc (.map #[] 0)).alloc (.map #[] 0)).setCell ⟨b, 3, none⟩ v).setCell ⟨b, 4, none⟩ u).cell? ⟨pl, 0, none⟩ = some (.pointer (some ⟨b, 0, none⟩)) := fun v u => by rw [World.cell?_setCell_other _ _ _ _ (by intro e; injection e with e _ _; omega)]; exact p_AA3 v
  have y_A3A4 : ∀ v u, ((((W1.alloc (.map #[] 0)).setCell ⟨b, 3, none⟩ v).alloc (.map #[] 0)).setCell ⟨b, 4, none⟩ u).heap[b]? = some (.cells #[.int .u32 0, .int .i32 1, s, v, u, .slice (some ⟨w.heap.size, 0, none⟩) 5 5] 81) := fun v u => (heap_set_eq (y_A3A v) 4 u).trans rfl
  have p_A3A4 : ∀ v u, ((((W1.alloc (.map #[] 0)).setCell ⟨b, 3, none⟩ v).alloc (.map #[] 0)).setCell ⟨b, 4, none⟩ u).cell? ⟨pl, 0, none⟩ = some (.pointer (some ⟨b, 0, none⟩)) := fun v u => by rw [World.cell?_setCell_other _ _ _ _ (by intro e; injection e with e _ _; omega)]; exact p_A3A v
  have y_A34A : ∀ v u, ((((W1.alloc (.map #[] 0)).setCell ⟨b, 3, none⟩ v).setCell ⟨b, 4, none⟩ u).alloc (.map #[] 0)).heap[b]? = some (.cells #[.int .u32 0, .int .i32 1, s, v, u, .slice (some ⟨w.heap.size, 0, none⟩) 5 5] 81) := fun v u => heap_old (y_A34 v u) _
  have p_A34A : ∀ v u, ((((W1.alloc (.map #[] 0)).setCell ⟨b, 3, none⟩ v).setCell ⟨b, 4, none⟩ u).alloc (.map #[] 0)).cell? ⟨pl, 0, none⟩ = some (.pointer (some ⟨b, 0, none⟩)) := fun v u => cel_al (p_A34 v u) _
  have y_3AA4 : ∀ v u, ((((W1.setCell ⟨b, 3, none⟩ v).alloc (.map #[] 0)).alloc (.map #[] 0)).setCell ⟨b, 4, none⟩ u).heap[b]? = some (.cells #[.int .u32 0, .int .i32 1, s, v, u, .slice (some ⟨w.heap.size, 0, none⟩) 5 5] 81) := fun v u => (heap_set_eq (y_3AA v) 4 u).trans rfl
  have p_3AA4 : ∀ v u, ((((W1.setCell ⟨b, 3, none⟩ v).alloc (.map #[] 0)).alloc (.map #[] 0)).setCell ⟨b, 4, none⟩ u).cell? ⟨pl, 0, none⟩ = some (.pointer (some ⟨b, 0, none⟩)) := fun v u => by rw [World.cell?_setCell_other _ _ _ _ (by intro e; injection e with e _ _; omega)]; exact p_3AA v
  have y_3A4A : ∀ v u, ((((W1.setCell ⟨b, 3, none⟩ v).alloc (.map #[] 0)).setCell ⟨b, 4, none⟩ u).alloc (.map #[] 0)).heap[b]? = some (.cells #[.int .u32 0, .int .i32 1, s, v, u, .slice (some ⟨w.heap.size, 0, none⟩) 5 5] 81) := fun v u => heap_old (y_3A4 v u) _
  have p_3A4A : ∀ v u, ((((W1.setCell ⟨b, 3, none⟩ v).alloc (.map #[] 0)).setCell ⟨b, 4, none⟩ u).alloc (.map #[] 0)).cell? ⟨pl, 0, none⟩ = some (.pointer (some ⟨b, 0, none⟩)) := fun v u => cel_al (p_3A4 v u) _
  have y_34AA : ∀ v u, ((((W1.setCell ⟨b, 3, none⟩ v).setCell ⟨b, 4, none⟩ u).alloc (.map #[] 0)).alloc (.map #[] 0)).heap[b]? = some (.cells #[.int .u32 0, .int .i32 1, s, v, u, .slice (some ⟨w.heap.size, 0, none⟩) 5 5] 81) := fun v u => heap_old (y_34A v u) _
  have p_34AA : ∀ v u, ((((W1.setCell ⟨b, 3, none⟩ v).setCell ⟨b, 4, none⟩ u).alloc (.map #[] 0)).alloc (.map #[] 0)).cell? ⟨pl, 0, none⟩ = some (.pointer (some ⟨b, 0, none⟩)) := fun v u => cel_al (p_34A v u) _
  unfold obW at *
  have szA : (W1.alloc (.map #[] 0)).heap.size = W1.heap.size + 1 := by simp
  have hbW : b < W1.heap.size := (Array.getElem?_eq_some_iff.1 y1).1
  have hsW : W1.heap.size = w.heap.size + 1 := by rw [← hW1, setCell_size]; simp
  have T1 : TabAt b pl W1.heap.size (W1.heap.size + 1) s 0 w ((((W1.alloc (.map #[] 0)).setCell ⟨b, 3, none⟩ (.map (some W1.heap.size))).alloc (.map #[] 0)).setCell ⟨b, 4, none⟩ (.map (some (W1.heap.size + 1)))) := by
    refine ⟨y_A3A4 _ _, ?_, ?_, p_A3A4 _ _, ?_, by omega, by omega, by omega, ?_⟩
    · exact heap_set_ne (heap_old (heap_set_ne (heap_new _ _) (by simp only []; omega)) _) (by simp only []; omega)
    · refine heap_set_ne ?_ (by simp only []; omega)
      have := heap_new ((W1.alloc (.map #[] 0)).setCell ⟨b, 3, none⟩ (.map (some W1.heap.size))) (.map #[] 0)
      rw [setCell_size, szA] at this; exact this
    · exact row_set (row_al (row_set (row_al g1 _) _ _) _) _ _
    · exact heap_set_ne (heap_old (heap_set_ne (heap_old n1 _) (by simp only []; omega)) _) (by simp only []; omega)
  have T2 : TabAt b pl W1.heap.size (W1.heap.size + 1) s 0 w ((((W1.alloc (.map #[] 0)).alloc (.map #[] 0)).setCell ⟨b, 3, none⟩ (.map (some W1.heap.size))).setCell ⟨b, 4, none⟩ (.map (some (W1.heap.size + 1)))) := by
    refine ⟨y_AA34 _ _, ?_, ?_, p_AA34 _ _, ?_, by omega, by omega, by omega, ?_⟩
    · exact heap_set_ne (heap_set_ne (heap_old (heap_new _ _) _) (by simp only []; omega)) (by simp only []; omega)
    · refine heap_set_ne (heap_set_ne ?_ (by simp only []; omega)) (by simp only []; omega)
      have := heap_new (W1.alloc (.map #[] 0)) (.map #[] 0)
      rw [szA] at this; exact this
    · exact row_set (row_set (row_al (row_al g1 _) _) _ _) _ _
    · exact heap_set_ne (heap_set_ne (heap_old (heap_old n1 _) _) (by simp only []; omega)) (by simp only []; omega)
  have T3 : TabAt b pl (W1.heap.size + 1) W1.heap.size s 0 w ((((W1.alloc (.map #[] 0)).alloc (.map #[] 0)).setCell ⟨b, 3, none⟩ (.map (some (W1.heap.size + 1)))).setCell ⟨b, 4, none⟩ (.map (some W1.heap.size))) := by
    refine ⟨y_AA34 _ _, ?_, ?_, p_AA34 _ _, ?_, by omega, by omega, by omega, ?_⟩
    · refine heap_set_ne (heap_set_ne ?_ (by simp only []; omega)) (by simp only []; omega)
      have := heap_new (W1.alloc (.map #[] 0)) (.map #[] 0)
      rw [szA] at this; exact this
    · exact heap_set_ne (heap_set_ne (heap_old (heap_new _ _) _) (by simp only []; omega)) (by simp only []; omega)
    · exact row_set (row_set (row_al (row_al g1 _) _) _ _) _ _
    · exact heap_set_ne (heap_set_ne (heap_old (heap_old n1 _) _) (by simp only []; omega)) (by simp only []; omega)
  have HT1 := Lib.hid T1
  have HT2 := Lib.hid T2
  have HT3 := Lib.hid T3
  clear T1 T2 T3 hsW szA hbW
  go_enter Tryz.func57, Tryz.ntmps57
  go_wp2
  go_region
  all_goals refine set_world (T := fun W => ∃ M1 M2, TabAt b pl M1 M2 s 0 w W) (p := fun W => Exit.then _ _ Exit.normal _ W.drew) (by first | exact ⟨_, _, HT1.out⟩ | exact ⟨_, _, HT2.out⟩ | exact ⟨_, _, HT3.out⟩) ?_
  all_goals intro W2 hT
  all_goals obtain ⟨M1, M2, hT⟩ := hT
  all_goals have hi := hT.its
  all_goals have T0 := hT.iter (strN)
  all_goals have H0 := Lib.hid (And.intro T0 (World.iter_heap W2.drew strN 0))
  all_goals clear T0 hT HT1 HT2 HT3 hm1 hm2 hz z1 hW1 y1 n1 g1 p1 c5 f5 c3_ f3_ c4_ f4_ y_A p_A c3_A f3_A c4_A f4_A y_3 p_3 c4_3 f4_3 y_AA p_AA c3_AA f3_AA c4_AA f4_AA y_A3 p_A3 c4_A3 f4_A3 y_3A p_3A c4_3A f4_3A y_34 p_34 y_AA3 p_AA3 c4_AA3 f4_AA3 y_A3A p_A3A c4_A3A f4_A3A y_A34 p_A34 y_3AA p_3AA c4_3AA f4_3AA y_3A4 p_3A4 y_34A p_34A y_AA34 p_AA34 y_A3A4 p_A3A4 y_A34A p_A34A y_3AA4 p_3AA4 y_3A4A p_3A4A y_34AA p_34AA
  all_goals unfold strN at H0
  all_goals obtain ⟨it, hit⟩ : ∃ it, W2.heap.size = it := ⟨_, rfl⟩
  all_goals go_wp2
  all_goals
    go_loopw [1, 2] (fun _ _ wr => ∃ k : Nat, k ≤ 5 ∧ TabAt b pl M1 M2 s k w wr ∧ wr.heap[it]? = some (.stringIter strN k)) (fun _ _ wr => 5 - wr.iterPos it)
    case atStart => exact ⟨0, by omega, H0.out.1, by rw [← hit]; exact H0.out.2⟩
    case round =>
      clear H0
      obtain ⟨k, hk, hT, hI⟩ := hrel
      by_cases h5 : k < 5
      · obtain ⟨V1, V2, V3, V4, V5, n1, ⟨l1, l2, l3⟩, n2, ⟨l4, l5, l6⟩, n3, ⟨l7, l8, l9⟩, n4, n5, T5, I5⟩ := tab_round hT h5 hI (by omega) (by omega) (by omega) (by omega) (by omega) hbl hpl
        obtain ⟨r, hr⟩ : ∃ r, rsL.getD k 0 = r := ⟨_, rfl⟩
        rw [hr] at n1 n2 n5
        have HE := Lib.hid (And.intro T5 I5)
        have HI := Lib.hid hI
        clear T5 I5 hI hT hi hne hr
        go_wp2
        go_region
        all_goals
          go_roundw
          case rel =>
            exact ⟨_, _, _, _, _, _, _, _, _, _, _, _, _, _, _, _, _, _, _, _, _, _, ⟨k + 1, by omega, HE.out.1, HE.out.2⟩, rfl⟩
          case measure => simp [World.iterPos, HE.out.2, HI.out]; omega
      · have hn := Lib.run_next_end_at (P := Tryz.prog) wr it strN k 0 hI (by intro h; exact h5 h)
        go_wp2
        go_end0
        obtain rfl : k = 5 := by omega
        exact ⟨rfl, M1, M2, hT⟩
end Go.Proofs.YtbcjhmeeonhmaaaGreatDoor.H
end

/-
(*escape.writer).write: a strings.Builder inside another struct, and a count beside it.
-/
section
set_option linter.unusedVariables false
set_option maxRecDepth 100000
namespace Go.Proofs.YtbcjhmeeonhmaaaGreatDoor.H
open Go Go.RowKit

/-- A writer: its builder's bytes, and its count. -/
def WrtAt (B b : Nat) (p : Value) (bs : List Value) (n : Int) (w : World) : Prop :=
  B ≤ b ∧ ∃ v, w.heap[b]? = some (.cells #[p, v, .int .i64 n] 54 (0, 0)) ∧ w.ownsRowF B 5 1 v bs.length bs ∧ v.ownBlock ≠ some b
def IsWrt (B b : Nat) (bs : List Value) (n : Int) (w : World) : Prop := WrtAt B b (.pointer none) bs n w ∨ WrtAt B b (.pointer (some ⟨b, 0, none⟩)) bs n w
theorem own_ne {w : World} {B : Nat} {v : Value} {n : Nat} {xs : List Value} {b : Nat} {cs : Array Value} (hown : w.ownsRowF B 5 1 v n xs) (hb : w.heap[b]? = some (.cells cs 54 (0, 0))) : v.ownBlock ≠ some b :=
  Lib.ownBlock_neF hown hb (by decide)
theorem own_keep {w : World} {B : Nat} {v : Value} {n : Nat} {xs : List Value} {b : Nat} (hown : w.ownsRowF B 5 1 v n xs) (hne : v.ownBlock ≠ some b) (i : Nat) (q : Value) : (w.setCell ⟨b, i, none⟩ q).ownsRowF B 5 1 v n xs :=
  hown.kept (row := some b) ⟨rfl, rfl, rfl, by simp [World.setCell], fun k _ hk => Below.heap_setCell _ _ _ _ (fun e => hk (by simp [e]))⟩ (Or.inr hne)
set_option maxHeartbeats 1000000 in
theorem wcheck_used (b : Nat) (w : World) (h0 : w.cell? ⟨b, 0, none⟩ = some (.pointer (some ⟨b, 0, none⟩))) :
    Calls Tryz.prog 75 #[.pointer (some ⟨b, 0, none⟩)] w fun e w' => e = .returned (.tuple #[]) ∧ w' = w := copyCheck_used b w h0
set_option maxHeartbeats 1000000 in
theorem wcheck_fresh (b : Nat) (w : World) (h0 : w.cell? ⟨b, 0, none⟩ = some (.pointer none)) (hsh : w.shape? b = some (54, 3)) (hfz : w.frozen? ⟨b, 0, none⟩ = false) :
    Calls Tryz.prog 75 #[.pointer (some ⟨b, 0, none⟩)] w fun e w' => e = .returned (.tuple #[]) ∧ w' = w.setCell ⟨b, 0, none⟩ (.pointer (some ⟨b, 0, none⟩)) := by
  obtain ⟨j, hj, hjs⟩ := Option.map_eq_some_iff.1 sizeBuilder
  have g1 := Lib.run_to_unsafe (P := Tryz.prog) (src := 44) (dst := 125) w ⟨b, 0, none⟩ Tryz.underlying44 Tryz.underlying125 hj (by rw [hjs]; decide) hsh (Nat.zero_lt_succ 2)
  have g2 := fun args => @run_callFunc_extern Tryz.prog 99 _ Extern.AbiNoEscape.same Tryz.func99 (by kernel_rfl) (by kernel_rfl) (by kernel_rfl) (by kernel_rfl) args w
  have g4 : (Extern.AbiNoEscape.same #[.pointer (some ⟨b, 0, none⟩)]).run Tryz.prog w = .ok (.pointer (some ⟨b, 0, none⟩)) w := rfl
  have g3 := Lib.run_from_unsafe (P := Tryz.prog) (src := 125) (dst := 44) w ⟨b, 0, none⟩ Tryz.underlying125 Tryz.underlying44 hj hsh (by kernel_rfl)
  go_enter Tryz.func75, Tryz.ntmps75
  go_wp2
  go_end0
  exact ⟨rfl, rfl⟩
theorem wcheck (B b : Nat) (bs : List Value) (n : Int) (w : World) (h : IsWrt B b bs n w) :
    Calls Tryz.prog 75 #[.pointer (some ⟨b, 0, none⟩)] w fun e w' => e = .returned (.tuple #[]) ∧ WrtAt B b (.pointer (some ⟨b, 0, none⟩)) bs n w' ∧ Below B w w' ∧ Lib.OthersKept 5 (some b) w w' := by
  rcases h with ⟨hB, v, hb, hown, hne⟩ | ⟨hB, v, hb, hown, hne⟩
  · refine (wcheck_fresh b w (by simp [World.cell?, hb]) (by simp [World.shape?, hb]) (by simp [World.frozen?, hb])).mono ?_
    rintro e w' ⟨rfl, rfl⟩
    exact ⟨rfl, ⟨hB, v, (heap_set_eq hb 0 _).trans rfl, own_keep hown hne _ _, hne⟩, (Below.refl B w).setCell (p := ⟨b, 0, none⟩) hB _, (Lib.OthersKept.refl _ _ w).setCell ⟨b, 0, none⟩ rfl _⟩
  · refine (wcheck_used b w (by simp [World.cell?, hb])).mono ?_
    rintro e w' ⟨rfl, rfl⟩
    exact ⟨rfl, ⟨hB, v, hb, hown, hne⟩, Below.refl B _, Lib.OthersKept.refl _ _ _⟩
set_option maxHeartbeats 2000000 in
theorem wString (B b : Nat) (bs : List Value) (n : Int) (s : ByteArray) (w : World) (h : IsWrt B b bs n w) (hlen : bs.length + s.size ≤ 140737488355328) (hBw : B ≤ w.heap.size) :
    Calls Tryz.prog 48 #[.pointer (some ⟨b, 0, none⟩), .string s] w fun e w' => e = .returned (.tuple #[.int .i64 s.size, .nilIface]) ∧ WrtAt B b (.pointer (some ⟨b, 0, none⟩)) (bs ++ Lib.strCells s) n w' ∧ Below B w w' ∧ Lib.OthersKept 5 (some b) w w' := by
  obtain ⟨i0, hi, hz0, hz1, hz2⟩ := info_parts infoByte
  go_enter Tryz.func48, Tryz.ntmps48
  go_wp2_with fail
  refine (wcheck B b bs n _ h).mono ?_
  rintro e w1 ⟨rfl, h1, hb1, hk1⟩
  obtain ⟨hB, v, hbk, hown, hne⟩ := h1
  have c0 : w1.cell? ⟨b, 0, none⟩ = some (.pointer (some ⟨b, 0, none⟩)) := by rw [Lib.cell_of_heap hbk]; rfl
  have c1 : w1.cell? ⟨b, 1, none⟩ = some v := by rw [Lib.cell_of_heap hbk]; rfl
  go_wp2_with (at_builtin; refine Lib.wpList_append_own_stringF _ rfl _ _ 45 9 rfl B 5 i0 Tryz.underlying45 Tryz.underlying9 hi hz0 hz1 hz2 _ _ _ rfl hown s rfl ?c3 ?c4 ?c5 ?_)
  case c3 => unfold maxLen; omega
  case c4 => omega
  case c5 => have := hb1.size; omega
  intro v' w2 hown' hgrow _
  have hlt : b < w1.heap.size := (Array.getElem?_eq_some_iff.1 hbk).1
  have hb2 : w2.heap[b]? = some (.cells #[.pointer (some ⟨b, 0, none⟩), v, .int .i64 n] 54 (0, 0)) := by
    rw [hgrow.block b hlt (fun e => hne e.symm)]
    exact hbk
  have d0 : w2.cell? ⟨b, 0, none⟩ = some (.pointer (some ⟨b, 0, none⟩)) := by rw [Lib.cell_of_heap hb2]; rfl
  have d1 : w2.cell? ⟨b, 1, none⟩ = some v := by rw [Lib.cell_of_heap hb2]; rfl
  have f1 : w2.frozen? ⟨b, 1, none⟩ = false := Lib.frozen_of_heap hb2 1
  obtain ⟨ao, n', cap, rfl⟩ : ∃ ao n' cap, v' = .slice ao n' cap := by
    rcases hown'.2 with ⟨hv, _⟩ | ⟨g, cap, cur, fz, hv, _⟩
    · exact ⟨_, _, _, hv⟩
    · exact ⟨_, _, _, hv⟩
  go_wp2
  go_ret2
  have hown2 : w2.ownsRowF B 5 1 (.slice ao n' cap) (bs ++ Lib.strCells s).length (bs ++ Lib.strCells s) := by simpa [Lib.strCells_length] using hown'
  have hne2 := own_ne hown2 hb2
  refine ⟨rfl, ⟨hB, _, (heap_set_eq hb2 1 _).trans rfl, own_keep hown2 hne2 _ _, hne2⟩, ?_, (hk1.grown hgrow (Lib.ownsRowF_kind hown)).setCell ⟨b, 1, none⟩ rfl _⟩
  exact (hb1.grown hgrow (by have := hb1.size; omega) (fun k hk => (hown.lt k hk).1)).setCell (p := ⟨b, 1, none⟩) hB _
theorem addW (b : Nat) (x d : Int) {w : World} (hc : w.cell? ⟨b, 2, none⟩ = some (.int .i64 x)) (hz : w.frozen? ⟨b, 2, none⟩ = false) (h0 : 0 ≤ x + d) (h1 : x + d ≤ 4611686018427387904) :
    (callFunc 76 #[.pointer (some ⟨b, 2, none⟩), .int .i64 d]).run Tryz.prog w = .ok (.value (.int .i64 (x + d))) (w.setCell ⟨b, 2, none⟩ (.int .i64 (x + d))) :=
  run_call_add Tryz.func76 (by kernel_rfl) (by kernel_rfl) (by kernel_rfl) .i64 (by kernel_rfl) hc hz (by
    have : IntKind.i64.wrap (x + d) = x + d := by simp [IntKind.wrap, IntKind.bits, IntKind.signed]; omega
    go_simp)
set_option maxHeartbeats 2000000 in
/-- write, of one text. -/
theorem write1 (B b L c : Nat) (bs : List Value) (n : Int) (s : ByteArray) (w : World) (h : IsWrt B b bs n w) (hL : w.cell? ⟨L, 0, none⟩ = some (.string s)) (hlen : bs.length + s.size ≤ 140737488355328) (hn : 0 ≤ n ∧ n ≤ 140737488355328) (hBw : B ≤ w.heap.size) :
    Calls Tryz.prog 25 #[.pointer (some ⟨b, 0, none⟩), .slice (some ⟨L, 0, none⟩) 1 c] w fun e w' => e = .returned (.tuple #[]) ∧ WrtAt B b (.pointer (some ⟨b, 0, none⟩)) (bs ++ Lib.strCells s) (n + s.size) w' ∧ Below B w w' ∧ Lib.OthersKept 5 (some b) w w' := by
  have HW := Lib.hid (wString B b bs n s w h hlen hBw)
  have HL := Lib.hid hlen
  clear h hlen
  go_enter Tryz.func25, Tryz.ntmps25
  go_wp2
  refine wp_loop_rounds 2 ?_
  rw [rounds_succ]
  go_wp2_with fail
  refine HW.out.mono ?_
  rintro e w1 ⟨rfl, ⟨hB, v, hbk, hown, hne⟩, hb1, hk1⟩
  have c2 : w1.cell? ⟨b, 2, none⟩ = some (.int .i64 n) := by rw [Lib.cell_of_heap hbk]; rfl
  have f2 : w1.frozen? ⟨b, 2, none⟩ = false := Lib.frozen_of_heap hbk 2
  have hs : s.size ≤ 140737488355328 := by have := HL.out; omega
  have hadd := addW b n s.size c2 f2 (by omega) (by omega)
  obtain ⟨W2, hW2⟩ : ∃ W2, w1.setCell ⟨b, 2, none⟩ (.int .i64 (n + s.size)) = W2 := ⟨_, rfl⟩
  rw [hW2] at hadd
  have HE : Hid (WrtAt B b (.pointer (some ⟨b, 0, none⟩)) (bs ++ Lib.strCells s) (n + s.size) W2 ∧ Below B w W2 ∧ Lib.OthersKept 5 (some b) w W2) := by
    refine Lib.hid ?_
    rw [← hW2]
    exact ⟨⟨hB, v, (heap_set_eq hbk 2 _).trans rfl, own_keep hown hne _ _, hne⟩, hb1.setCell (p := ⟨b, 2, none⟩) hB _, hk1.setCell ⟨b, 2, none⟩ rfl _⟩
  clear hbk hown hne hb1 hk1 hW2 HW
  go_wp2
  rw [rounds_succ]
  go_wp2
  go_end0
  exact ⟨rfl, HE.out⟩
end Go.Proofs.YtbcjhmeeonhmaaaGreatDoor.H
end

/-
(*escape.table).fill: the table, filled; a lookup in it.
-/
section
set_option linter.unusedVariables false
set_option maxRecDepth 100000
namespace Go.Proofs.YtbcjhmeeonhmaaaGreatDoor.H
open Go Go.RowKit

/-- The table's block, filled. -/
def Tbl (b : Nat) (w : World) : Prop := ∃ (M1 M2 c : Nat) (s : Value), w.heap[b]? = some (.cells #[.int .u32 1, .int .i32 0, s, .map (some M1), .map (some M2), .slice (some ⟨c, 0, none⟩) 5 5] 81) ∧
  w.heap[M1]? = some (.map (e1 5) 5) ∧ w.heap[M2]? = some (.map (e2 5) 5) ∧ w.heap[c]? = some obW
theorem Tbl.below {b : Nat} {w w' : World} (h : Tbl b w) (k : Below w.heap.size w w') : Tbl b w' := by
  obtain ⟨M1, M2, c, s, h1, h2, h3, h4⟩ := h
  have lt : ∀ {i : Nat} {o : Obj}, w.heap[i]? = some o → w'.heap[i]? = some o := fun h => (k.block _ (Array.getElem?_eq_some_iff.1 h).1).trans h
  exact ⟨M1, M2, c, s, lt h1, lt h2, lt h3, lt h4⟩
set_option maxHeartbeats 4000000 in
theorem table_fill (b : Nat) (s x3 x4 x5 : Value) (w : World) (hz : w.heap[b]? = some (.cells #[.int .u32 0, .int .i32 0, s, x3, x4, x5] 81)) :
    Calls Tryz.prog 33 #[.pointer (some ⟨b, 0, none⟩)] w fun e w' => e = .returned (.pointer (some ⟨b, 0, none⟩)) ∧ Tbl b w' ∧ w.grownBy w' (some b) := by
  have hmf : ∀ (fn : Fn) (first cap : Array Value) (w : World), (Instr.makeFunc fn first cap).run Tryz.prog w = .ok (.func fn first cap) w := fun _ _ _ _ => rfl
  have hbl : b < w.heap.size := (Array.getElem?_eq_some_iff.1 hz).1
  obtain ⟨W0, hW0⟩ : ∃ W0, w.alloc (.cells #[.pointer (some ⟨b, 0, none⟩)] 66) = W0 := ⟨_, rfl⟩
  have n0 : W0.heap[w.heap.size]? = some (.cells #[.pointer (some ⟨b, 0, none⟩)] 66) := by rw [← hW0]; exact heap_new _ _
  have z0 : W0.heap[b]? = some (.cells #[.int .u32 0, .int .i32 0, s, x3, x4, x5] 81) := by rw [← hW0]; exact heap_old hz _
  have g0 : w.grownBy W0 (some b) := by rw [← hW0]; exact row_al (row_refl w _) _
  have hs0 : W0.heap.size = w.heap.size + 1 := by rw [← hW0]; simp
  have p0 : W0.cell? ⟨w.heap.size, 0, none⟩ = some (.pointer (some ⟨b, 0, none⟩)) := by simp [World.cell?, n0]
  have run : OnceRuns b 57 #[.pointer (some ⟨w.heap.size, 0, none⟩)] W0 (fun w2 => ∃ M1 M2, TabAt b w.heap.size M1 M2 s 5 (W0.setCell ⟨b, 1, none⟩ (.int .i32 1)) w2) := by
    intro w1 hw1
    have hz1 : w1.heap[b]? = some (.cells #[.int .u32 0, .int .i32 1, s, x3, x4, x5] 81) := by rw [hw1]; exact heap_set_eq z0 1 _
    have hp1 : w1.cell? ⟨w.heap.size, 0, none⟩ = some (.pointer (some ⟨b, 0, none⟩)) := by
      rw [hw1, World.cell?_setCell_other _ _ _ _ (by first | (simp; done) | (simp; omega))]; exact p0
    refine (table_fill1 b w.heap.size s x3 x4 x5 w1 (by omega) hp1 hz1).mono ?_
    rintro e w2 ⟨rfl, M1, M2, hT⟩
    have h1 := hT.1
    refine ⟨rfl, by simp [World.cell?, h1], by simp [World.cell?, h1], by simp [World.frozen?, h1], by simp [World.frozen?, h1], M1, M2, ?_⟩
    rw [← hw1]
    exact hT
  have HO := Lib.hid (once_do b _ _ W0 _ (enters _ Tryz.func57 (by kernel_rfl) (by kernel_rfl)) (by simp [World.cell?, z0]) (by simp [World.cell?, z0]) (by simp [World.frozen?, z0]) (by simp [World.frozen?, z0]) run)
  clear run
  go_enter Tryz.func33, Tryz.ntmps33
  go_wp2_with fail
  refine HO.out.mono ?_
  rintro e W3 ⟨rfl, w2, ⟨M1, M2, hT⟩, hW3⟩
  replace hW3 := hW3.symm
  obtain ⟨h1, h2, h3, h4, h5, h6, h7, h8, h9⟩ := hT
  have hsz : (W0.setCell ⟨b, 1, none⟩ (.int .i32 1)).heap.size = W0.heap.size := setCell_size _ _ _
  have k0 : W3.heap[b]? = some (.cells #[.int .u32 1, .int .i32 0, s, .map (some M1), .map (some M2), .slice (some ⟨(W0.setCell ⟨b, 1, none⟩ (.int .i32 1)).heap.size, 0, none⟩) 5 5] 81) := by
    rw [← hW3]; exact heap_set_eq (heap_set_eq (show w2.drew.heap[b]? = _ from h1) 0 _) 1 _
  have kk : ∀ {i : Nat} {o : Obj}, i ≠ b → w2.heap[i]? = some o → W3.heap[i]? = some o := fun hi h => by
    rw [← hW3]
    exact heap_set_ne (heap_set_ne (show w2.drew.heap[_]? = _ from h) (by simp only []; omega)) (by simp only []; omega)
  have gw : w.grownBy W3 (some b) := by
    have hg0 : w.grownBy (W0.setCell ⟨b, 1, none⟩ (.int .i32 1)) (some b) := row_set g0 _ _
    have hg2 : w.grownBy w2 (some b) := ⟨h5.os.trans hg0.os, h5.tape.trans hg0.tape, h5.output.trans hg0.output, Nat.le_trans hg0.size h5.size, fun k hk hr => (h5.block k (Nat.lt_of_lt_of_le hk hg0.size) hr).trans (hg0.block k hk hr)⟩
    rw [← hW3]; exact row_two hg2 _ _ _ _
  have pl : W3.cell? ⟨w.heap.size, 0, none⟩ = some (.pointer (some ⟨b, 0, none⟩)) := by
    have e1 : w2.heap[w.heap.size]? = W0.heap[w.heap.size]? := (h5.block w.heap.size (by rw [hsz]; omega) (by simp; omega)).trans (heap_setCell_other _ _ _ _ (by simp only []; omega))
    have e2 := kk (by omega) (e1.trans n0)
    simp [World.cell?, e2]
  have HE := Lib.hid (show Tbl b W3 ∧ w.grownBy W3 (some b) from ⟨⟨M1, M2, _, s, k0, kk (by omega) h2, kk (by omega) h3, kk (by omega) h9⟩, gw⟩)
  clear k0 kk gw h1 h2 h3 h4 h5 h6 h7 h8 h9 HO hW3 hsz
  go_wp2
  go_ret
  exact ⟨rfl, HE.out⟩
end Go.Proofs.YtbcjhmeeonhmaaaGreatDoor.H
end

section
set_option linter.unusedVariables false
namespace Go.Proofs.YtbcjhmeeonhmaaaGreatDoor.H
open Go Go.RowKit

def dig16 : ByteArray := ⟨#[48, 49, 50, 51, 52, 53, 54, 55, 56, 57, 97, 98, 99, 100, 101, 102]⟩
def ent (c : Nat) : Array MapEntry :=
  if c = 0 then #[] else if c = 1 then #[⟨.int .i64 8, .int .i64 8, 0⟩] else if c = 2 then #[⟨.int .i64 8, .int .i64 8, 0⟩, ⟨.int .i64 10, .int .i64 10, 1⟩] else #[⟨.int .i64 8, .int .i64 8, 0⟩, ⟨.int .i64 10, .int .i64 10, 1⟩, ⟨.int .i64 16, .int .i64 16, 2⟩]
theorem ins (w : World) (r c : Nat) (n : Int) (hr : r = w.heap.size) (hc : c < 3) (hf : Instr.findNow (.int .i64) (.int .i64 n) (ent c).toList 0 = some none) (he : (ent c).push { key := .int .i64 n, val := .int .i64 n, born := c } = ent (c + 1)) :
    (Instr.mapUpdate 195 (.map (some r)) (.int .i64 n) (.int .i64 n)).run Tryz.prog (w.alloc (.map (ent c) c)) = .ok () (w.alloc (.map (ent (c + 1)) (c + 1))) := by
  subst hr
  rw [run_update_new Tryz.underlying195 Tryz.underlying3 (run_checkKey_int Tryz.underlying3 · _ ·) (World.alloc_heap_new w _) hf, putObj_alloc, he]
theorem look (w : World) (r : Nat) (n : Int) (hr : r = w.heap.size) (i : Nat) (hf : Instr.findNow (.int .i64) (.int .i64 n) (ent 3).toList 0 = some (some (i, .int .i64 n))) :
    (Instr.lookup 195 (.map (some r)) (.int .i64 n) true).run Tryz.prog (w.alloc (.map (ent 3) 3)) = .ok (.tuple #[.int .i64 n, .bool true]) (w.alloc (.map (ent 3) 3)) := by
  subst hr
  rw [run_lookup_hit Tryz.underlying195 Tryz.underlying3 (run_checkKey_int Tryz.underlying3 · _ ·) (World.alloc_heap_new w _) hf]
  rfl
theorem makeM (w : World) : (Instr.makeMap 195 none).run Tryz.prog w = .ok (.map (some w.heap.size)) (w.alloc (.map (ent 0) 0)) := run_makeMap _ _

set_option maxRecDepth 100000 in
set_option maxHeartbeats 1000000 in
theorem of10 (w : World) : Calls Tryz.prog 107 #[.int .i64 10] w fun e w' => e = .returned (.tuple #[.agg #[.int .u64 10, .string (dig16.extract 0 10)], .nilIface]) ∧ Below w.heap.size w w' := by
  have hmm := makeM
  have i1 := ins (w.alloc (.cells #[.int .u64 0, .string ⟨#[]⟩] 180)) (w.heap.size + 1) 0 8 (by simp) (by decide) rfl rfl
  have i2 := ins (w.alloc (.cells #[.int .u64 0, .string ⟨#[]⟩] 180)) (w.heap.size + 1) 1 10 (by simp) (by decide) rfl rfl
  have i3 := ins (w.alloc (.cells #[.int .u64 0, .string ⟨#[]⟩] 180)) (w.heap.size + 1) 2 16 (by simp) (by decide) rfl rfl
  have i4 := look (w.alloc (.cells #[.int .u64 0, .string ⟨#[]⟩] 180)) (w.heap.size + 1) 10 (by simp) 1 rfl
  simp only [Nat.zero_add, Nat.reduceAdd] at i1 i2 i3 i4
  go_enter Tryz.func107, Tryz.ntmps107
  go_wp2
  exact bodyPost_ret (v := .tuple #[.agg #[.int .u64 10, .string (dig16.extract 0 10)], .nilIface]) (by simp [results, Tryz.results107, go_sem, dig16]) rfl ⟨rfl, ((Below.refl _ w).alloc (Nat.le_refl _) _).alloc (by simp) _⟩
set_option maxRecDepth 100000 in
set_option maxHeartbeats 1000000 in
theorem of16 (w : World) : Calls Tryz.prog 107 #[.int .i64 16] w fun e w' => e = .returned (.tuple #[.agg #[.int .u64 16, .string (dig16.extract 0 16)], .nilIface]) ∧ Below w.heap.size w w' := by
  have hmm := makeM
  have i1 := ins (w.alloc (.cells #[.int .u64 0, .string ⟨#[]⟩] 180)) (w.heap.size + 1) 0 8 (by simp) (by decide) rfl rfl
  have i2 := ins (w.alloc (.cells #[.int .u64 0, .string ⟨#[]⟩] 180)) (w.heap.size + 1) 1 10 (by simp) (by decide) rfl rfl
  have i3 := ins (w.alloc (.cells #[.int .u64 0, .string ⟨#[]⟩] 180)) (w.heap.size + 1) 2 16 (by simp) (by decide) rfl rfl
  have i4 := look (w.alloc (.cells #[.int .u64 0, .string ⟨#[]⟩] 180)) (w.heap.size + 1) 16 (by simp) 2 rfl
  simp only [Nat.zero_add, Nat.reduceAdd] at i1 i2 i3 i4
  go_enter Tryz.func107, Tryz.ntmps107
  go_wp2
  exact bodyPost_ret (v := .tuple #[.agg #[.int .u64 16, .string (dig16.extract 0 16)], .nilIface]) (by simp [results, Tryz.results107, go_sem, dig16]) rfl ⟨rfl, ((Below.refl _ w).alloc (Nat.le_refl _) _).alloc (by simp) _⟩
set_option maxRecDepth 100000 in
set_option maxHeartbeats 1000000 in
theorem of8 (w : World) : Calls Tryz.prog 107 #[.int .i64 8] w fun e w' => e = .returned (.tuple #[.agg #[.int .u64 8, .string (dig16.extract 0 8)], .nilIface]) ∧ Below w.heap.size w w' := by
  have hmm := makeM
  have i1 := ins (w.alloc (.cells #[.int .u64 0, .string ⟨#[]⟩] 180)) (w.heap.size + 1) 0 8 (by simp) (by decide) rfl rfl
  have i2 := ins (w.alloc (.cells #[.int .u64 0, .string ⟨#[]⟩] 180)) (w.heap.size + 1) 1 10 (by simp) (by decide) rfl rfl
  have i3 := ins (w.alloc (.cells #[.int .u64 0, .string ⟨#[]⟩] 180)) (w.heap.size + 1) 2 16 (by simp) (by decide) rfl rfl
  have i4 := look (w.alloc (.cells #[.int .u64 0, .string ⟨#[]⟩] 180)) (w.heap.size + 1) 8 (by simp) 0 rfl
  simp only [Nat.zero_add, Nat.reduceAdd] at i1 i2 i3 i4
  go_enter Tryz.func107, Tryz.ntmps107
  go_wp2
  exact bodyPost_ret (v := .tuple #[.agg #[.int .u64 8, .string (dig16.extract 0 8)], .nilIface]) (by simp [results, Tryz.results107, go_sem, dig16]) rfl ⟨rfl, ((Below.refl _ w).alloc (Nat.le_refl _) _).alloc (by simp) _⟩
end Go.Proofs.YtbcjhmeeonhmaaaGreatDoor.H
end

section
set_option linter.unusedVariables false
namespace Go.Proofs.YtbcjhmeeonhmaaaGreatDoor.H
open Go Go.RowKit
attribute [local go_sem] Oper.semAt_some

theorem wrap_u64 (x : Int) (h0 : 0 ≤ x) (h1 : x < 18446744073709551616) : IntKind.u64.wrap x = x := by
  have : IntKind.u64.wrap x = x % 18446744073709551616 := by simp [IntKind.wrap, IntKind.bits, IntKind.signed]
  omega
def chr (d : Nat) : Int := if d < 10 then 48 + d else 87 + d
/-- A number's digits, the last one first. -/
def dgc (b n : Nat) : List Int := if h : n / b = 0 ∨ b < 2 then [chr (n % b)] else chr (n % b) :: dgc b (n / b)
termination_by n
decreasing_by
  rcases Nat.eq_zero_or_pos n with h0 | h0
  · subst h0; simp at h
  · exact Nat.div_lt_self h0 (by omega)
theorem dgc_stop {b n : Nat} (h : n / b = 0) : dgc b n = [chr (n % b)] := by rw [dgc, dif_pos (.inl h)]
theorem dgc_more {b n : Nat} (hb : 2 ≤ b) (h : n / b ≠ 0) : dgc b n = chr (n % b) :: dgc b (n / b) := by rw [dgc, dif_neg (by omega)]

theorem both {e : Ending} {A B K : Prop} (h : (e = .returned (.bool true) ∧ A ∧ K) ∨ (e = .returned (.bool false) ∧ B ∧ K)) : ∃ b, e = .returned (.bool b) ∧ Hid ((b = true → A) ∧ (b = false → B) ∧ K) := by
  rcases h with ⟨h1, h2, h3⟩ | ⟨h1, h2, h3⟩
  · exact ⟨true, h1, fun _ => h2, (fun h => by cases h), h3⟩
  · exact ⟨false, h1, (fun h => by cases h), fun _ => h2, h3⟩

def BAt (Bb Bn : Nat) (b n : Nat) (w : World) : Prop :=
  w.cell? ⟨Bb, 0, none⟩ = some (.int .u64 b) ∧ w.cell? ⟨Bb, 1, none⟩ = some (.string (dig16.extract 0 b)) ∧ w.cell? ⟨Bn, 0, none⟩ = some (.int .u64 n) ∧ w.frozen? ⟨Bn, 0, none⟩ = false
theorem BAt.keep {Bb Bn b n : Nat} {A B : World} (h : BAt Bb Bn b n A) (k : RKeep Bb Bn A B) : BAt Bb Bn b n B := by
  unfold BAt World.cell? World.frozen? at h ⊢
  simp only [] at h ⊢
  rw [k.1, k.2]; exact h
theorem BAt.below {Bb Bn b n : Nat} {A B : World} (h : BAt Bb Bn b n A) (k : Below A.heap.size A B) : BAt Bb Bn b n B :=
  h.keep ⟨k.block _ (World.block_lt_of_cell? A _ h.1), k.block _ (World.block_lt_of_cell? A _ h.2.2.1)⟩
theorem BAt.set {Bb Bn b n : Nat} {A : World} (h : BAt Bb Bn b n A) (hne : Bb ≠ Bn) (m : Nat) : BAt Bb Bn b m (A.setCell ⟨Bn, 0, none⟩ (.int .u64 m)) :=
  ⟨by rw [World.cell?_setCell_other _ _ _ _ (by intro e; injection e with e _ _; exact hne e.symm)]; exact h.1, by rw [World.cell?_setCell_other _ _ _ _ (by intro e; injection e with e _ _; exact hne e.symm)]; exact h.2.1, World.cell?_setCell_same' _ _ _ (by rw [h.2.2.1]; rfl), by rw [World.frozen?_setCell]; exact h.2.2.2⟩
def curN (Bn : Nat) (w : World) : Nat := match w.cell? ⟨Bn, 0, none⟩ with | some (.int _ n) => n.toNat | _ => 0
theorem BAt.cur {Bb Bn b n : Nat} {A : World} (h : BAt Bb Bn b n A) : curN Bn A = n := by unfold curN; rw [h.2.2.1]; simp

theorem chr_at : ∀ b : Nat, b = 8 ∨ b = 10 ∨ b = 16 → ∀ d : Nat, d < b → ∃ h : d < (dig16.extract 0 b).size, (((dig16.extract 0 b)[d]'h).toNat : Int) = chr d := by
  intro b hb d hd
  rcases hb with rfl | rfl | rfl
  · have : d = 0 ∨ d = 1 ∨ d = 2 ∨ d = 3 ∨ d = 4 ∨ d = 5 ∨ d = 6 ∨ d = 7 := by omega
    rcases this with rfl | rfl | rfl | rfl | rfl | rfl | rfl | rfl <;> exact ⟨by decide, by decide⟩
  · have : d = 0 ∨ d = 1 ∨ d = 2 ∨ d = 3 ∨ d = 4 ∨ d = 5 ∨ d = 6 ∨ d = 7 ∨ d = 8 ∨ d = 9 := by omega
    rcases this with rfl | rfl | rfl | rfl | rfl | rfl | rfl | rfl | rfl | rfl <;> exact ⟨by decide, by decide⟩
  · have : d = 0 ∨ d = 1 ∨ d = 2 ∨ d = 3 ∨ d = 4 ∨ d = 5 ∨ d = 6 ∨ d = 7 ∨ d = 8 ∨ d = 9 ∨ d = 10 ∨ d = 11 ∨ d = 12 ∨ d = 13 ∨ d = 14 ∨ d = 15 := by omega
    rcases this with rfl | rfl | rfl | rfl | rfl | rfl | rfl | rfl | rfl | rfl | rfl | rfl | rfl | rfl | rfl | rfl <;> exact ⟨by decide, by decide⟩

set_option maxRecDepth 100000 in
set_option maxHeartbeats 1000000 in
theorem reversed_iter (Bb Bn b n : Nat) (hb : b = 8 ∨ b = 10 ∨ b = 16) (hn : n < 18446744073709551616) (hne : Bb ≠ Bn) :
    Iter Tryz.prog 124 #[.pointer (some ⟨Bb, 0, none⟩), .pointer (some ⟨Bn, 0, none⟩)] (fun x : Int => #[.int .u8 x]) (RStep Bn) (RKeep Bb Bn)
      (fun pre x _ => pre.length < (dgc b n).length) (fun xs W => xs = dgc b n) (fun pre W => True) (BAt Bb Bn b n) := by
  intro l J Jx W hJ hJx h0 hY hJ0
  have HN := Lib.hid hn
  clear hn
  have hb2 : 2 ≤ b := by omega
  have HB := Lib.hid hb
  clear hb
  refine (callsIn_wide (n := 0)).1 ?_
  refine callsIn_of_wp Tryz.func124 rfl trivial ?_ rfl
  simp only [Tryz.ntmps124, List.size_toArray, List.length_cons, List.length_nil, Nat.reduceAdd, Nat.reduceSub, Array.replicate_succ, Array.replicate_zero, List.push_toArray, List.append_toArray, List.nil_append, List.cons_append]
  refine wpIn_scope_wide ?_
  gi_wp2
  refine wpIn_label ?_
  gi_wp2
  gi_loopw [4] (fun _ wr => ∃ (pre : List Int) (m : Nat), dgc b n = pre ++ dgc b m ∧ m ≤ n ∧ BAt Bb Bn b m wr ∧ J pre wr) (fun _ wr => curN Bn wr)
  case atStart => exact ⟨[], n, rfl, Nat.le_refl _, h0, hJ0⟩
  case round =>
    obtain ⟨pre, m, hE, hmn, hR, hJs⟩ := hrel
    obtain ⟨c1, c2, c3, c4⟩ := id hR
    obtain ⟨d, hdd⟩ : ∃ d, m % b = d := ⟨_, rfl⟩
    have htm : (m : Int).tmod (b : Int) = (d : Int) := by rw [← hdd]; exact (Int.ofNat_tmod m b).symm
    obtain ⟨q, hqq⟩ : ∃ q, m / b = q := ⟨_, rfl⟩
    have htd : (m : Int).tdiv (b : Int) = (q : Int) := by rw [← hqq]; exact (Int.ofNat_tdiv m b).symm
    have hqm : q ≤ m := by rw [← hqq]; exact Nat.div_le_self _ _
    have hq64 : q < 18446744073709551616 := by have := HN.out; omega
    have hdl : d < b := by rw [← hdd]; exact Nat.mod_lt _ (by omega)
    have hchr := chr_at b HB.out d hdl
    obtain ⟨D, hD⟩ : ∃ D, dig16.extract 0 b = D := ⟨_, rfl⟩
    rw [hD] at c2 hchr
    clear hD
    obtain ⟨hd, hch⟩ := hchr
    have hwq : IntKind.u64.wrap (q : Int) = q := wrap_u64 _ (by omega) (by omega)
    clear hq64
    have HDD := Lib.hid hdd
    have HQQ := Lib.hid hqq
    clear hdd hqq
    have hb0 : ¬ b = 0 := by omega
    have hJ1 : J pre wr.drew := hJ _ _ _ hJs (show wr.grownBy _ (some Bn) from ⟨rfl, rfl, rfl, Nat.le_refl _, fun _ _ _ => rfl⟩)
    have hpl : pre.length < (dgc b n).length := by
      rw [hE, List.length_append]
      have : 0 < (dgc b m).length := by rw [dgc]; split <;> simp
      omega
    obtain ⟨fn, tmps, assign, body, hy, hRd⟩ := hY pre (chr d) _ hJ1 hpl
    have HRd := Lib.hid hRd
    have HE := Lib.hid hE
    clear hRd hE
    gi_wp2
    gi_region_with (refine ⟨rfl, HRd.out.mono ?_⟩; intro e W3 hh; obtain ⟨bb, rfl, hh'⟩ := both hh; clear hh)
    all_goals
      obtain ⟨hA, hBx, hk⟩ := hh'
      cases bb
      · have hB3 := Lib.hid (hBx rfl)
        clear hA hBx
        gi_wp2
        simp only [Exit.noGoto]
        go_end0
        exact ⟨⟨_, rfl⟩, .inr ⟨_, trivial, hB3.out⟩⟩
      · have hJ3 := hA rfl
        clear hA hBx
        have hR3 : BAt Bb Bn b m W3 := BAt.keep (A := wr.drew) hR hk
        obtain ⟨e1, e2, e3, e4⟩ := id hR3
        have hR4 := hR3.set hne q
        have hJ4 := hJ _ _ _ hJ3 (grownBy_setCell' W3 Bn (.int .u64 q))
        obtain ⟨f1, f2, f3, f4⟩ := id hR4
        have HJ4 := Lib.hid hJ4
        clear hJ4
        by_cases hq0 : q = 0
        · have HQ0 := Lib.hid hq0
          have hq1 : ((q : Int) == 0) = true := by simpa using hq0
          clear hq0
          gi_wp2
          simp only [Exit.noGoto]
          go_end0
          exact ⟨⟨_, rfl⟩, .inl ⟨_, by rw [HE.out, dgc_stop (HQQ.out.trans HQ0.out), HDD.out], HJ4.out⟩⟩
        · have hq1 : ((q : Int) == 0) = false := by simpa using hq0
          gi_wp2
          go_roundw
          case rel => exact ⟨_, q, by rw [HE.out, dgc_more hb2 (by rw [HQQ.out]; exact hq0), HDD.out, HQQ.out, List.append_assoc]; rfl, by omega, hR4, HJ4.out⟩
          case measure =>
            rw [hR4.cur, hR.cur, ← HQQ.out]
            exact Nat.div_lt_self (by rcases Nat.eq_zero_or_pos m with h | h; (subst h; have := HQQ.out; simp at this; omega); exact h) (by omega)
end Go.Proofs.YtbcjhmeeonhmaaaGreatDoor.H
end

-- Laid by a program of this session for this claim.
section
namespace Go.Proofs.YtbcjhmeeonhmaaaGreatDoor.M
open Go.RowKit Go.Proofs.YtbcjhmeeonhmaaaGreatDoorW.PrintWords Go.Proofs.YtbcjhmeeonhmaaaGreatDoorW.PrintLast Go.Proofs.YtbcjhmeeonhmaaaGreatDoorW.PrintMore
attribute [local go_sem] max2_int min2_int max_two min_two max_three min_three max_four min_four   -- for this text's walks alone
set_option linter.unusedVariables false
set_option linter.unusedSimpArgs false



def errW : Option Int → Value
  | none => .nilIface
  | some c => .iface 0 (.int .i64 c)
theorem errW_none : errW none = .nilIface := rfl
theorem errW_some (c : Int) : errW (some c) = .iface 0 (.int .i64 c) := rfl

theorem info3 : (Tryz.prog.info? 3).map (fun i => (i.zero, i.size, i.bytes)) = some (some (.int .i64 0), 1, 8) := by kernel_rfl
theorem info5 : (Tryz.prog.info? 5).map (fun i => (i.zero, i.size, i.bytes)) = some (some (.int .u8 0), 1, 1) := by kernel_rfl
-- the values' own types
/-! #### struct type 113 -/
structure S113 where
  f0 : Int
  f1 : Int
def z113 : S113 := ⟨(0 : Int), (0 : Int)⟩
def k113 : Kd S113 := Kd.iso (Kd.pair (Kd.int .i32) (Kd.int .i32)) (fun x : S113 => (x.f0, x.f1))
theorem k113_open {w : World} {x : S113} {cs : List Value} (h : k113.K w x cs) : cs = [.int .i32 x.f0, .int .i32 x.f1] := by
  obtain ⟨_, _, rfl, rfl, rfl⟩ := h
  exact rfl
theorem k113_mkM (w : World) (base : Nat) (ok : Nat → Prop) (x : S113)  : k113.M w base ok x [.int .i32 x.f0, .int .i32 x.f1] := ⟨[.int .i32 x.f0], [.int .i32 x.f1], rfl, rfl, rfl⟩
def rd_T113 (xs : List S113) (i : Int) : S113 := xs.getD i.toNat z113
theorem at_T113 {w : World} {A : Option Addr} {n : Nat} {xs : List S113} (h : Kd.C k113 w A n xs) (i : Int) (h0 : 0 ≤ i) (h1 : i < n) : ∃ ad , A = some ad ∧ w.cell? (ad.add (i.toNat * 2)) = some (.int .i32 (rd_T113 xs i).f0) ∧ w.cell? ⟨(ad.add (i.toNat * 2)).block, (ad.add (i.toNat * 2)).off + 1, none⟩ = some (.int .i32 (rd_T113 xs i).f1) := by
  obtain ⟨ad, c, e, _, hK, hc0⟩ := Kd.C_get h z113 i h0 h1
  have hc : ∀ j u, c[j]? = some u → w.cell? (ad.add (i.toNat * 2 + j)) = some u := hc0
  obtain rfl := k113_open hK
  exact ⟨ad, e, hc 0 _ rfl, by rw [← add_field _ _ 1 (by omega)]; exact hc 1 _ rfl⟩

end Go.Proofs.YtbcjhmeeonhmaaaGreatDoor.M
end

-- Laid by a program of this session for this claim.
section
namespace Go.Proofs.YtbcjhmeeonhmaaaGreatDoor.M
open Go.RowKit Go.Proofs.YtbcjhmeeonhmaaaGreatDoorW.PrintWords Go.Proofs.YtbcjhmeeonhmaaaGreatDoorW.PrintLast Go.Proofs.YtbcjhmeeonhmaaaGreatDoorW.PrintMore
attribute [local go_sem] max2_int min2_int max_two min_two max_three min_three max_four min_four   -- for this text's walks alone
set_option linter.unusedVariables false
set_option linter.unusedSimpArgs false

/-! ### slices_Reverse_byte_byte: function 111 -/
def slices_Reverse_byte_byte.l0 : Nat → List Int → Int → Int → Option (List Int)
  | 0, _, _, _ => none
  | k + 1, x0, x2, x3 => if x2 < x3 then (if 0 ≤ x3 then (if x3 < (x0.length : Int) then (if 0 ≤ x2 then (if x2 < (x0.length : Int) then (slices_Reverse_byte_byte.l0 k ((x0.set (x2 : Int).toNat (rd x0 x3)).set (x3 : Int).toNat (rd x0 x2)) (wrap64 (x2 + 1)) (wrap64 (x3 - 1))) else (none)) else (none)) else (none)) else (none)) else (some x0)
def slices_Reverse_byte_byte.f (k : Nat) (l0 : List Int) : Option (List Int) := slices_Reverse_byte_byte.l0 k l0 0 (wrap64 ((l0.length : Int) - 1))
def slices_Reverse_byte_byte.T3 : Bool × List (List Nat × List Nat) := (true, [([], []), ([], []), ([], []), ([], []), ([], []), ([], []), ([4, 5], [4, 5]), ([6], [6]), ([], []), ([], []), ([8, 9], [8, 9]), ([10], [10]), ([0, 1, 0, 1, 4, 5, 6, 7, 11], [0, 1]), ([12, 7, 0, 1, 4, 5, 6, 7, 11], [7, 12]), ([2, 3, 0, 1, 2, 3, 4, 5, 6, 7, 8, 9, 10, 11, 12, 13], [2, 3]), ([14, 11, 13, 0, 1, 2, 3, 4, 5, 6, 7, 8, 9, 10, 11, 12, 13], [11, 14])])
def slices_Reverse_byte_byte.B3 : List Nat := [0, 0, 0, 0, 0, 0, 48, 112, 0, 0, 768, 1792, 4083, 8179, 16383, 32767]
theorem slices_Reverse_byte_byte.tab3 : rtab .any (opsOf Tryz.f111 3) = slices_Reverse_byte_byte.T3 := by kernel_rfl
theorem slices_Reverse_byte_byte.bits3 : waitsOk slices_Reverse_byte_byte.T3.2 slices_Reverse_byte_byte.B3 = true := by kernel_rfl
set_option maxHeartbeats 8000000 in
set_option maxRecDepth 100000 in
theorem slices_Reverse_byte_byte.calls (k : Nat) (P0_ : Nat → Prop) (u9000_ : Value) (l0 : List Int) (r : List Int) (w0 w : World) (hB : Below w0.heap.size w0 w) (ho0 : Kd.R (Kd.int .u8) 5 w w0.heap.size P0_ u9000_ l0) (h : slices_Reverse_byte_byte.f k l0 = some r) :
    Calls Tryz.prog 111 #[u9000_] w fun e w' => e = .returned (.tuple #[]) ∧ Kd.R (Kd.int .u8) 5 w' w0.heap.size (fun k_ => (P0_ k_ ∨ w.heap.size ≤ k_)) u9000_ r ∧ Below w0.heap.size w0 w' ∧ Kept w w' (fun k_ => P0_ k_) := by
  have HO0 := Aside0.mk (show Kd.R (Kd.int .u8) 5 w w0.heap.size (fun k_ => (P0_ k_ ∨ w.heap.size ≤ k_)) u9000_ l0 from Kd.R_mono ho0 (fun k_ hk => (.inl hk)))
  have HK := Aside0.mk (Kept.refl w (fun k_ => P0_ k_))
  have HW0 := Aside0.mk hB.size
  have HB := Aside0.mk hB
  clear hB
  have H : (slices_Reverse_byte_byte.l0 k l0 0 (wrap64 ((l0.length : Int) - 1))) = some r := h
  clear h
  have H' := Aside0.mk H
  clear H
  obtain ⟨Ao2, co2, eo2⟩ := Kd.R_slice HO0.out
  subst eo2
  go_enter Tryz.func111, Tryz.ntmps111
  go_wp2
  go_loopg [2, 3] k (fun kq v2 v3 w' => ∃ (x0_1 : List Int) (x2_1 : Int) (x3_1 : Int), v2 = .int .i64 x2_1 ∧ v3 = .int .i64 x3_1 ∧ Aside0 (slices_Reverse_byte_byte.l0 kq x0_1 x2_1 x3_1 = some r) ∧ Aside0 (kq ≤ k) ∧ Aside0 (Kd.R (Kd.int .u8) 5 w' w0.heap.size (fun k_ => (P0_ k_ ∨ w.heap.size ≤ k_)) (.slice Ao2 l0.length co2) x0_1) ∧ Aside0 (Kept w w' (fun k_ => P0_ k_)) ∧ Aside0 (Below w0.heap.size w0 w'))
  case atStart => exact ⟨(l0), (0), (wrap64 ((l0.length : Int) - 1)), (by first | rfl | (simp; done) | (simp [*]; done)), (by first | rfl | (simp; done) | (simp [*]; done)), H', ⟨Nat.le_refl _⟩, ⟨by (with_reducible repeat (first | apply Kd.R_alloc | apply Kd.R_drewN | apply Kd.R_drew)); exact HO0.out⟩, ⟨by repeat (first | (with_reducible first | exact HK.out | apply Kept.alloc | apply Kept.drewN | apply Kept.drew) | exact HK.out)⟩, ⟨by repeat (first | (with_reducible first | exact HB.out | apply below_alloc | apply pw_below_drewN | apply below_drew1) | exact HB.out)⟩⟩
  case round =>
    clear H'
    try clear c1
    try clear p2
    obtain ⟨x0_1, x2_1, x3_1, rfl, rfl, HA, HK1, HO_0, HK, HB⟩ := hrel
    have hl0_1 := (Kd.R_reads' HO_0.out).1
    rw [hl0_1] at HO_0
    (try simp only [hl0_1])
    cases gk with
    | zero => exact absurd HA.out (by simp [slices_Reverse_byte_byte.l0])
    | succ k1 =>
      have H := HA.out
      clear HA
      simp only [slices_Reverse_byte_byte.l0] at H
      by_cases c3 : x2_1 < x3_1
      · rw [if_pos c3] at H
        have c3b0 : decide (x2_1 < x3_1) = true := decide_eq_true c3
        clear c3
        by_cases c4 : 0 ≤ x3_1
        · rw [if_pos c4] at H
          have c4b0 : decide (0 ≤ x3_1) = true := decide_eq_true c4
          clear c4
          by_cases c5 : x3_1 < (x0_1.length : Int)
          · rw [if_pos c5] at H
            have c5b0 : decide (x3_1 < (x0_1.length : Int)) = true := decide_eq_true c5
            clear c5
            by_cases c6 : 0 ≤ x2_1
            · rw [if_pos c6] at H
              have c6b0 : decide (0 ≤ x2_1) = true := decide_eq_true c6
              clear c6
              by_cases c7 : x2_1 < (x0_1.length : Int)
              · rw [if_pos c7] at H
                have c7b0 : decide (x2_1 < (x0_1.length : Int)) = true := decide_eq_true c7
                clear c7
                obtain ⟨y278, hy278⟩ : ∃ y_ : List Int, y_ = (x0_1.set (x2_1 : Int).toNat (rd x0_1 x3_1)) := ⟨_, rfl⟩
                replace H : (slices_Reverse_byte_byte.l0 k1 (y278.set (x3_1 : Int).toNat (rd x0_1 x2_1)) (wrap64 (x2_1 + 1)) (wrap64 (x3_1 - 1))) = some r := by first | (rw [hy278]; with_reducible exact H) | (have H2_ := (Option.bind_some _ _).symm.trans H; rw [hy278]; with_reducible exact H2_) | (have H2_ := (Option.bind_some _ _).symm.trans H; with_reducible exact H2_) | with_reducible exact H | (rw [hy278]; exact H) | exact H
                have Ny278 := Aside0.mk hy278
                clear hy278
                obtain ⟨y279, hy279⟩ : ∃ y_ : List Int, y_ = (y278.set (x3_1 : Int).toNat (rd x0_1 x2_1)) := ⟨_, rfl⟩
                replace H : (slices_Reverse_byte_byte.l0 k1 y279 (wrap64 (x2_1 + 1)) (wrap64 (x3_1 - 1))) = some r := by first | (rw [hy279]; with_reducible exact H) | (have H2_ := (Option.bind_some _ _).symm.trans H; rw [hy279]; with_reducible exact H2_) | (have H2_ := (Option.bind_some _ _).symm.trans H; with_reducible exact H2_) | with_reducible exact H | (rw [hy279]; exact H) | exact H
                have Ny279 := Aside0.mk hy279
                clear hy279
                have H' := Aside0.mk H
                clear H
                try go_wp2
                have n0_ := Aside0.mk (Kd.R_drew HO_0.out)
                have n1_ := Aside0.mk (Kept.drew HK.out)
                have n2_ := Aside0.mk (below_drew1 HB.out)
                clear HO_0
                clear HK
                clear HB
                have HO_0 := n0_
                have HK := n1_
                have HB := n2_
                clear n0_ n1_ n2_
                have p276 : 0 ≤ (x3_1 : Int) := of_decide_eq_true (by first | (with_reducible assumption) | assumption)
                have q276 : x3_1 < (x0_1.length : Int) := of_decide_eq_true (by first | (with_reducible assumption) | assumption)
                obtain ⟨ad276, e276, hx276_0⟩ := Kd.at_int (Kd.R_reads' HO_0.out).2.2 x3_1 p276 q276
                cases e276
                replace p276 := eq_true p276
                replace q276 := eq_true q276
                have p277 : 0 ≤ (x2_1 : Int) := of_decide_eq_true (by first | (with_reducible assumption) | assumption)
                have q277 : x2_1 < (x0_1.length : Int) := of_decide_eq_true (by first | (with_reducible assumption) | assumption)
                obtain ⟨ad277, e277, hx277_0⟩ := Kd.at_int (Kd.R_reads' HO_0.out).2.2 x2_1 p277 q277
                obtain rfl : ad276 = ad277 := (by injection e277)
                replace p277 := eq_true p277
                replace q277 := eq_true q277
                have p8 : 0 ≤ (x2_1 : Int) := of_decide_eq_true (by first | (with_reducible assumption) | assumption)
                have q8 : (x2_1 : Int) < ((x0_1.length : Int) : Int) := of_decide_eq_true (by first | (with_reducible assumption) | assumption)
                obtain ⟨go8, co8, eo8, gb8, gl8, cl8, HG8⟩ := Kd.R_form HO_0.out (by omega)
                (first | cases eo8 | (injection eo8 with ea_ en_ ec_; (first | subst ea_ | (injection ea_ with ea_; subst ea_)); subst ec_; clear en_))
                have GB8 := Aside0.mk gb8
                have GG8 := Aside0.mk HG8
                clear gb8 gl8 HG8
                have HMgo8 := Aside0.mk (show (P0_ go8 ∨ w.heap.size ≤ go8) from (HO_0.out.1 _ rfl))
                (first | simp only [add_plain] at hx276_0 | skip)
                (first | simp only [add_plain] at hx277_0 | skip)
                obtain ⟨hx8_0, hf8_0⟩ := Kd.R_celln 0 HO_0.out (x2_1 : Int) p8 q8
                replace p8 := eq_true p8
                replace q8 := eq_true q8
                have HP11 := Kd.R_putn HO_0.out (x2_1 : Int) (rd x0_1 x3_1)
                rw [← Ny278.out] at HP11
                have HQ11 := Aside0.mk HP11
                clear HP11
                have p9 : 0 ≤ (x3_1 : Int) := of_decide_eq_true (by first | (with_reducible assumption) | assumption)
                have q9 : (x3_1 : Int) < ((x0_1.length : Int) : Int) := of_decide_eq_true (by first | (with_reducible assumption) | assumption)
                obtain ⟨hx9_0, hf9_0⟩ := Kd.R_celln 0 HQ11.out (x3_1 : Int) p9 q9
                replace p9 := eq_true p9
                replace q9 := eq_true q9
                have HP12 := Kd.R_putn HQ11.out (x3_1 : Int) (rd x0_1 x2_1)
                rw [← Ny279.out] at HP12
                have HQ12 := Aside0.mk HP12
                clear HP12
                refine start_ (n := 16) (S := fun w' => w'.cell? ⟨go8, (x3_1).toNat, none⟩ = some (.int .u8 (rd x0_1 x3_1)) ∧ w'.cell? ⟨go8, (x2_1).toNat, none⟩ = some (.int .u8 (rd x0_1 x2_1))) (ds := [13, 15]) #[false, false, false, false, false, false, false, false, false, false, false, false, false, false, false, false] (by kernel_rfl) rfl rfl ⟨hx276_0, hx277_0⟩ (fun hHeld => ?_); refine with_tabW slices_Reverse_byte_byte.tab3 slices_Reverse_byte_byte.bits3 (fun HT_ HW_ => ?_)
                generalize wr.drew = w10 at HO_0 HK HB GG8 HQ11 HQ12 hf8_0 hf9_0 hx276_0 hx277_0 hx8_0 hx9_0 hHeld ⊢
                refine pure_ (i := 0) (N := some 14) (v := ?_) (a' := ?_) #[true, false, false, false, false, false, false, false, false, false, false, false, false, false, false, false] rfl rfl (any_of HT_.out (by kernel_rfl)) (fun _ _ _ h => h) (Or.inl ⟨by rfl, ?_⟩) ?_ ?_
                rotate_left
                · intro w'
                  go_simp
                  with_reducible rfl
                rotate_left
                · simp only [Act.put, List.setIfInBounds_toArray, List.set_cons_zero, List.set_cons_succ, i64_w, i32_w]
                  rfl
                refine pure_ (i := 1) (N := some 15) (v := ?_) (a' := ?_) #[true, true, false, false, false, false, false, false, false, false, false, false, false, false, false, false] rfl rfl (any_of HT_.out (by kernel_rfl)) (fun _ _ _ h => h) (Or.inl ⟨by rfl, ?_⟩) ?_ ?_
                rotate_left
                · intro w'
                  go_simp
                  with_reducible rfl
                rotate_left
                · simp only [Act.put, List.setIfInBounds_toArray, List.set_cons_zero, List.set_cons_succ, i64_w, i32_w]
                  rfl
                refine pure_ (i := 2) (N := some 16) (v := ?_) (a' := ?_) #[true, true, true, false, false, false, false, false, false, false, false, false, false, false, false, false] rfl rfl (any_of HT_.out (by kernel_rfl)) (fun _ _ _ h => h) (Or.inl ⟨by rfl, ?_⟩) ?_ ?_
                rotate_left
                · intro w'
                  go_simp
                  with_reducible rfl
                rotate_left
                · simp only [Act.put, List.setIfInBounds_toArray, List.set_cons_zero, List.set_cons_succ, i64_w, i32_w]
                  rfl
                refine pure_ (i := 3) (N := some 17) (v := ?_) (a' := ?_) #[true, true, true, true, false, false, false, false, false, false, false, false, false, false, false, false] rfl rfl (any_of HT_.out (by kernel_rfl)) (fun _ _ _ h => h) (Or.inl ⟨by rfl, ?_⟩) ?_ ?_
                rotate_left
                · intro w'
                  go_simp
                  with_reducible rfl
                rotate_left
                · simp only [Act.put, List.setIfInBounds_toArray, List.set_cons_zero, List.set_cons_succ, i64_w, i32_w]
                  rfl
                refine pure_ (i := 4) (N := some 18) (v := ?_) (a' := ?_) #[true, true, true, true, true, false, false, false, false, false, false, false, false, false, false, false] rfl rfl (any_of HT_.out (by kernel_rfl)) (fun _ _ _ h => h) (Or.inl ⟨by rfl, ?_⟩) ?_ ?_
                rotate_left
                · intro w'
                  go_simp
                  with_reducible rfl
                rotate_left
                · simp only [Act.put, List.setIfInBounds_toArray, List.set_cons_zero, List.set_cons_succ, i64_w, i32_w]
                  rfl
                refine pure_ (i := 5) (N := some 19) (v := ?_) (a' := ?_) #[true, true, true, true, true, true, false, false, false, false, false, false, false, false, false, false] rfl rfl (any_of HT_.out (by kernel_rfl)) (fun _ _ _ h => h) (Or.inl ⟨by rfl, ?_⟩) ?_ ?_
                rotate_left
                · intro w'
                  go_simp
                  with_reducible rfl
                rotate_left
                · simp only [Act.put, List.setIfInBounds_toArray, List.set_cons_zero, List.set_cons_succ, i64_w, i32_w]
                  rfl
                refine pure_ (i := 6) (N := some 20) (v := ?_) (a' := ?_) #[true, true, true, true, true, true, true, false, false, false, false, false, false, false, false, false] rfl rfl (any_of HT_.out (by kernel_rfl)) (fun _ _ _ h => h) (Or.inl ⟨by rfl, ?_⟩) ?_ ?_
                rotate_left
                · intro w'
                  go_simp
                  with_reducible rfl
                rotate_left
                · simp only [Act.put, List.setIfInBounds_toArray, List.set_cons_zero, List.set_cons_succ, i64_w, i32_w]
                  rfl
                refine pure_ (i := 8) (N := some 22) (v := ?_) (a' := ?_) #[true, true, true, true, true, true, true, false, true, false, false, false, false, false, false, false] rfl rfl (any_of HT_.out (by kernel_rfl)) (fun _ _ _ h => h) (Or.inl ⟨by rfl, ?_⟩) ?_ ?_
                rotate_left
                · intro w'
                  go_simp
                  with_reducible rfl
                rotate_left
                · simp only [Act.put, List.setIfInBounds_toArray, List.set_cons_zero, List.set_cons_succ, i64_w, i32_w]
                  rfl
                refine pure_ (i := 9) (N := some 23) (v := ?_) (a' := ?_) #[true, true, true, true, true, true, true, false, true, true, false, false, false, false, false, false] rfl rfl (any_of HT_.out (by kernel_rfl)) (fun _ _ _ h => h) (Or.inl ⟨by rfl, ?_⟩) ?_ ?_
                rotate_left
                · intro w'
                  go_simp
                  with_reducible rfl
                rotate_left
                · simp only [Act.put, List.setIfInBounds_toArray, List.set_cons_zero, List.set_cons_succ, i64_w, i32_w]
                  rfl
                refine pure_ (i := 10) (N := some 24) (v := ?_) (a' := ?_) #[true, true, true, true, true, true, true, false, true, true, true, false, false, false, false, false] rfl rfl (any_of HT_.out (by kernel_rfl)) (fun _ _ _ h => h) (Or.inl ⟨by rfl, ?_⟩) ?_ ?_
                rotate_left
                · intro w'
                  go_simp
                  with_reducible rfl
                rotate_left
                · simp only [Act.put, List.setIfInBounds_toArray, List.set_cons_zero, List.set_cons_succ, i64_w, i32_w]
                  rfl
                refine take_ (i := 7) (N := some 21) (v := ?_) (a' := ?_) #[true, true, true, true, true, true, true, true, true, true, true, false, false, false, false, false] rfl rfl (take_ofW HT_.out HW_.out (by kernel_rfl)) (fun _ _ _ h => h) (Or.inl ⟨by rfl, ?_⟩) hHeld ?_ ?_
                rotate_left
                · rintro w' ⟨s0, s1⟩
                  go_simp
                  with_reducible rfl
                rotate_left
                · simp only [Act.put, List.setIfInBounds_toArray, List.set_cons_zero, List.set_cons_succ, i64_w, i32_w]
                  rfl
                refine take_ (i := 11) (N := some 25) (v := ?_) (a' := ?_) #[true, true, true, true, true, true, true, true, true, true, true, true, false, false, false, false] rfl rfl (take_ofW HT_.out HW_.out (by kernel_rfl)) (fun _ _ _ h => h) (Or.inl ⟨by rfl, ?_⟩) hHeld ?_ ?_
                rotate_left
                · rintro w' ⟨s0, s1⟩
                  go_simp
                  with_reducible rfl
                rotate_left
                · simp only [Act.put, List.setIfInBounds_toArray, List.set_cons_zero, List.set_cons_succ, i64_w, i32_w]
                  rfl
                refine pure_ (i := 12) (N := some 26) (v := ?_) (a' := ?_) #[true, true, true, true, true, true, true, true, true, true, true, true, true, false, false, false] rfl rfl (any_of HT_.out (by kernel_rfl)) (fun _ _ _ h => h) (Or.inl ⟨by rfl, ?_⟩) ?_ ?_
                rotate_left
                · intro w'
                  go_simp
                  with_reducible rfl
                rotate_left
                · simp only [Act.put, List.setIfInBounds_toArray, List.set_cons_zero, List.set_cons_succ, i64_w, i32_w]
                  rfl
                refine last_ (i := 13) (N := none) #[true, true, true, true, true, true, true, true, true, true, true, true, true, true, false, false] rfl rfl (one_of HT_.out (by kernel_rfl)) (by decide) (fun K hK => ?_)
                refine skip_ (w1 := ?_) (by rfl) rfl ?_ ?_
                rotate_left
                · go_simp
                  rfl
                refine hK.out _ _ ?_
                clear hK K
                refine pure_ (i := 14) (N := some 27) (v := ?_) (a' := ?_) #[true, true, true, true, true, true, true, true, true, true, true, true, true, true, true, false] rfl rfl (any_of HT_.out (by kernel_rfl)) (fun _ _ _ h => h) (Or.inl ⟨by rfl, ?_⟩) ?_ ?_
                rotate_left
                · intro w'
                  go_simp
                  with_reducible rfl
                rotate_left
                · simp only [Act.put, List.setIfInBounds_toArray, List.set_cons_zero, List.set_cons_succ, i64_w, i32_w]
                  rfl
                refine last_ (i := 15) (N := none) #[true, true, true, true, true, true, true, true, true, true, true, true, true, true, true, true] rfl rfl (one_of HT_.out (by kernel_rfl)) (by decide) (fun K hK => ?_)
                refine skip_ (w1 := ?_) (by rfl) rfl ?_ ?_
                rotate_left
                · go_simp
                  rfl
                refine hK.out _ _ ?_
                clear hK K
                refine done_ (done_of HT_.out (by kernel_rfl)) ?_
                try go_wp2
                (try simp only [← hl0_1])
                go_roundg k1
                case measure => have := HK1.out; omega
                case rel => exact ⟨(y279), (wrap64 (x2_1 + 1)), (wrap64 (x3_1 - 1)), (by first | rfl | (simp; done) | (simp [*]; done)), (by first | rfl | (simp; done) | (simp [*]; done)), H', ⟨by have := HK1.out; omega⟩, ⟨by (try simp only [hl0_1]); (with_reducible repeat (first | apply Kd.R_alloc | apply Kd.R_drewN | apply Kd.R_drew)); exact HQ12.out⟩, ⟨by repeat (first | (with_reducible first | exact HK.out | apply Kept.alloc | apply Kept.drewN | apply Kept.drew | refine Kept.setCell ?_ HMgo8.out _ | refine Kept.setCell ?_ HMgo8.out _) | exact HK.out)⟩, ⟨by repeat (first | (with_reducible first | exact HB.out | apply below_alloc | apply pw_below_drewN | apply below_drew1 | refine below_set ?_ GB8.out | refine below_set ?_ GB8.out) | exact HB.out)⟩⟩
              · rw [if_neg c7] at H
                exact absurd H (by simp)
            · rw [if_neg c6] at H
              exact absurd H (by simp)
          · rw [if_neg c5] at H
            exact absurd H (by simp)
        · rw [if_neg c4] at H
          exact absurd H (by simp)
      · rw [if_neg c3] at H
        have c3b0 : decide (x2_1 < x3_1) = false := decide_eq_false c3
        clear c3
        obtain rfl := Option.some.inj H
        go_wp2
        first | go_end0 | ((try simp only [Exit.inBlock, Exit.then]); refine bodyPost_ret (results_none rfl _ _ _) rfl ?_)
        exact ⟨by first | rfl | (simp [errW_none, errW_some] <;> rfl) | (simp [*, errW_none, errW_some] <;> rfl), (by first | exact (by (with_reducible repeat (first | apply Kd.R_alloc | apply Kd.R_drewN | apply Kd.R_drew)); exact HO_0.out) | (simp only [hl0_1]; exact (by (with_reducible repeat (first | apply Kd.R_alloc | apply Kd.R_drewN | apply Kd.R_drew)); exact HO_0.out))), by repeat (first | (with_reducible first | exact HB.out | apply below_alloc | apply pw_below_drewN | apply below_drew1) | exact HB.out), by repeat (first | (with_reducible first | exact HK.out | apply Kept.alloc | apply Kept.drewN | apply Kept.drew) | exact HK.out)⟩

end Go.Proofs.YtbcjhmeeonhmaaaGreatDoor.M
end

section
set_option linter.unusedVariables false
namespace Go.Proofs.YtbcjhmeeonhmaaaGreatDoor.H
open Go Go.RowKit Go.Proofs.YtbcjhmeeonhmaaaGreatDoorW.PrintWords Go.Proofs.YtbcjhmeeonhmaaaGreatDoor.M

theorem set_mid (A M B : List Int) (x y : Int) (i j : Nat) (hi : i = A.length) (hj : j = A.length + 1 + M.length) :
    ((A ++ x :: (M ++ y :: B)).set i y).set j x = (A ++ [y]) ++ (M ++ (x :: B)) := by
  subst hi hj
  rw [List.set_append_right _ _ (Nat.le_refl _), Nat.sub_self, List.set_cons_zero, List.set_append_right _ _ (by omega), show A.length + 1 + M.length - A.length = M.length + 1 from by omega, List.set_cons_succ,
    List.set_append_right _ _ (Nat.le_refl _), Nat.sub_self, List.set_cons_zero]
  simp
theorem rev_loop : ∀ (d : Nat) (M A B : List Int) (k : Nat) (i j : Int), M.length = d → i = A.length → j = (A.length : Int) + M.length - 1 → (A ++ (M ++ B)).length < 4611686018427387904 → d < k →
    slices_Reverse_byte_byte.l0 k (A ++ (M ++ B)) i j = some (A ++ (M.reverse ++ B)) := by
  intro d
  induction d using Nat.strongRecOn with
  | _ d ih =>
    intro M A B k i j hM hi hj hL hk
    obtain ⟨k, rfl⟩ : ∃ m, k = m + 1 := ⟨k - 1, by omega⟩
    simp only [slices_Reverse_byte_byte.l0]
    match M, hM with
    | [], hM => rw [if_neg (by simp at hj; omega)]; rfl
    | [x], hM => rw [if_neg (by simp at hj; omega)]; rfl
    | x :: z :: M2, hM =>
      obtain ⟨M', y, hMy⟩ : ∃ M' y, z :: M2 = M' ++ [y] := ⟨(z :: M2).dropLast, (z :: M2).getLast (by simp), (List.dropLast_concat_getLast (by simp)).symm⟩
      rw [hMy] at hM hj hL ⊢
      have hl : (A ++ (x :: (M' ++ [y]) ++ B)).length = A.length + M'.length + 2 + B.length := by simp; omega
      rw [hl] at hL
      simp only [List.length_cons, List.length_append, List.length_nil] at hM hj
      rw [hl, if_pos (by omega), if_pos (by omega), if_pos (by omega), if_pos (by omega), if_pos (by omega)]
      have e1 : A ++ (x :: (M' ++ [y]) ++ B) = A ++ x :: (M' ++ y :: B) := by simp
      have r1 : rd (A ++ x :: (M' ++ y :: B)) j = y := by
        unfold rd
        rw [List.getD_eq_getElem?_getD, List.getElem?_append_right (by omega), show j.toNat - A.length = M'.length + 1 from by omega, List.getElem?_cons_succ, List.getElem?_append_right (Nat.le_refl _), Nat.sub_self]
        rfl
      have r2 : rd (A ++ x :: (M' ++ y :: B)) i = x := by
        unfold rd
        rw [List.getD_eq_getElem?_getD, List.getElem?_append_right (by omega), show i.toNat - A.length = 0 from by omega]
        rfl
      rw [e1, r1, r2, set_mid A M' B x y _ _ (by omega) (by omega)]
      have w1 : wrap64 (i + 1) = i + 1 := by unfold wrap64; omega
      have w2 : wrap64 (j - 1) = j - 1 := by unfold wrap64; omega
      rw [w1, w2, ih M'.length (by omega) M' (A ++ [y]) (x :: B) k _ _ rfl (by simp; omega) (by simp; omega) (by simp; omega) (by omega)]
      simp
theorem reverse_f (l : List Int) (h : l.length < 4611686018427387904) : slices_Reverse_byte_byte.f (l.length + 1) l = some l.reverse := by
  unfold slices_Reverse_byte_byte.f
  have w1 : wrap64 ((l.length : Int) - 1) = (l.length : Int) - 1 := by unfold wrap64; omega
  have := rev_loop l.length l [] [] (l.length + 1) 0 ((l.length : Int) - 1) rfl rfl (by simp) (by simpa using h) (by omega)
  simp only [List.nil_append, List.append_nil] at this
  rw [w1, this]
end Go.Proofs.YtbcjhmeeonhmaaaGreatDoor.H
end

section
set_option linter.unusedVariables false
namespace Go.Proofs.YtbcjhmeeonhmaaaGreatDoor.H
open Go Go.RowKit Go.Proofs.YtbcjhmeeonhmaaaGreatDoorW.PrintWords Go.Proofs.YtbcjhmeeonhmaaaGreatDoor.M
attribute [local go_sem] Oper.semAt_some

theorem info_u8 : (Tryz.prog.info? 5).map (fun i => (i.zero, i.size, i.bytes)) = some (some (.int .u8 0), 1, 1) := by kernel_rfl
/-- A number's digits. -/
def putS (b n : Nat) : ByteArray := strOfNums (dgc b n).reverse
theorem dgc_len (b : Nat) (hb : 2 ≤ b) : ∀ (k n : Nat), n < 2 ^ (k + 1) → (dgc b n).length ≤ k + 1
  | 0, n, h => by
    have : n / b = 0 := Nat.div_eq_of_lt (by omega)
    rw [dgc_stop this]; simp
  | k + 1, n, h => by
    by_cases h0 : n / b = 0
    · rw [dgc_stop h0]; simp
    · rw [dgc_more hb h0, List.length_cons]
      have : n / b ≤ n / 2 := Nat.div_le_div_left hb (by omega)
      have := dgc_len b hb k (n / b) (by rw [Nat.pow_succ] at h; omega)
      omega

theorem reversed_mk (b n : Nat) (D : ByteArray) (w : World) : Calls Tryz.prog 110 #[.agg #[.int .u64 b, .string D], .int .u64 n] w fun e w' =>
    e = .returned (.func (.func 124) #[] #[.pointer (some ⟨w.heap.size, 0, none⟩), .pointer (some ⟨w.heap.size + 1, 0, none⟩)]) ∧ (w.alloc (.cells #[.int .u64 b, .string D] 180)).alloc (.cells #[.int .u64 n] 86) = w' := by
  have hmf : ∀ (fn : Fn) (first cap : Array Value) (w : World), (Instr.makeFunc fn first cap).run Tryz.prog w = .ok (.func fn first cap) w := fun _ _ _ _ => rfl
  go_enter Tryz.func110, Tryz.ntmps110
  go_wp2
  go_ret
  exact ⟨rfl, rfl⟩

set_option maxRecDepth 100000 in
set_option maxHeartbeats 1000000 in
theorem put_of (b n : Nat) (hb : b = 8 ∨ b = 10 ∨ b = 16) (hn : n < 18446744073709551616) (w : World) (hof : ∀ w, Calls Tryz.prog 107 #[.int .i64 b] w fun e w' => e = .returned (.tuple #[.agg #[.int .u64 b, .string (dig16.extract 0 b)], .nilIface]) ∧ Below w.heap.size w w') :
    Calls Tryz.prog 88 #[.int .i64 b, .int .u64 n] w fun e w' => e = .returned (.string (putS b n)) ∧ Below w.heap.size w w' := by
  have HN := Lib.hid hn
  have HBb := Lib.hid hb
  have HOF := Lib.hid hof
  clear hn hb hof
  obtain ⟨i0, hi, hz0, hz1, hz2⟩ := info_parts info_u8
  obtain ⟨D, hD⟩ : ∃ D, dig16.extract 0 b = D := ⟨_, rfl⟩
  have HD := Lib.hid hD
  clear hD
  refine (callsIn_wide (n := 0)).1 ?_
  refine callsIn_of_wp_marks Tryz.func88 rfl trivial ?_ rfl
  simp only [Tryz.ntmps88, List.size_toArray, List.length_cons, List.length_nil, Nat.reduceAdd, Nat.reduceSub, Array.replicate_succ, Array.replicate_zero, List.push_toArray, List.append_toArray, List.nil_append, List.cons_append]
  gi_wp2_with fail
  refine ⟨trivial, rfl, callsIn_wide.2 ((HOF.out _).mono ?_)⟩
  rintro _ w1 ⟨rfl, hb1⟩
  rw [HD.out]
  gi_wp2_with (refine ⟨trivial, rfl, ?_⟩; gi_at_call 110; refine callsIn_wide.2 ((reversed_mk _ _ _ _).mono ?_); rintro e w' ⟨rfl, rfl⟩)
  obtain ⟨W0, hW0⟩ : ∃ W0, (((w1.alloc (.cells #[.int .u64 b, .string D] 180)).alloc (.cells #[.slice none 0 0] 45)).alloc (.cells #[.int .u64 b, .string D] 180)).alloc (.cells #[.int .u64 n] 86) = W0 := ⟨_, rfl⟩
  have hz : W0.heap.size = w1.heap.size + 4 := by rw [← hW0]; simp
  have hbL : Boxed W0 (w1.heap.size + 1) 45 (.slice none 0 0) := by rw [← hW0]; have := Boxed.new (w1.alloc (.cells #[.int .u64 b, .string D] 180)) 45 (.slice none 0 0); rw [World.size_alloc] at this; exact (this.alloc _).alloc _
  have hB0 : Below w1.heap.size w1 W0 := by rw [← hW0]; exact ((((Below.refl _ w1).alloc (Nat.le_refl _) _).alloc (by simp) _).alloc (by simp; omega) _).alloc (by simp; omega) _
  have hAt : BAt (w1.heap.size + 1 + 1) (w1.heap.size + 1 + 1 + 1) b n W0 := by
    have k1 : W0.heap[w1.heap.size + 1 + 1]? = some (.cells #[.int .u64 b, .string D] 180 (0, 0)) := by
      rw [← hW0]; have := World.alloc_heap_new ((w1.alloc (.cells #[.int .u64 b, .string D] 180)).alloc (.cells #[.slice none 0 0] 45)) (.cells #[.int .u64 b, .string D] 180); rw [World.size_alloc, World.size_alloc] at this
      exact (Below.heap_alloc _ _ _ (by simp)).trans this
    have k2 : W0.heap[w1.heap.size + 1 + 1 + 1]? = some (.cells #[.int .u64 n] 86 (0, 0)) := by
      rw [← hW0]; have := World.alloc_heap_new (((w1.alloc (.cells #[.int .u64 b, .string D] 180)).alloc (.cells #[.slice none 0 0] 45)).alloc (.cells #[.int .u64 b, .string D] 180)) (.cells #[.int .u64 n] 86); rw [World.size_alloc, World.size_alloc, World.size_alloc] at this
      exact this
    exact ⟨by simp [World.cell?, k1], by rw [HD.out]; simp [World.cell?, k1], by simp [World.cell?, k2], by simp [World.frozen?, k2]⟩
  rw [hW0]
  have HDL := Lib.hid (dgc_len b (by have := HBb.out; omega) 63 n (by have := HN.out; omega))
  refine wp_rangeFunc_iter (gf := 124) (lb := #[.pointer (some ⟨w1.heap.size + 1 + 1, 0, none⟩), .pointer (some ⟨w1.heap.size + 1 + 1 + 1, 0, none⟩)]) rfl (enters_of Tryz.func124 (by kernel_rfl) rfl)
    (reversed_iter (w1.heap.size + 1 + 1) (w1.heap.size + 1 + 1 + 1) b n HBb.out HN.out (by omega))
    (fun A B h => KeepsFrom.of_grownBy h (fun j e => by cases e; omega)) (fun W h => hAt.below h)
    (fun h k => ⟨k.1.trans h.1, k.2.trans h.2⟩) (fun W l o o' hl h _ _ => ⟨World.putObj_heap_other (by omega), World.putObj_heap_other (by omega)⟩) (fun _ => rfl)
    (fun pre W => (∃ v, Boxed W (w1.heap.size + 1) 45 v ∧ W.ownsRow (w1.heap.size + 4) 5 1 v pre.length (pre.map (Value.int .u8))) ∧ Below w1.heap.size w1 W ∧ w1.heap.size + 4 ≤ W.heap.size)
    (fun _ _ _ => False) ?hI (fun _ _ _ _ _ hs _ _ => hs) ?hIs (fun _ _ _ _ h _ => h) (fun x => ownFrom_pure _ _) (ownFrom_pure _ _) (ownFrom_pure _ _)
    ⟨⟨_, hbL, World.ownsRow_nil _ _ _ _⟩, hB0, by omega⟩
    (fun x => { tmps := #[.int .i64 b, .int .u64 n, undef, undef, .string ⟨#[]⟩, .pointer (some ⟨w1.heap.size, 0, none⟩), .nilIface, .pointer (some ⟨w1.heap.size + 1, 0, none⟩), .int .u8 x, .tuple #[.agg #[.int .u64 b, .string D], .nilIface], .int .i64 b, .tuple #[.agg #[.int .u64 b, .string D], .nilIface], .agg #[.int .u64 b, .string D], .nilIface, .nilIface, .bool false, .agg #[.int .u64 b, .string D], .int .u64 n, .func (.func 124) #[] #[.pointer (some ⟨w1.heap.size + 1 + 1, 0, none⟩), .pointer (some ⟨w1.heap.size + 1 + 1 + 1, 0, none⟩)], .int .u8 x, undef, undef, undef, undef, undef, undef, undef, undef], defers := [] }) ?assign ?body ?done ?stop
  case hI =>
    rintro pre A B row ⟨⟨v, hv, hr⟩, hB, hz'⟩ hg hrow
    exact ⟨⟨v, hv.kept hg (fun e => by have := hrow _ e.symm; omega), hr.kept hg (ownBlock_ne_row hr hrow)⟩, hB.grown hg (by omega) (fun k e => by have := hrow _ e; omega), Nat.le_trans hz' hg.size⟩
  case hIs =>
    rintro pre A B ⟨⟨v, hv, hr⟩, hB, hz'⟩ hg
    exact ⟨⟨v, hv.kept hg (fun e => by injection e with e; omega), hr.kept hg (ownBlock_ne_of_base hr (by omega))⟩, hB.grown hg (by omega) (fun k e => by cases e; omega), Nat.le_trans hz' hg.size⟩
  case assign =>
    intro l x W K hK
    gi_wp2
    exact hK
  case stop =>
    rintro D c pre W _ _ h _
    exact h.elim
  case body =>
    rintro l pre x W ⟨⟨v, hv, hrow⟩, hB, hz'⟩ hlen
    have hc := hv.cell
    have hlen' : pre.length < 64 := by have := HDL.out; omega
    clear hlen
    gi_wp2_with (gi_at_builtin; refine wpListIn_append_own _ rfl _ _ 45 rfl (w1.heap.size + 4) 5 i0 (.int .u8 0) 1 1 Tryz.underlying45 hi hz0 hz1 hz2 rfl (by decide) _ _ _ rfl (hrow.alloc _) ⟨W.heap.size, 0, none⟩ 1 1 [.int .u8 x] rfl rfl (cell_one_new _ _ _) (by simp [Value.oneCell']) (by unfold maxLen; omega) (by omega) (by simp; omega) ?_; intro v' w3 hown' hgrow _; obtain ⟨g', cap', rfl⟩ := ownsRow_succ hown'; obtain ⟨hv1, hv2, _, hk2, hb2⟩ := hv.appended (by decide) (ownsRow_base hrow (base' := w1.heap.size + 1) (by omega)) (by omega) (Nat.le_refl _) (ownsRow_base hown' (base' := w1.heap.size + 1) (by omega)) hgrow; have hr2 := hown'.kept (grownBy_setCell' w3 (w1.heap.size + 1) (.slice (some ⟨g', 0, none⟩) (pre.length + 1) cap')) (.inr (hv1.not_row (by decide) hown').symm); have hc1 := hv1.cell; have hf1 := hv1.frozen)
    have hg2 : (W.alloc (.cells #[.int .u8 x] 5)).grownBy w3 v.ownBlock := hgrow
    have oX := fun C (hC : C < w1.heap.size + 4) (hC2 : C ≠ w1.heap.size + 1) => appended_other (C := C) (v' := .slice (some ⟨g', 0, none⟩) (pre.length + 1) cap') hg2 (by omega) (B := w1.heap.size + 1) hC2 (fun e => by rcases ownBlock_ne_of_base hrow (X := C) hC with h | h; rw [h] at e; cases e; exact h e.symm)
    exact ⟨hk2.from _, ⟨oX _ (by omega) (by omega), oX _ (by omega) (by omega)⟩, ⟨⟨_, hv2, by simpa using hr2⟩, hB.trans (hb2.mono (by omega)), by have := hb2.size; omega⟩⟩
  case done =>
    rintro Dk ys W hD hS ⟨⟨v, hv, hrow⟩, hB, hz'⟩ hK
    subst hS
    have hc := hv.cell
    have HR0 := Kd.R_of_own (enc := Value.int .u8) (h1 := fun _ => rfl) (ok := fun k => v.ownBlock = some k) (xs := dgc b n) (ownsRow_base hrow (base' := w1.heap.size) (by omega)) (fun k h => h)
    have hrv := reverse_f (dgc b n) (by have := HDL.out; omega)
    have HRV := Lib.hid hrv
    have hDK : ¬ v.ownBlock = some Dk := fun e => by obtain ⟨cs, hcs⟩ := own_typed hrow _ e; rw [hK] at hcs; cases hcs
    have hDL : ¬ v.ownBlock = some (w1.heap.size + 1) := fun e => hv.not_row (by decide) hrow e.symm
    clear hrv
    gi_wp2_with fail
    refine ⟨trivial, rfl, callsIn_wide.2 ((slices_Reverse_byte_byte.calls _ _ v (dgc b n) _ w1 W hB HR0 HRV.out).mono ?_)⟩
    rintro _ w4 ⟨rfl, hR4, hB4, hK4⟩
    have hc4 : w4.cell? ⟨w1.heap.size + 1, 0, none⟩ = some v := (hv.kept (W' := w4) (row := v.ownBlock) ⟨by rw [hB4.os, hB.os], by rw [hB4.tape, hB.tape], by rw [hB4.output, hB.output], hK4.1, fun k hk hn => hK4.2 k hk (fun e => hn e.symm)⟩ (fun e => hDL e.symm)).cell
    have hDf : w4.heap[Dk]? = some (.deferred (some [])) := (hK4.2 Dk (Array.getElem?_eq_some_iff.1 hK).1 hDK).trans hK
    have hcv := own_string (P := Tryz.prog) (src := 45) (dst := 9) Tryz.underlying45 Tryz.underlying5 Tryz.underlying9 (Kd.own_of_R hR4)
    gi_wp2
    refine ⟨by simp, .inl ⟨_, _, rfl, run_takeDeferred hDf, ?_⟩⟩
    refine ⟨_, results_tmp rfl _ _ _, rfl, ?_⟩
    exact below_tr hb1 (hB4.trans (belowK_b (w := w1) (Nat.le_refl _) w4 Dk _ _ (by omega) hDf rfl rfl))
end Go.Proofs.YtbcjhmeeonhmaaaGreatDoor.H
end

/-
(*escape.table).escaped, walked.
-/
section
set_option linter.unusedVariables false
set_option maxRecDepth 100000
namespace Go.Proofs.YtbcjhmeeonhmaaaGreatDoor.H
open Go Go.RowKit

/-- A rune's escape; false: it is itself. -/
def escS (r : Int) : ByteArray × Bool :=
  if r = 38 then (⟨#[38, 97, 109, 112, 59]⟩, true) else if r = 60 then (⟨#[38, 108, 116, 59]⟩, true) else if r = 62 then (⟨#[38, 103, 116, 59]⟩, true) else if r = 34 then (⟨#[38, 113, 117, 111, 116, 59]⟩, true) else
  if r = 9 then (⟨#[38, 35, 57, 59]⟩, true) else if r = 10 then (⟨#[38, 35, 49, 48, 59]⟩, true) else if r = 13 then (⟨#[38, 35, 49, 51, 59]⟩, true) else (⟨#[]⟩, false)
theorem find_miss {r : Int} (h : r ≠ 38 ∧ r ≠ 60 ∧ r ≠ 62 ∧ r ≠ 34 ∧ r ≠ 39) : Instr.findNow (.int .i32) (.int .i32 r) (e1 5).toList 0 = some none := by
  obtain ⟨h0, h1, h2, h3, h4⟩ := h
  have b0 : (r == 38) = false := by rw [beq_eq_false_iff_ne]; exact h0
  have b1 : (r == 60) = false := by rw [beq_eq_false_iff_ne]; exact h1
  have b2 : (r == 62) = false := by rw [beq_eq_false_iff_ne]; exact h2
  have b3 : (r == 34) = false := by rw [beq_eq_false_iff_ne]; exact h3
  have b4 : (r == 39) = false := by rw [beq_eq_false_iff_ne]; exact h4
  simp [e1, rsL, List.range, List.range.loop, Instr.findNow, Instr.sameNow, b0, b1, b2, b3, b4]
theorem find_hit : Instr.findNow (.int .i32) (.int .i32 38) (e1 5).toList 0 = some (some (0, .int .i64 0)) ∧ Instr.findNow (.int .i32) (.int .i32 60) (e1 5).toList 0 = some (some (1, .int .i64 1)) ∧
    Instr.findNow (.int .i32) (.int .i32 62) (e1 5).toList 0 = some (some (2, .int .i64 2)) ∧ Instr.findNow (.int .i32) (.int .i32 34) (e1 5).toList 0 = some (some (3, .int .i64 3)) ∧ Instr.findNow (.int .i32) (.int .i32 39) (e1 5).toList 0 = some (some (4, .int .i64 4)) := ⟨rfl, rfl, rfl, rfl, rfl⟩
def EscPost (r : Int) (w : World) (e : Ending) (w' : World) : Prop := e = .returned (.tuple #[.string (escS r).1, .bool (escS r).2]) ∧ Below w.heap.size w w'
set_option maxHeartbeats 1000000 in
theorem esc_hit (b : Nat) (r : Int) (i : Nat) (name : ByteArray) (w : World) (hT : Tbl b w) (hf : Instr.findNow (.int .i32) (.int .i32 r) (e1 5).toList 0 = some (some (i, .int .i64 i))) (hi : i < 4) (h39 : r ≠ 39)
    (hn : ∀ {c : Nat}, w.heap[c]? = some obW → w.cell? ⟨c, i, none⟩ = some (.string name)) (hs : name.size ≤ 100) (hE : escS r = ((⟨#[38]⟩ ++ name) ++ ⟨#[59]⟩, true)) :
    Calls Tryz.prog 60 #[.pointer (some ⟨b, 0, none⟩), .int .i32 r] w (EscPost r w) := by
  obtain ⟨M1, M2, c, s, h1, h2, h3, h4⟩ := hT
  have l1 : w.cell? ⟨b, 3, none⟩ = some (.map (some M1)) := by simp [World.cell?, h1]
  have l2 : w.cell? ⟨b, 5, none⟩ = some (.slice (some ⟨c, 0, none⟩) 5 5) := by simp [World.cell?, h1]
  have l3 := hn h4
  have hl := run_lookup_hit (P := Tryz.prog) (t := 77) Tryz.underlying77 Tryz.underlying21 (run_checkKey_int Tryz.underlying21 · r ·) h2 hf true
  simp only [if_true] at hl
  have h39b : (r != 39) = true := by rw [bne_iff_ne]; exact h39
  have HE := Lib.hid hE
  clear hE hn h1 h2 h3 h4 hf
  go_enter Tryz.func60, Tryz.ntmps60
  go_wp2
  go_ret2
  exact ⟨by rw [HE.out]; rfl, Below.refl _ _⟩
theorem zeroI (w : World) : (zeroValue 3).run Tryz.prog w = .ok (.int .i64 0) w := by go_simp
set_option maxHeartbeats 1000000 in
/-- A rune that is itself: not in the table (or the apostrophe), and no control. -/
theorem esc_none (b : Nat) (r : Int) (w : World) (hT : Tbl b w) (h : r ≠ 38 ∧ r ≠ 60 ∧ r ≠ 62 ∧ r ≠ 34) (hc : r ≠ 9 ∧ r ≠ 10 ∧ r ≠ 13) :
    Calls Tryz.prog 60 #[.pointer (some ⟨b, 0, none⟩), .int .i32 r] w (EscPost r w) := by
  obtain ⟨M1, M2, c, s, h1, h2, h3, h4⟩ := hT
  have l1 : w.cell? ⟨b, 3, none⟩ = some (.map (some M1)) := by simp [World.cell?, h1]
  have hE : escS r = (⟨#[]⟩, false) := by
    unfold escS
    rw [if_neg h.1, if_neg h.2.1, if_neg h.2.2.1, if_neg h.2.2.2, if_neg hc.1, if_neg hc.2.1, if_neg hc.2.2]
  have HE := Lib.hid hE
  have q1 : (r == 9) = false := by rw [beq_eq_false_iff_ne]; exact hc.1
  have q2 : (r == 10) = false := by rw [beq_eq_false_iff_ne]; exact hc.2.1
  have q3 : (r == 13) = false := by rw [beq_eq_false_iff_ne]; exact hc.2.2
  by_cases h39 : r = 39
  · subst h39
    have hl := run_lookup_hit (P := Tryz.prog) (t := 77) Tryz.underlying77 Tryz.underlying21 (run_checkKey_int Tryz.underlying21 · 39 ·) h2 find_hit.2.2.2.2 true
    simp only [if_true] at hl
    clear h1 h2 h3 h4 hE h hc
    go_enter Tryz.func60, Tryz.ntmps60
    go_wp2
    go_ret2
    exact ⟨by rw [HE.out]; rfl, Below.refl _ _⟩
  · have hl := run_lookup_miss (P := Tryz.prog) (t := 77) Tryz.underlying77 Tryz.underlying21 (run_checkKey_int Tryz.underlying21 · r ·) h2 (find_miss ⟨h.1, h.2.1, h.2.2.1, h.2.2.2, h39⟩) (z := .int .i64 0) zeroI true
    simp only [if_true] at hl
    have h39b : (r != 39) = true := by rw [bne_iff_ne]; exact h39
    clear h1 h2 h3 h4 hE h hc
    go_enter Tryz.func60, Tryz.ntmps60
    go_wp2
    go_ret2
    exact ⟨by rw [HE.out]; rfl, Below.refl _ _⟩
theorem esc_put (m : Nat) (h : m < 10000) (w : World) : Calls Tryz.prog 88 #[.int .i64 10, .int .u64 m] w fun e w' => e = .returned (.string (putS 10 m)) ∧ Below w.heap.size w w' :=
  put_of 10 m (by omega) (by omega) w (of10)
set_option maxHeartbeats 1000000 in
theorem esc_ctl (b : Nat) (r : Int) (d : ByteArray) (w : World) (hT : Tbl b w) (hr : r = 9 ∨ r = 10 ∨ r = 13) (hP : Calls Tryz.prog 88 #[.int .i64 10, .int .u64 r] w fun e w' => e = .returned (.string d) ∧ Below w.heap.size w w')
    (hs : d.size ≤ 100) (hE : escS r = (((⟨#[38, 35]⟩ : ByteArray) ++ d) ++ ⟨#[59]⟩, true)) :
    Calls Tryz.prog 60 #[.pointer (some ⟨b, 0, none⟩), .int .i32 r] w (EscPost r w) := by
  obtain ⟨M1, M2, c, s, h1, h2, h3, h4⟩ := hT
  have l1 : w.cell? ⟨b, 3, none⟩ = some (.map (some M1)) := by simp [World.cell?, h1]
  have HE := Lib.hid hE
  have hl := run_lookup_miss (P := Tryz.prog) (t := 77) Tryz.underlying77 Tryz.underlying21 (run_checkKey_int Tryz.underlying21 · r ·) h2 (find_miss ⟨by omega, by omega, by omega, by omega, by omega⟩) (z := .int .i64 0) zeroI true
  simp only [if_true] at hl
  have HP := Lib.hid hP
  clear h1 h2 h3 h4 hE hP
  rcases hr with rfl | rfl | rfl
  all_goals
    go_enter Tryz.func60, Tryz.ntmps60
    go_wp2_with fail
    refine HP.out.mono ?_
    rintro e w1 ⟨rfl, hb⟩
    go_wp2
    go_ret2
    exact ⟨by rw [HE.out]; rfl, hb⟩
theorem word_at {w : World} {c : Nat} (h : w.heap[c]? = some obW) : w.cell? ⟨c, 0, none⟩ = some (.string ⟨#[97, 109, 112]⟩) ∧ w.cell? ⟨c, 1, none⟩ = some (.string ⟨#[108, 116]⟩) ∧ w.cell? ⟨c, 2, none⟩ = some (.string ⟨#[103, 116]⟩) ∧ w.cell? ⟨c, 3, none⟩ = some (.string ⟨#[113, 117, 111, 116]⟩) := by
  unfold obW at h
  exact ⟨by simp [World.cell?, h], by simp [World.cell?, h], by simp [World.cell?, h], by simp [World.cell?, h]⟩
theorem put_ctl : putS 10 9 = ⟨#[57]⟩ ∧ putS 10 10 = ⟨#[49, 48]⟩ ∧ putS 10 13 = ⟨#[49, 51]⟩ := by
  unfold putS
  rw [dgc_stop (n := 9) (by decide), dgc_more (n := 10) (by decide) (by decide), dgc_more (n := 13) (by decide) (by decide), dgc_stop (n := 10 / 10) (by decide)]
  exact ⟨rfl, rfl, rfl⟩
/-- The escape of any rune. -/
theorem escaped (b : Nat) (r : Int) (w : World) (hT : Tbl b w) : Calls Tryz.prog 60 #[.pointer (some ⟨b, 0, none⟩), .int .i32 r] w (EscPost r w) := by
  by_cases a1 : r = 38
  · subst a1; exact esc_hit b 38 0 ⟨#[97, 109, 112]⟩ w hT find_hit.1 (by decide) (by decide) (fun h => (word_at h).1) (by decide) rfl
  by_cases a2 : r = 60
  · subst a2; exact esc_hit b 60 1 ⟨#[108, 116]⟩ w hT find_hit.2.1 (by decide) (by decide) (fun h => (word_at h).2.1) (by decide) rfl
  by_cases a3 : r = 62
  · subst a3; exact esc_hit b 62 2 ⟨#[103, 116]⟩ w hT find_hit.2.2.1 (by decide) (by decide) (fun h => (word_at h).2.2.1) (by decide) rfl
  by_cases a4 : r = 34
  · subst a4; exact esc_hit b 34 3 ⟨#[113, 117, 111, 116]⟩ w hT find_hit.2.2.2.1 (by decide) (by decide) (fun h => (word_at h).2.2.2) (by decide) rfl
  by_cases a5 : r = 9
  · subst a5
    have := esc_put 9 (by decide) w
    rw [put_ctl.1] at this
    exact esc_ctl b 9 _ w hT (by decide) this (by decide) rfl
  by_cases a6 : r = 10
  · subst a6
    have := esc_put 10 (by decide) w
    rw [put_ctl.2.1] at this
    exact esc_ctl b 10 _ w hT (by decide) this (by decide) rfl
  by_cases a7 : r = 13
  · subst a7
    have := esc_put 13 (by decide) w
    rw [put_ctl.2.2] at this
    exact esc_ctl b 13 _ w hT (by decide) this (by decide) rfl
  exact esc_none b r w hT ⟨a1, a2, a3, a4⟩ ⟨a5, a6, a7⟩
end Go.Proofs.YtbcjhmeeonhmaaaGreatDoor.H
end

-- Laid by a program of this session for this claim.
section
namespace Go.Proofs.YtbcjhmeeonhmaaaGreatDoor.M
open Go.RowKit Go.Proofs.YtbcjhmeeonhmaaaGreatDoorW.PrintWords Go.Proofs.YtbcjhmeeonhmaaaGreatDoorW.PrintLast Go.Proofs.YtbcjhmeeonhmaaaGreatDoorW.PrintMore
attribute [local go_sem] max2_int min2_int max_two min_two max_three min_three max_four min_four   -- for this text's walks alone
set_option linter.unusedVariables false
set_option linter.unusedSimpArgs false

/-! ### utf_head: function 97 -/
def utf_head.f (a0 : Int) : Option (Int × Int) := if a0 ≥ 248 then (some ((-1), 0)) else (if a0 ≥ 240 then (some (3, (a0 - 240) % 256)) else (if a0 ≥ 224 then (some (2, (a0 - 224) % 256)) else (if a0 ≥ 192 then (some (1, (a0 - 192) % 256)) else (if a0 ≥ 128 then (if a0 < 128 then (some (0, wrap64 (a0))) else (some ((-1), 0))) else (if a0 < 128 then (some (0, wrap64 (a0))) else (some ((-1), 0)))))))
set_option maxHeartbeats 8000000 in
set_option maxRecDepth 100000 in
theorem utf_head.calls (a0 : Int) (r1 : Int) (r2 : Int) (w : World) (h : utf_head.f a0 = some (r1, r2)) :
    Calls Tryz.prog 97 #[.int .u8 a0] w fun e w' => e = .returned (.tuple #[.int .i64 r1, .int .i64 r2]) ∧ Drawn0 w w' := by
  have H : (if a0 ≥ 248 then (some ((-1), 0)) else (if a0 ≥ 240 then (some (3, (a0 - 240) % 256)) else (if a0 ≥ 224 then (some (2, (a0 - 224) % 256)) else (if a0 ≥ 192 then (some (1, (a0 - 192) % 256)) else (if a0 ≥ 128 then (if a0 < 128 then (some (0, wrap64 (a0))) else (some ((-1), 0))) else (if a0 < 128 then (some (0, wrap64 (a0))) else (some ((-1), 0)))))))) = some (r1, r2) := h
  clear h
  by_cases c2 : a0 ≥ 248
  · rw [if_pos c2] at H
    have c2b0 : decide (248 ≤ a0) = true := decide_eq_true c2
    clear c2
    simp only [Option.some.injEq, Prod.mk.injEq] at H
    obtain ⟨rfl, rfl⟩ := H
    go_enter Tryz.func97, Tryz.ntmps97
    go_wp2
    go_ret2
    exact ⟨by first | rfl | (simp; done) | (simp [*]; done), by repeat (first | exact Drawn0.refl _ | apply Drawn0.step)⟩
  · rw [if_neg c2] at H
    have c2b0 : decide (248 ≤ a0) = false := decide_eq_false c2
    clear c2
    by_cases c3 : a0 ≥ 240
    · rw [if_pos c3] at H
      have c3b0 : decide (240 ≤ a0) = true := decide_eq_true c3
      clear c3
      simp only [Option.some.injEq, Prod.mk.injEq] at H
      obtain ⟨rfl, rfl⟩ := H
      go_enter Tryz.func97, Tryz.ntmps97
      go_wp2
      go_ret2
      exact ⟨by first | rfl | (simp; done) | (simp [*]; done), by repeat (first | exact Drawn0.refl _ | apply Drawn0.step)⟩
    · rw [if_neg c3] at H
      have c3b0 : decide (240 ≤ a0) = false := decide_eq_false c3
      clear c3
      by_cases c4 : a0 ≥ 224
      · rw [if_pos c4] at H
        have c4b0 : decide (224 ≤ a0) = true := decide_eq_true c4
        clear c4
        simp only [Option.some.injEq, Prod.mk.injEq] at H
        obtain ⟨rfl, rfl⟩ := H
        go_enter Tryz.func97, Tryz.ntmps97
        go_wp2
        go_ret2
        exact ⟨by first | rfl | (simp; done) | (simp [*]; done), by repeat (first | exact Drawn0.refl _ | apply Drawn0.step)⟩
      · rw [if_neg c4] at H
        have c4b0 : decide (224 ≤ a0) = false := decide_eq_false c4
        clear c4
        by_cases c5 : a0 ≥ 192
        · rw [if_pos c5] at H
          have c5b0 : decide (192 ≤ a0) = true := decide_eq_true c5
          clear c5
          simp only [Option.some.injEq, Prod.mk.injEq] at H
          obtain ⟨rfl, rfl⟩ := H
          go_enter Tryz.func97, Tryz.ntmps97
          go_wp2
          go_ret2
          exact ⟨by first | rfl | (simp; done) | (simp [*]; done), by repeat (first | exact Drawn0.refl _ | apply Drawn0.step)⟩
        · rw [if_neg c5] at H
          have c5b0 : decide (192 ≤ a0) = false := decide_eq_false c5
          clear c5
          by_cases c6 : a0 ≥ 128
          · rw [if_pos c6] at H
            have c6b0 : decide (128 ≤ a0) = true := decide_eq_true c6
            clear c6
            by_cases c7 : a0 < 128
            · rw [if_pos c7] at H
              have c7b0 : decide (a0 < 128) = true := decide_eq_true c7
              clear c7
              simp only [Option.some.injEq, Prod.mk.injEq] at H
              obtain ⟨rfl, rfl⟩ := H
              go_enter Tryz.func97, Tryz.ntmps97
              go_wp2
              go_ret2
              exact ⟨by first | rfl | (simp; done) | (simp [*]; done), by repeat (first | exact Drawn0.refl _ | apply Drawn0.step)⟩
            · rw [if_neg c7] at H
              have c7b0 : decide (a0 < 128) = false := decide_eq_false c7
              clear c7
              simp only [Option.some.injEq, Prod.mk.injEq] at H
              obtain ⟨rfl, rfl⟩ := H
              go_enter Tryz.func97, Tryz.ntmps97
              go_wp2
              go_ret2
              exact ⟨by first | rfl | (simp; done) | (simp [*]; done), by repeat (first | exact Drawn0.refl _ | apply Drawn0.step)⟩
          · rw [if_neg c6] at H
            have c6b0 : decide (128 ≤ a0) = false := decide_eq_false c6
            clear c6
            by_cases c8 : a0 < 128
            · rw [if_pos c8] at H
              have c8b0 : decide (a0 < 128) = true := decide_eq_true c8
              clear c8
              simp only [Option.some.injEq, Prod.mk.injEq] at H
              obtain ⟨rfl, rfl⟩ := H
              go_enter Tryz.func97, Tryz.ntmps97
              go_wp2
              go_ret2
              exact ⟨by first | rfl | (simp; done) | (simp [*]; done), by repeat (first | exact Drawn0.refl _ | apply Drawn0.step)⟩
            · rw [if_neg c8] at H
              have c8b0 : decide (a0 < 128) = false := decide_eq_false c8
              clear c8
              simp only [Option.some.injEq, Prod.mk.injEq] at H
              obtain ⟨rfl, rfl⟩ := H
              go_enter Tryz.func97, Tryz.ntmps97
              go_wp2
              go_ret2
              exact ⟨by first | rfl | (simp; done) | (simp [*]; done), by repeat (first | exact Drawn0.refl _ | apply Drawn0.step)⟩

end Go.Proofs.YtbcjhmeeonhmaaaGreatDoor.M
end

-- Laid by a program of this session for this claim.
section
namespace Go.Proofs.YtbcjhmeeonhmaaaGreatDoor.M
open Go.RowKit Go.Proofs.YtbcjhmeeonhmaaaGreatDoorW.PrintWords Go.Proofs.YtbcjhmeeonhmaaaGreatDoorW.PrintLast Go.Proofs.YtbcjhmeeonhmaaaGreatDoorW.PrintMore
attribute [local go_sem] max2_int min2_int max_two min_two max_three min_three max_four min_four   -- for this text's walks alone
set_option linter.unusedVariables false
set_option linter.unusedSimpArgs false

/-! ### utf_isIn: function 39 -/
-- IMPORT Derived.Test.YtbcjhmeeonhmaaaGreatDoorHUtf
def utf_isIn.f (a0 : Int) (l1 : List S113) : Option Bool := if (l1 ≠ [] ∧ l1.length ≤ 1000) ∧ H.SpansOk (l1.map fun x => (x.f0, x.f1)) then some (H.anyB a0 (l1.map fun x => (x.f0, x.f1))) else none
theorem utf_isIn.calls (a0 : Int) (A1 : Option Addr) (c1 : Nat) (l1 : List S113) (r : Bool) (w : World) (hr1 : Kd.C k113 w A1 l1.length l1) (hc1 : l1.length ≤ c1) (h : utf_isIn.f a0 l1 = some r) :
    Calls Tryz.prog 39 #[.int .i64 a0, .slice A1 l1.length c1] w fun e w' => e = .returned (.bool r) ∧ Below w.heap.size w w' := by
  unfold utf_isIn.f at h
  by_cases hh : (l1 ≠ [] ∧ l1.length ≤ 1000) ∧ H.SpansOk (l1.map fun x => (x.f0, x.f1))
  · rw [if_pos hh] at h
    obtain rfl := Option.some.inj h
    cases l1 with
    | nil => exact absurd rfl hh.1.1
    | cons x t =>
      obtain ⟨ad, e, _⟩ := at_T113 hr1 0 (by omega) (by simp)
      subst e
      have hs : H.SpansAt w ad ((x :: t).map fun x => (x.f0, x.f1)) := fun j hj => by
        have hj' : j < (x :: t).length := by simpa using hj
        obtain ⟨ad', e', h1, h2⟩ := at_T113 hr1 j (by omega) (by omega)
        obtain rfl := Option.some.inj e'
        have hg : rd_T113 (x :: t) (j : Int) = (x :: t)[j] := by unfold rd_T113; rw [Int.toNat_natCast, List.getD_eq_getElem?_getD, List.getElem?_eq_getElem hj']; rfl
        rw [hg, Int.toNat_natCast] at h1 h2
        rw [List.getElem_map]
        exact ⟨h1, h2⟩
      have := H.isIn a0 ((x :: t).map fun x => (x.f0, x.f1)) ad c1 w hs hh.2 (by rw [List.length_map]; exact hh.1.2)
      rw [List.length_map] at this
      exact this
  · rw [if_neg hh] at h
    cases h

end Go.Proofs.YtbcjhmeeonhmaaaGreatDoor.M
end

-- Laid by a program of this session for this claim.
section
namespace Go.Proofs.YtbcjhmeeonhmaaaGreatDoor.M
open Go.RowKit Go.Proofs.YtbcjhmeeonhmaaaGreatDoorW.PrintWords Go.Proofs.YtbcjhmeeonhmaaaGreatDoorW.PrintLast Go.Proofs.YtbcjhmeeonhmaaaGreatDoorW.PrintMore
attribute [local go_sem] max2_int min2_int max_two min_two max_three min_three max_four min_four   -- for this text's walks alone
set_option linter.unusedVariables false
set_option linter.unusedSimpArgs false

/-! ### utf_isRune: function 98 -/
def utf_isRune.f (a0 : Int) : Option (Bool) := (utf_isIn.f a0 (([(⟨0, 55295⟩ : S113), (⟨57344, 1114111⟩ : S113)] : List (S113)))).bind fun t283 => (some t283)
set_option maxHeartbeats 8000000 in
set_option maxRecDepth 100000 in
theorem utf_isRune.calls (a0 : Int) (r : Bool) (w : World) (h : utf_isRune.f a0 = some r) :
    Calls Tryz.prog 98 #[.int .i64 a0] w fun e w' => e = .returned (.bool r) ∧ Below w.heap.size w w' := by
  have hu113 := Tryz.underlying113
  have HB := Aside0.mk (Below.refl w.heap.size w)
  have H : ((utf_isIn.f a0 (([(⟨0, 55295⟩ : S113), (⟨57344, 1114111⟩ : S113)] : List (S113)))).bind fun t283 => (some t283)) = some r := h
  clear h
  obtain ⟨y280, hy280⟩ : ∃ y_ : List (S113), y_ = (([(⟨0, 55295⟩ : S113), (⟨57344, 1114111⟩ : S113)] : List (S113))) := ⟨_, rfl⟩
  replace H : ((utf_isIn.f a0 y280).bind fun t283 => (some t283)) = some r := by first | (rw [hy280]; with_reducible exact H) | (have H2_ := (Option.bind_some _ _).symm.trans H; rw [hy280]; with_reducible exact H2_) | (have H2_ := (Option.bind_some _ _).symm.trans H; with_reducible exact H2_) | with_reducible exact H | (rw [hy280]; exact H) | exact H
  have Ny280 := Aside0.mk hy280
  clear hy280
  replace H := Option.bind_eq_some_iff.mp H
  obtain ⟨t283, A20, H⟩ := H
  replace H : (some t283) = some r := H
  have A2 := Aside0.mk A20
  clear A20
  obtain rfl := Option.some.inj H
  go_enter Tryz.func98, Tryz.ntmps98
  go_wp2_with (first | ((with_reducible refine gate_dst (N := 6) rfl ?_); refine Kd.R_lit k113 _ 113 ?hg (N := 6) ?hd (xs := ([(⟨0, 55295⟩ : S113), (⟨57344, 1114111⟩ : S113)] : List (S113))) (inner := [.int .i32 0, .int .i32 55295, .int .i32 57344, .int .i32 1114111]) (ok := fun _ => True) (okp := fun _ => True) ?hr ?hp (fun _ hk => hk) trivial (Below.refl _ _) (Nat.le_refl _) (by simp) ?_; (case hd => rfl); (case hg => rfl); (case hr => first | (go_simp; done) | (go_simp; rfl)); (case hp => exact (Reps.c2 (show Kd.M k113 _ _ _ (⟨0, 55295⟩ : S113) [.int .i32 0, .int .i32 55295] from (k113_mkM _ _ _ (⟨0, 55295⟩ : S113) )) (Reps.c2 (show Kd.M k113 _ _ _ (⟨57344, 1114111⟩ : S113) [.int .i32 57344, .int .i32 1114111] from (k113_mkM _ _ _ (⟨57344, 1114111⟩ : S113) )) (Reps.none _ _)))); intro v281 w3 ho4 hb hg_ hnew_; clear hg_ hnew_; (first | rw [← Ny280.out] at ho4 | (simp only [Int.reduceToNat] at ho4; rw [← Ny280.out] at ho4)); have n0_ := Aside0.mk (Kd.R_lower ho4 (below_size (by repeat (first | (with_reducible first | exact HB.out | apply below_alloc | apply pw_below_drewN | apply below_drew1) | exact HB.out)))); have n1_ := Aside0.mk (below_step (by repeat (first | (with_reducible first | exact HB.out | apply below_alloc | apply pw_below_drewN | apply below_drew1) | exact HB.out)) hb); clear HB; have HO282 := n0_; have HB := n1_; clear n0_ n1_; clear hb ho4; obtain ⟨Ao5, co5, eo5⟩ := Kd.R_slice HO282.out; subst eo5) | ((with_reducible refine gate_callee (f := 39) rfl ?_); refine goesL_ (some 7) rfl rfl Tryz.func39 (by kernel_rfl) rfl #[.int .i64 a0, .slice Ao5 y280.length co5] rfl (by (try simp only [List.map_toArray, List.map_cons, List.map_nil]); first | done | rfl | (simp only [List.length_drop, List.length_take]; rfl)) ?_; (with_reducible refine (utf_isIn.calls a0 _ _ y280 t283 _ ?side1 ?side2 A2.out).mono ?_); (case side1 => repeat (first | exact (Kd.R_reads' HO282.out).2.2 | (with_reducible refine Kd.C_alloc ?_ _) | (with_reducible refine Kd.C_drewN ?_ _) | (with_reducible refine Kd.C_drew ?_))); (case side2 => exact (Kd.R_reads' HO282.out).2.1); rintro e w6 ⟨rfl, hb⟩; refine ⟨_, rfl, ?_⟩; have n0_ := Aside0.mk (Kd.R_below (by (with_reducible repeat (first | apply Kd.R_alloc | apply Kd.R_drewN | apply Kd.R_drew)); exact HO282.out) hb); have n1_ := Aside0.mk (below_step (by repeat (first | (with_reducible first | exact HB.out | apply below_alloc | apply pw_below_drewN | apply below_drew1) | exact HB.out)) hb); clear HO282; clear HB; have HO282 := n0_; have HB := n1_; clear n0_ n1_; (try clear hb); (try clear hb2); (try clear hk); (try clear hi)))
  go_ret
  exact ⟨by first | rfl | (simp [errW_none, errW_some] <;> rfl) | (simp [*, errW_none, errW_some] <;> rfl), by repeat (first | (with_reducible first | exact HB.out | apply below_alloc | apply pw_below_drewN | apply below_drew1) | exact HB.out)⟩

end Go.Proofs.YtbcjhmeeonhmaaaGreatDoor.M
end

-- Laid by a program of this session for this claim.
section
namespace Go.Proofs.YtbcjhmeeonhmaaaGreatDoor.M
open Go.RowKit Go.Proofs.YtbcjhmeeonhmaaaGreatDoorW.PrintWords Go.Proofs.YtbcjhmeeonhmaaaGreatDoorW.PrintLast Go.Proofs.YtbcjhmeeonhmaaaGreatDoorW.PrintMore
attribute [local go_sem] max2_int min2_int max_two min_two max_three min_three max_four min_four   -- for this text's walks alone
set_option linter.unusedVariables false
set_option linter.unusedSimpArgs false

/-! ### utf_Encode: function 73 -/
mutual
def utf_Encode.j0 : Nat → Int → Int → Int → Option (ByteArray × Int)
  | 0, _, _, _ => none
  | k + 1, x0, x4, x5 => if 0 ≤ x5 then (utf_Encode.l0 k x0 x5 (([(Go.bits .or .i64 x4 (shr .i64 x0 x5)) % 256] : List Int))) else (none)
def utf_Encode.l0 : Nat → Int → Int → List Int → Option (ByteArray × Int)
  | 0, _, _, _ => none
  | k + 1, x0, x5, x6 => if x5 > 0 then (if 0 ≤ (wrap64 (x5 - 6)) then (if x6.length < 140737488355328 then (utf_Encode.l0 k x0 (wrap64 (x5 - 6)) (x6 ++ [(Go.bits .or .i64 128 (Go.bits .and .i64 (shr .i64 x0 (wrap64 (x5 - 6))) 63)) % 256])) else (none)) else (none)) else (some (strOfNums x6, 0))
end
def utf_Encode.f (k : Nat) (a0 : Int) : Option (ByteArray × Int) := (utf_isRune.f a0).bind fun t284 => (if t284 = true then (if a0 ≥ 65536 then (utf_Encode.j0 k a0 240 18) else (if a0 ≥ 2048 then (utf_Encode.j0 k a0 224 12) else (if a0 ≥ 128 then (utf_Encode.j0 k a0 192 6) else (utf_Encode.j0 k a0 0 0)))) else (some ((⟨#[]⟩ : ByteArray), 20)))
set_option maxHeartbeats 8000000 in
set_option maxRecDepth 100000 in
theorem utf_Encode.calls (k : Nat) (a0 : Int) (r1 : ByteArray) (r2 : Int) (w : World) (h : utf_Encode.f k a0 = some (r1, r2)) :
    Calls Tryz.prog 73 #[.int .i64 a0] w fun e w' => e = .returned (.tuple #[.string r1, .int .i64 r2]) ∧ Below w.heap.size w w' := by
  have HB := Aside0.mk (Below.refl w.heap.size w)
  have H : ((utf_isRune.f a0).bind fun t284 => (if t284 = true then (if a0 ≥ 65536 then (utf_Encode.j0 k a0 240 18) else (if a0 ≥ 2048 then (utf_Encode.j0 k a0 224 12) else (if a0 ≥ 128 then (utf_Encode.j0 k a0 192 6) else (utf_Encode.j0 k a0 0 0)))) else (some ((⟨#[]⟩ : ByteArray), 20)))) = some (r1, r2) := h
  clear h
  replace H := Option.bind_eq_some_iff.mp H
  obtain ⟨t284, A20, H⟩ := H
  replace H : (if t284 = true then (if a0 ≥ 65536 then (utf_Encode.j0 k a0 240 18) else (if a0 ≥ 2048 then (utf_Encode.j0 k a0 224 12) else (if a0 ≥ 128 then (utf_Encode.j0 k a0 192 6) else (utf_Encode.j0 k a0 0 0)))) else (some ((⟨#[]⟩ : ByteArray), 20))) = some (r1, r2) := H
  have A2 := Aside0.mk A20
  clear A20
  by_cases c3 : t284 = true
  · subst c3
    have H1 : (if a0 ≥ 65536 then (utf_Encode.j0 k a0 240 18) else (if a0 ≥ 2048 then (utf_Encode.j0 k a0 224 12) else (if a0 ≥ 128 then (utf_Encode.j0 k a0 192 6) else (utf_Encode.j0 k a0 0 0)))) = some (r1, r2) := by rw [if_pos rfl] at H; exact H
    clear H
    have H := H1
    clear H1
    have HC4 := Aside0.mk H
    clear H
    go_enter Tryz.func73, Tryz.ntmps73
    go_upto_block 0 with (first | ((with_reducible refine gate_callee (f := 98) rfl ?_); refine goesL_ (some 8) rfl rfl Tryz.func98 (by kernel_rfl) rfl #[.int .i64 a0] rfl (by (try simp only [List.map_toArray, List.map_cons, List.map_nil]); first | done | rfl | (simp only [List.length_drop, List.length_take]; rfl)) ?_; (with_reducible refine (utf_isRune.calls a0 true _ A2.out).mono ?_); rintro e w5 ⟨rfl, hb⟩; refine ⟨_, rfl, ?_⟩; have n0_ := Aside0.mk (below_step (by repeat (first | (with_reducible first | exact HB.out | apply below_alloc | apply pw_below_drewN | apply below_drew1) | exact HB.out)) hb); clear HB; have HB := n0_; clear n0_; (try clear hb); (try clear hb2); (try clear hk); (try clear hi)))
    (try simp only [Act.put, List.setIfInBounds_toArray, List.set_cons_zero, List.set_cons_succ])
    go_cut [4, 5] (fun v4 v5 wc => ∃ (kq : Nat) (x4_3 : Int) (x5_3 : Int), v4 = .int .i64 x4_3 ∧ v5 = .int .i64 x5_3 ∧ Aside0 (utf_Encode.j0 kq a0 x4_3 x5_3 = some (r1, r2)) ∧ Aside0 (kq ≤ k) ∧ Aside0 (Below w.heap.size w wc))
    case first =>
      have H := HC4.out
      clear HC4
      by_cases c6 : a0 ≥ 65536
      · rw [if_pos c6] at H
        have c6b0 : decide (65536 ≤ a0) = true := decide_eq_true c6
        clear c6
        (first | rw [c6b0] | (simp only [i64_w, i32_w]; rw [c6b0]) | skip)
        have H' := Aside0.mk H
        clear H
        go_wp2
        go_meet
        case rel => exact ⟨_, (240), (18), (by first | rfl | (simp; done) | (simp [*]; done)), (by first | rfl | (simp; done) | (simp [*]; done)), H', ⟨by first | omega | exact Nat.le_refl _⟩, ⟨by repeat (first | (with_reducible first | exact HB.out | apply below_alloc | apply pw_below_drewN | apply below_drew1) | exact HB.out)⟩⟩
      · rw [if_neg c6] at H
        have c6b0 : decide (65536 ≤ a0) = false := decide_eq_false c6
        clear c6
        (first | rw [c6b0] | (simp only [i64_w, i32_w]; rw [c6b0]) | skip)
        by_cases c7 : a0 ≥ 2048
        · rw [if_pos c7] at H
          have c7b0 : decide (2048 ≤ a0) = true := decide_eq_true c7
          clear c7
          have H' := Aside0.mk H
          clear H
          go_wp2
          go_meet
          case rel => exact ⟨_, (224), (12), (by first | rfl | (simp; done) | (simp [*]; done)), (by first | rfl | (simp; done) | (simp [*]; done)), H', ⟨by first | omega | exact Nat.le_refl _⟩, ⟨by repeat (first | (with_reducible first | exact HB.out | apply below_alloc | apply pw_below_drewN | apply below_drew1) | exact HB.out)⟩⟩
        · rw [if_neg c7] at H
          have c7b0 : decide (2048 ≤ a0) = false := decide_eq_false c7
          clear c7
          by_cases c8 : a0 ≥ 128
          · rw [if_pos c8] at H
            have c8b0 : decide (128 ≤ a0) = true := decide_eq_true c8
            clear c8
            have H' := Aside0.mk H
            clear H
            go_wp2
            go_meet
            case rel => exact ⟨_, (192), (6), (by first | rfl | (simp; done) | (simp [*]; done)), (by first | rfl | (simp; done) | (simp [*]; done)), H', ⟨by first | omega | exact Nat.le_refl _⟩, ⟨by repeat (first | (with_reducible first | exact HB.out | apply below_alloc | apply pw_below_drewN | apply below_drew1) | exact HB.out)⟩⟩
          · rw [if_neg c8] at H
            have c8b0 : decide (128 ≤ a0) = false := decide_eq_false c8
            clear c8
            have H' := Aside0.mk H
            clear H
            go_wp2
            go_meet
            case rel => exact ⟨_, (0), (0), (by first | rfl | (simp; done) | (simp [*]; done)), (by first | rfl | (simp; done) | (simp [*]; done)), H', ⟨by first | omega | exact Nat.le_refl _⟩, ⟨by repeat (first | (with_reducible first | exact HB.out | apply below_alloc | apply pw_below_drewN | apply below_drew1) | exact HB.out)⟩⟩
    case rest =>
      clear HC4
      try clear p2
      try clear c3
      try clear c6
      try clear c6b0
      try clear c7
      try clear c7b0
      try clear c8
      try clear c8b0
      obtain ⟨kq, x4_3, x5_3, rfl, rfl, HA, HJ3, HB⟩ := hcut
      cases kq with
      | zero => exact absurd HA.out (by simp [utf_Encode.j0])
      | succ kj3 =>
        have H := HA.out
        clear HA
        simp only [utf_Encode.j0] at H
        by_cases c9 : 0 ≤ x5_3
        · rw [if_pos c9] at H
          have c9b0 := eq_true c9
          have c9b1 : decide (0 ≤ x5_3) = true := decide_eq_true c9
          clear c9
          obtain ⟨ji10, hji10⟩ : ∃ j_ : Int, (shr .i64 a0 x5_3) = j_ := ⟨_, rfl⟩
          replace H : (utf_Encode.l0 kj3 a0 x5_3 (([(Go.bits .or .i64 x4_3 (ji10)) % 256] : List Int))) = some (r1, r2) := by first | (rw [hji10] at H; exact H) | (simp only [hji10] at H ⊢; exact H)
          have hji10_ : (a0 / 2 ^ min x5_3.toNat 64) = ji10 := hji10
          have hji10z : x5_3 ≤ 64 → (a0 / 2 ^ x5_3.toNat) = ji10 := shr_small hji10
          obtain ⟨y285, hy285⟩ : ∃ y_ : List Int, y_ = (([(Go.bits .or .i64 x4_3 (ji10)) % 256] : List Int)) := ⟨_, rfl⟩
          replace H : (utf_Encode.l0 kj3 a0 x5_3 y285) = some (r1, r2) := by first | (rw [hy285]; with_reducible exact H) | (have H2_ := (Option.bind_some _ _).symm.trans H; rw [hy285]; with_reducible exact H2_) | (have H2_ := (Option.bind_some _ _).symm.trans H; with_reducible exact H2_) | with_reducible exact H | (rw [hy285]; exact H) | exact H
          have Ny285 := Aside0.mk hy285
          clear hy285
          have H' := Aside0.mk H
          clear H
          go_wp2_with (first | ((with_reducible refine gate_dst (N := 25) rfl ?_); refine Kd.R_lit (Kd.int .u8) _ 5 ?hg (N := 25) ?hd (xs := ([(Go.bits .or .i64 x4_3 (ji10)) % 256] : List Int)) (inner := [.int .u8 ((Go.bits .or .i64 x4_3 (ji10)) % 256)]) (ok := fun _ => True) (okp := fun _ => True) ?hr ?hp (fun _ hk => hk) trivial (Below.refl _ _) (Nat.le_refl _) (by simp) ?_; (case hd => rfl); (case hg => rfl); (case hr => first | (go_simp; done) | (go_simp; rfl)); (case hp => exact (Reps.one (show Kd.M (Kd.int .u8) _ _ _ ((Go.bits .or .i64 x4_3 (ji10)) % 256) [.int .u8 ((Go.bits .or .i64 x4_3 (ji10)) % 256)] from rfl) (Reps.none _ _))); intro v286 w11 ho12 hb hg_ hnew_; clear hg_ hnew_; (first | rw [← Ny285.out] at ho12 | (simp only [Int.reduceToNat] at ho12; rw [← Ny285.out] at ho12)); have n0_ := Aside0.mk (Kd.R_lower ho12 (below_size (by repeat (first | (with_reducible first | exact HB.out | apply below_alloc | apply pw_below_drewN | apply below_drew1) | exact HB.out)))); have n1_ := Aside0.mk (below_step (by repeat (first | (with_reducible first | exact HB.out | apply below_alloc | apply pw_below_drewN | apply below_drew1) | exact HB.out)) hb); clear HB; have HO287 := n0_; have HB := n1_; clear n0_ n1_; clear hb ho12))
          go_loopg [5, 6] kj3 (fun kq v5 v6 w' => ∃ (x5_2 : Int) (x6_2 : List Int), v5 = .int .i64 x5_2 ∧ Aside0 (utf_Encode.l0 kq a0 x5_2 x6_2 = some (r1, r2)) ∧ Aside0 (kq ≤ kj3) ∧ Aside0 (Kd.R (Kd.int .u8) 5 w' w.heap.size (fun _ => True) v6 x6_2) ∧ Aside0 (Below w.heap.size w w'))
          case atStart => exact ⟨(x5_3), (y285), (by first | rfl | (simp; done) | (simp [*]; done)), H', ⟨Nat.le_refl _⟩, ⟨by (with_reducible repeat (first | apply Kd.R_alloc | apply Kd.R_drewN | apply Kd.R_drew)); exact HO287.out⟩, ⟨by repeat (first | (with_reducible first | exact HB.out | apply below_alloc | apply pw_below_drewN | apply below_drew1) | exact HB.out)⟩⟩
          case round =>
            clear H'
            try clear p2
            try clear c3
            try clear c6
            try clear c6b0
            try clear c7
            try clear c7b0
            try clear c8
            try clear c8b0
            try clear c9
            try clear c9b0
            try clear c9b1
            try clear p2
            obtain ⟨x5_2, x6_2, rfl, HA, HK2, HO_6, HB⟩ := hrel
            cases gk with
            | zero => exact absurd HA.out (by simp [utf_Encode.l0])
            | succ k2 =>
              have H := HA.out
              clear HA
              simp only [utf_Encode.l0] at H
              by_cases c13 : x5_2 > 0
              · rw [if_pos c13] at H
                have c13b0 : decide (0 < x5_2) = true := decide_eq_true c13
                clear c13
                obtain ⟨ji14, hji14⟩ : ∃ j_ : Int, (wrap64 (x5_2 - 6)) = j_ := ⟨_, rfl⟩
                replace H : (if 0 ≤ (ji14) then (if x6_2.length < 140737488355328 then (utf_Encode.l0 k2 a0 ji14 (x6_2 ++ [(Go.bits .or .i64 128 (Go.bits .and .i64 (shr .i64 a0 (ji14)) 63)) % 256])) else (none)) else (none)) = some (r1, r2) := by first | (rw [hji14] at H; exact H) | (simp only [hji14] at H ⊢; exact H)
                have hji14w : (IntKind.i64.wrap (x5_2 - 6)) = ji14 := (i64_w _).trans hji14
                by_cases c15 : 0 ≤ (ji14)
                · rw [if_pos c15] at H
                  have c15b0 := eq_true c15
                  have c15b1 : decide (0 ≤ (ji14)) = true := decide_eq_true c15
                  clear c15
                  obtain ⟨ji16, hji16⟩ : ∃ j_ : Int, (shr .i64 a0 (ji14)) = j_ := ⟨_, rfl⟩
                  replace H : (if x6_2.length < 140737488355328 then (utf_Encode.l0 k2 a0 ji14 (x6_2 ++ [(Go.bits .or .i64 128 (Go.bits .and .i64 (ji16) 63)) % 256])) else (none)) = some (r1, r2) := by first | (rw [hji16] at H; exact H) | (simp only [hji16] at H ⊢; exact H)
                  have hji16_ : (a0 / 2 ^ min (ji14).toNat 64) = ji16 := hji16
                  have hji16z : (ji14) ≤ 64 → (a0 / 2 ^ (ji14).toNat) = ji16 := shr_small hji16
                  by_cases c17 : x6_2.length < 140737488355328
                  · rw [if_pos c17] at H
                    have LMc17 := Aside0.mk c17
                    clear c17
                    obtain ⟨y288, hy288⟩ : ∃ y_ : List Int, y_ = (x6_2 ++ [(Go.bits .or .i64 128 (Go.bits .and .i64 (ji16) 63)) % 256]) := ⟨_, rfl⟩
                    replace H : (utf_Encode.l0 k2 a0 ji14 y288) = some (r1, r2) := by first | (rw [hy288]; with_reducible exact H) | (have H2_ := (Option.bind_some _ _).symm.trans H; rw [hy288]; with_reducible exact H2_) | (have H2_ := (Option.bind_some _ _).symm.trans H; with_reducible exact H2_) | with_reducible exact H | (rw [hy288]; exact H) | exact H
                    have Ny288 := Aside0.mk hy288
                    clear hy288
                    have H' := Aside0.mk H
                    clear H
                    go_wp2_with (first | ((with_reducible refine gate_builtin (b := .append) (xs := #[.tmp 30, .tmp 37]) rfl ?_); at_builtin; refine Kd.R_append (Kd.int .u8) (w0 := w) w.heap.size rfl (.tmp 30) (.tmp 37) 45 5 (.int .u8 0) 1 rfl Tryz.underlying45 info5 rfl (by decide) (by omega) u6 x6_2 ((Go.bits .or .i64 128 (Go.bits .and .i64 (ji16) 63)) % 256) [.int .u8 ((Go.bits .or .i64 128 (Go.bits .and .i64 (ji16) 63)) % 256)] (fun _ => True) (fun _ => False) rfl rfl ?aP (fun _ hk => hk.elim) ?aF ?aO ?aB ?aS ?aL ?_; (case aP => exact rfl); (case aB => exact (by repeat (first | (with_reducible first | exact HB.out | apply below_alloc | apply pw_below_drewN | apply below_drew1) | exact HB.out))); (case aF => exact (fun _ _ => trivial)); (case aO => exact (by (with_reducible repeat (first | apply Kd.R_alloc | apply Kd.R_drewN | apply Kd.R_drew)); exact HO_6.out)); (case aS => exact (below_size (by repeat (first | (with_reducible first | exact HB.out | apply below_alloc | apply pw_below_drewN | apply below_drew1) | exact HB.out)))); (case aL => have := LMc17.out; omega); intro v289 w18 ho hb hg hat; rw [← Ny288.out] at ho; have n0_ := Aside0.mk (hb); have n1_ := Aside0.mk (ho); clear HB; clear HO_6; have HB := n0_; have HO290 := n1_; clear n0_ n1_; clear ho hb hg hat))
                    go_roundg k2
                    case measure => have := HJ3.out; have := HK2.out; omega
                    case rel => exact ⟨(ji14), (y288), (by first | rfl | (simp; done) | (simp only [← hji14] <;> (first | rfl | simp)) | (simp [*]; done)), H', ⟨by have := HJ3.out; have := HK2.out; omega⟩, ⟨by (with_reducible repeat (first | apply Kd.R_alloc | apply Kd.R_drewN | apply Kd.R_drew)); exact HO290.out⟩, ⟨by repeat (first | (with_reducible first | exact HB.out | apply below_alloc | apply pw_below_drewN | apply below_drew1) | exact HB.out)⟩⟩
                  · rw [if_neg c17] at H
                    exact absurd H (by simp)
                · rw [if_neg c15] at H
                  exact absurd H (by simp)
              · rw [if_neg c13] at H
                have c13b0 : decide (0 < x5_2) = false := decide_eq_false c13
                clear c13
                simp only [Option.some.injEq, Prod.mk.injEq] at H
                obtain ⟨rfl, rfl⟩ := H
                have hcv19 := own_string (P := Tryz.prog) Tryz.underlying45 Tryz.underlying5 Tryz.underlying9 (Kd.own_of_R HO_6.out)
                go_wp2
                go_ret2
                exact ⟨by first | rfl | (simp [errW_none, errW_some] <;> rfl) | (simp only [← hji10]; first | rfl | (simp [errW_none, errW_some] <;> rfl)) | (simp [*, errW_none, errW_some] <;> rfl), by repeat (first | (with_reducible first | exact HB.out | apply below_alloc | apply pw_below_drewN | apply below_drew1) | exact HB.out)⟩
        · rw [if_neg c9] at H
          exact absurd H (by simp)
  · replace c3 := Bool.eq_false_iff.mpr c3
    subst c3
    have H1 : (some ((⟨#[]⟩ : ByteArray), 20)) = some (r1, r2) := by rw [if_neg (show ¬ (false = true) by decide)] at H; exact H
    clear H
    have H := H1
    clear H1
    simp only [Option.some.injEq, Prod.mk.injEq] at H
    obtain ⟨rfl, rfl⟩ := H
    go_enter Tryz.func73, Tryz.ntmps73
    go_wp2_with (first | ((with_reducible refine gate_callee (f := 98) rfl ?_); refine goesL_ (some 8) rfl rfl Tryz.func98 (by kernel_rfl) rfl #[.int .i64 a0] rfl (by (try simp only [List.map_toArray, List.map_cons, List.map_nil]); first | done | rfl | (simp only [List.length_drop, List.length_take]; rfl)) ?_; (with_reducible refine (utf_isRune.calls a0 false _ A2.out).mono ?_); rintro e w20 ⟨rfl, hb⟩; refine ⟨_, rfl, ?_⟩; have n0_ := Aside0.mk (below_step (by repeat (first | (with_reducible first | exact HB.out | apply below_alloc | apply pw_below_drewN | apply below_drew1) | exact HB.out)) hb); clear HB; have HB := n0_; clear n0_; (try clear hb); (try clear hb2); (try clear hk); (try clear hi)))
    go_ret2
    exact ⟨by first | rfl | (simp [errW_none, errW_some] <;> rfl) | (simp [*, errW_none, errW_some] <;> rfl), by repeat (first | (with_reducible first | exact HB.out | apply below_alloc | apply pw_below_drewN | apply below_drew1) | exact HB.out)⟩

end Go.Proofs.YtbcjhmeeonhmaaaGreatDoor.M
end

section
set_option linter.unusedVariables false
namespace Go.Proofs.YtbcjhmeeonhmaaaGreatDoor.H
open Go Go.RowKit Go.Proofs.YtbcjhmeeonhmaaaGreatDoorW.PrintWords Go.Proofs.YtbcjhmeeonhmaaaGreatDoorW.PrintMore Go.Proofs.YtbcjhmeeonhmaaaGreatDoor.M

/-- Is a number a rune? -/
def isR (r : Int) : Bool := (decide (0 ≤ r) && decide (r ≤ 55295)) || (decide (57344 ≤ r) && decide (r ≤ 1114111))
/-- A rune's bytes. -/
def encL (r : Int) : List Int :=
  if r < 128 then [r] else if r < 2048 then [192 + r / 64, 128 + r % 64]
  else if r < 65536 then [224 + r / 4096, 128 + r / 64 % 64, 128 + r % 64] else [240 + r / 262144, 128 + r / 4096 % 64, 128 + r / 64 % 64, 128 + r % 64]
/-- A rune's bytes, and 0; or nothing, and 20. -/
def encS (r : Int) : ByteArray × Int := if isR r = true then (strOfNums (encL r), 0) else (⟨#[]⟩, 20)

theorem wrap_i64s (n : Int) (h₀ : 0 ≤ n) (h₁ : n < 2 ^ 62) : IntKind.i64.wrap n = n := by rw [IntKind.wrap_i64]; omega
theorem orJ (i : Nat) (x y : Int) (h0 : 0 ≤ x) (hx : x % 2 ^ i = 0) (h1 : x < 2 ^ 62) (h2 : 0 ≤ y) (h3 : y < 2 ^ i) (h4 : y < 2 ^ 62) : bits .or .i64 x y = x + y :=
  bits_join .i64 62 (by decide) wrap_i64s i x y h0 hx h1 h2 h3 h4
theorem or128 (y : Int) (h₀ : 0 ≤ y) (h₁ : y < 64) : bits .or .i64 128 y = 128 + y := orJ 6 128 y (by decide) (by decide) (by decide) h₀ h₁ (by omega)
theorem or192 (y : Int) (h₀ : 0 ≤ y) (h₁ : y < 64) : bits .or .i64 192 y = 192 + y := orJ 6 192 y (by decide) (by decide) (by decide) h₀ h₁ (by omega)
theorem or224 (y : Int) (h₀ : 0 ≤ y) (h₁ : y < 32) : bits .or .i64 224 y = 224 + y := orJ 5 224 y (by decide) (by decide) (by decide) h₀ h₁ (by omega)
theorem or240 (y : Int) (h₀ : 0 ≤ y) (h₁ : y < 16) : bits .or .i64 240 y = 240 + y := orJ 4 240 y (by decide) (by decide) (by decide) h₀ h₁ (by omega)
theorem or0 (y : Int) (h₀ : 0 ≤ y) (h₁ : y < 256) : bits .or .i64 0 y = y := by rw [orJ 8 0 y (by decide) (by decide) (by decide) h₀ h₁ (by omega)]; omega
theorem and63 (x : Int) (h₀ : 0 ≤ x) (h₁ : x < 4611686018427387904) : bits .and .i64 x 63 = x % 64 := bits_mask .i64 62 (by decide) wrap_i64s 6 (by decide) x h₀ h₁
theorem or64 (x y : Int) (hx : 0 ≤ x) (hx' : x < 33554432) (h₀ : 0 ≤ y) (h₁ : y < 64) : bits .or .i64 (x * 64) y = x * 64 + y := orJ 6 _ y (by omega) (by omega) (by omega) h₀ h₁ (by omega)
theorem shr0 (x : Int) : shr .i64 x 0 = x := by simp [shr]
theorem shr6 (x : Int) : shr .i64 x 6 = x / 64 := by simp [shr, IntKind.bits]
theorem shr12 (x : Int) : shr .i64 x 12 = x / 4096 := by simp [shr, IntKind.bits]
theorem shr18 (x : Int) : shr .i64 x 18 = x / 262144 := by simp [shr, IntKind.bits]
theorem m256 (x : Int) (h0 : 0 ≤ x) (h1 : x < 256) : x % 256 = x := Int.emod_eq_of_lt h0 h1
theorem wrap18 : wrap64 (18 - 6) = 12 := by unfold wrap64; omega
theorem wrap12 : wrap64 (12 - 6) = 6 := by unfold wrap64; omega
theorem wrap6 : wrap64 (6 - 6) = 0 := by unfold wrap64; omega

theorem isRune_f (r : Int) : utf_isRune.f r = some (isR r) := by
  have h : H.SpansOk [(0, 55295), (57344, 1114111)] := by decide
  simp [utf_isRune.f, utf_isIn.f, h, anyB, inB, isR]

theorem encode_f (r : Int) : utf_Encode.f 10 r = some (encS r) := by
  unfold utf_Encode.f encS
  rw [isRune_f]
  simp only [Option.bind_some]
  cases hr : isR r
  · rfl
  · have hb : 0 ≤ r ∧ r ≤ 1114111 := by simp [isR] at hr; omega
    rw [if_pos rfl, if_pos rfl]
    unfold encL
    by_cases h1 : r ≥ 65536
    · rw [if_pos h1, if_neg (by omega), if_neg (by omega), if_neg (by omega)]
      simp only [utf_Encode.j0, utf_Encode.l0, wrap18, wrap12, wrap6, shr18, shr12, shr6, shr0]
      simp (config := { decide := true }) only [if_true, if_false, List.length_append, List.length_cons, List.length_nil]
      rw [or240 _ (by omega) (by omega), and63 _ (by omega) (by omega), and63 _ (by omega) (by omega), and63 _ (by omega) (by omega), or128 _ (by omega) (by omega), or128 _ (by omega) (by omega), or128 _ (by omega) (by omega)]
      rw [m256 _ (by omega) (by omega), m256 _ (by omega) (by omega), m256 _ (by omega) (by omega), m256 _ (by omega) (by omega)]
      rfl
    · rw [if_neg h1]
      by_cases h2 : r ≥ 2048
      · rw [if_pos h2, if_neg (by omega), if_neg (by omega), if_pos (by omega)]
        simp only [utf_Encode.j0, utf_Encode.l0, wrap12, wrap6, shr12, shr6, shr0]
        simp (config := { decide := true }) only [if_true, if_false, List.length_append, List.length_cons, List.length_nil]
        rw [or224 _ (by omega) (by omega), and63 _ (by omega) (by omega), and63 _ (by omega) (by omega), or128 _ (by omega) (by omega), or128 _ (by omega) (by omega)]
        rw [m256 _ (by omega) (by omega), m256 _ (by omega) (by omega), m256 _ (by omega) (by omega)]
        rfl
      · rw [if_neg h2]
        by_cases h3 : r ≥ 128
        · rw [if_pos h3, if_neg (by omega), if_pos (by omega)]
          simp only [utf_Encode.j0, utf_Encode.l0, wrap6, shr6, shr0]
          simp (config := { decide := true }) only [if_true, if_false, List.length_append, List.length_cons, List.length_nil]
          rw [or192 _ (by omega) (by omega), and63 _ (by omega) (by omega), or128 _ (by omega) (by omega)]
          rw [m256 _ (by omega) (by omega), m256 _ (by omega) (by omega)]
          rfl
        · rw [if_neg h3, if_pos (by omega)]
          simp only [utf_Encode.j0, utf_Encode.l0, shr0]
          simp (config := { decide := true }) only [if_true, if_false]
          rw [or0 _ (by omega) (by omega), m256 _ (by omega) (by omega)]
end Go.Proofs.YtbcjhmeeonhmaaaGreatDoor.H
end

section
set_option linter.unusedVariables false
namespace Go.Proofs.YtbcjhmeeonhmaaaGreatDoor.H
open Go Go.RowKit Go.Proofs.YtbcjhmeeonhmaaaGreatDoorW.PrintWords Go.Proofs.YtbcjhmeeonhmaaaGreatDoor.M

def RetD (r n e : Int) (w : World) (x : Ending) (w' : World) : Prop := x = .returned (.tuple #[.int .i64 r, .int .i64 n, .int .i64 e]) ∧ Below w.heap.size w w'

set_option maxHeartbeats 400000 in
theorem decode_none (s : ByteArray) (w : World) (h : s.toList = []) : Calls Tryz.prog 71 #[.string s] w (RetD 0 0 10 w) := by
  go_enter Tryz.func71, Tryz.ntmps71
  go_wp2
  go_ret3
  exact ⟨rfl, Below.refl _ _⟩

set_option maxHeartbeats 400000 in
theorem decode_bad (s : ByteArray) (w : World) (m r : Int) (h0 : 0 < s.size) (h1 : s.toList.isEmpty = false) (hh : utf_head.f (s[0].toNat : Int) = some (m, r)) (hm : m < 0) : Calls Tryz.prog 71 #[.string s] w (RetD 0 0 20 w) := by
  have HH := Lib.hid hh
  clear hh
  go_enter Tryz.func71, Tryz.ntmps71
  go_wp2_with fail
  refine (utf_head.calls _ m r _ HH.out).mono ?_
  rintro e w1 ⟨rfl, hb1⟩
  go_wp2
  go_ret3
  exact ⟨rfl, hb1.below⟩

set_option maxHeartbeats 400000 in
theorem decode_short (s : ByteArray) (w : World) (m : Nat) (r : Int) (h0 : 0 < s.size) (h1 : s.toList.isEmpty = false) (hh : utf_head.f (s[0].toNat : Int) = some ((m : Int), r)) (hm : s.size ≤ m) : Calls Tryz.prog 71 #[.string s] w (RetD 0 0 20 w) := by
  have HH := Lib.hid hh
  clear hh
  go_enter Tryz.func71, Tryz.ntmps71
  go_wp2_with fail
  refine (utf_head.calls _ m r _ HH.out).mono ?_
  rintro e w1 ⟨rfl, hb1⟩
  go_wp2
  go_ret3
  exact ⟨rfl, hb1.below⟩

def contB (c : Int) : Bool := decide (128 ≤ c) && decide (c < 192)
def accR (r : Int) (xs : List Int) : Int := xs.foldl (fun r c => r * 64 + c % 64) r
theorem accR_snoc (r : Int) (xs : List Int) (c : Int) : accR r (xs ++ [c]) = accR r xs * 64 + c % 64 := by simp [accR]
theorem accR_bound (r : Int) (xs : List Int) (h : 0 ≤ r) : 0 ≤ accR r xs ∧ accR r xs < (r + 1) * 64 ^ xs.length := by
  induction xs generalizing r with
  | nil => simp [accR]; omega
  | cons c t ih =>
    have := ih (r * 64 + c % 64) (by omega)
    refine ⟨this.1, Int.lt_of_lt_of_le this.2 ?_⟩
    rw [List.length_cons, Int.pow_succ, Int.mul_comm (64 ^ t.length) 64, ← Int.mul_assoc]
    exact Int.mul_le_mul_of_nonneg_right (by omega) (Int.pow_nonneg (by decide))
theorem andNot63 : ∀ n : Nat, n < 256 → (bits .andNot .u8 (n : Int) 63 != 128) = !contB n := by decide +kernel
theorem byte_at (w : World) (x : ByteArray) (k : Nat) (h : k < x.size) : ∃ n : Nat, n < 256 ∧ (Lib.bytesWorld w 5 x).cell? ⟨w.heap.size, k, none⟩ = some (.int .u8 (n : Int)) ∧ (bytesOf x).take (k + 1) = (bytesOf x).take k ++ [(n : Int)] := by
  have hl : k < x.data.toList.length := by rw [data_length]; exact h
  refine ⟨(x.data.toList.getD k 0).toNat, UInt8.toNat_lt _, Lib.bytesWorld_cell w _ x k h, ?_⟩
  rw [List.take_succ_eq_append_getElem (by rw [bytesOf_length]; exact h)]
  congr 2
  simp [bytesOf, List.getD_eq_getElem?_getD, List.getElem?_eq_getElem hl]
theorem acc_lt {r a : Int} {l : Nat} (hr : r < 128) (h : a < (r + 1) * 64 ^ l) (hl : l ≤ 3) : a < 33554432 := by
  have : l = 0 ∨ l = 1 ∨ l = 2 ∨ l = 3 := by omega
  rcases this with rfl | rfl | rfl | rfl <;> simp at h
  all_goals omega
/-- What Decode says of bytes whose tail has been read: the tail is one, and the rune is put in as many bytes. -/
def decEnd (s : ByteArray) (m : Nat) (r : Int) : Int × Int × Int :=
  let x := bytesOf (s.extract 1 (m + 1))
  if x.all contB = true then
    (if (encS (accR r x)).2 = 0 ∧ ((encS (accR r x)).1.size : Int) = m + 1 then (accR r x, m + 1, 0) else (0, 0, 20))
  else (0, 0, 20)

theorem below_bytes {w w1 : World} (h : Drawn0 w w1) {x : ByteArray} : Below w.heap.size w (Lib.bytesWorld w1 5 x) :=
  h.below.trans (Joins.below_bytesWorld _ w1 _ x h.below.size)
theorem decEnd_no {s : ByteArray} {m k : Nat} {r : Int} {w w' : World} (hs : (s.extract 1 (m + 1)).size = m) (hk : k < m) (h : ((bytesOf (s.extract 1 (m + 1))).take (k + 1)).all contB = false) (hb : Below w.heap.size w w') :
    RetD (decEnd s m r).1 (decEnd s m r).2.1 (decEnd s m r).2.2 w (.returned (.tuple #[.int .i64 0, .int .i64 0, .int .i64 20])) w' := by
  have : (bytesOf (s.extract 1 (m + 1))).all contB = false := by
    rw [← List.take_append_drop (k + 1) (bytesOf (s.extract 1 (m + 1))), List.all_append, h]; rfl
  unfold decEnd
  simp only [this]
  exact ⟨rfl, hb⟩

theorem decEnd_ok {s x b : ByteArray} {k : Nat} {r : Int} {w w' : World} (hx : s.extract 1 (k + 1) = x) (h : (bytesOf x).all contB = true) (hb : encS (accR r (bytesOf x)) = (b, 0)) (hz : (b.size : Int) = k + 1) (hB : Below w.heap.size w w') :
    RetD (decEnd s k r).1 (decEnd s k r).2.1 (decEnd s k r).2.2 w (.returned (.tuple #[.int .i64 (accR r (bytesOf x)), .int .i64 ((k : Int) + 1), .int .i64 0])) w' := by
  unfold decEnd
  simp only [hx, h, hb, hz, if_true, and_self]
  exact ⟨rfl, hB⟩
theorem decEnd_no2 {s x b : ByteArray} {k : Nat} {r e : Int} {w w' : World} (hx : s.extract 1 (k + 1) = x) (hb : encS (accR r (bytesOf x)) = (b, e)) (hz : ¬ (e = 0 ∧ (b.size : Int) = k + 1)) (hB : Below w.heap.size w w') :
    RetD (decEnd s k r).1 (decEnd s k r).2.1 (decEnd s k r).2.2 w (.returned (.tuple #[.int .i64 0, .int .i64 0, .int .i64 20])) w' := by
  unfold decEnd
  simp only [hx, hb, if_neg hz, ite_self]
  exact ⟨rfl, hB⟩

set_option maxRecDepth 100000 in
set_option maxHeartbeats 400000 in
theorem decode_long (s : ByteArray) (w : World) (m : Nat) (r : Int) (h0 : 0 < s.size) (hs : s.size ≤ 9223372036854775807) (h1 : s.toList.isEmpty = false) (hh : utf_head.f (s[0].toNat : Int) = some ((m : Int), r)) (hm : m < s.size) (hm3 : m ≤ 3) (hr : 0 ≤ r ∧ r < 128) :
    Calls Tryz.prog 71 #[.string s] w (RetD (decEnd s m r).1 (decEnd s m r).2.1 (decEnd s m r).2.2 w) := by
  have HH := Lib.hid hh
  clear hh
  have HS := Lib.hid hs
  clear hs
  obtain ⟨x, hx⟩ : ∃ x, s.extract 1 (m + 1) = x := ⟨_, rfl⟩
  have hxs : x.size = m := by rw [← hx, ByteArray.size_extract]; omega
  have kb := fun W => print_bytes (P := Tryz.prog) 9 45 5 Tryz.underlying9 Tryz.underlying45 Tryz.underlying5 x W
  rw [hxs] at kb
  have hsl := fun (W : World) => show (Instr.slice 9 (.string s) (some (.int .i64 1)) (some (.int .i64 ((m : Int) + 1))) none).run Tryz.prog W = .ok (.string x) W from by
    rw [← hx]; exact run_slice_string W 9 s .i64 .i64 1 ((m : Int) + 1) Tryz.underlying9 (by omega) (by omega) (by omega)
  have HX := Lib.hid hx
  have HXS := Lib.hid hxs
  clear hx hxs
  have g1 : decide ((m : Int) < 0) = false := by simp
  have g2 : decide (s.size ≤ m) = false := by simp; omega
  go_enter Tryz.func71, Tryz.ntmps71
  go_wp2_with fail
  refine (utf_head.calls _ m r _ HH.out).mono ?_
  rintro e w1 ⟨rfl, hb1⟩
  go_wp2
  go_loop [6, 8, 33] (fun q _ i => ∃ k : Nat, k ≤ m ∧ i = .int .i64 k ∧ q = .int .i64 (accR r ((bytesOf x).take k)) ∧ Hid (((bytesOf x).take k).all contB = true)) (fun _ _ i => m - (intOf i).toNat)
  case atStart => exact ⟨0, Nat.zero_le _, rfl, rfl, rfl⟩
  case round =>
    obtain ⟨k, hk, rfl, rfl, hall⟩ := hrel
    by_cases hlt : k < m
    · obtain ⟨n, hn, hcell, hsn⟩ : ∃ n : Nat, n < 256 ∧ (Lib.bytesWorld w1 5 x).cell? ⟨w1.heap.size, k, none⟩ = some (.int .u8 (n : Int)) ∧ (bytesOf x).take (k + 1) = (bytesOf x).take k ++ [(n : Int)] := byte_at w1 x k (by rw [HXS.out]; exact hlt)
      have HSN := Lib.hid hsn
      clear hsn
      have hb := accR_bound r ((bytesOf x).take k) hr.1
      have hb2 : accR r ((bytesOf x).take k) < 33554432 := acc_lt hr.2 hb.2 (by rw [List.length_take]; omega)
      have hb3 := hb.1
      clear hb
      have ht := andNot63 n hn
      cases hcb : contB n
      · rw [hcb] at ht
        have HCB := Lib.hid hcb
        clear hcb
        go_wp2
        go_ret3
        exact decEnd_no (HX.out ▸ HXS.out) hlt (by rw [HX.out, HSN.out, List.all_append]; simp [HCB.out]) (below_bytes hb1)
      · rw [hcb] at ht
        have HCB := Lib.hid hcb
        clear hcb
        go_wp2
        go_round
        case rel => exact ⟨k + 1, by omega, by go_num, by rw [HSN.out, accR_snoc, or64 _ _ hb3 hb2 (by omega) (by omega)], Lib.hid (by rw [HSN.out, List.all_append, hall.out]; simp [HCB.out])⟩
        case measure => simp [intOf]; omega
    · obtain rfl : k = m := by omega
      have hb := accR_bound r ((bytesOf x).take k) hr.1
      have hb2 : accR r ((bytesOf x).take k) < 33554432 := acc_lt hr.2 hb.2 (by rw [List.length_take]; omega)
      clear hb
      have htk : (bytesOf x).take k = bytesOf x := List.take_of_length_le (by rw [bytesOf_length, HXS.out]; omega)
      rw [htk]
      rw [htk] at hall hb2
      clear htk
      go_wp2_with fail
      obtain ⟨b, e, hbe⟩ : ∃ b e, encS (accR r (bytesOf x)) = (b, e) := ⟨_, _, rfl⟩
      have HBE := Lib.hid hbe
      clear hbe
      refine (utf_Encode.calls 10 _ b e _ (by rw [encode_f, HBE.out])).mono ?_
      rintro _ w2 ⟨rfl, hb3⟩
      have hB2 : Below w.heap.size w w2 := below_tr (below_bytes hb1) hb3
      by_cases he : e = 0
      · subst he
        by_cases hz : (b.size : Int) = k + 1
        · have hz' : ((b.size : Int) != (k : Int) + 1) = false := by simp [hz]
          have HZ := Lib.hid hz
          clear hz
          go_wp2
          go_ret3
          exact decEnd_ok HX.out hall.out HBE.out HZ.out hB2
        · have hz' : ((b.size : Int) != (k : Int) + 1) = true := by simpa using hz
          go_wp2
          go_ret3
          exact decEnd_no2 HX.out HBE.out (fun h => hz h.2) hB2
      · have he' : (e != 0) = true := by simpa using he
        go_wp2
        go_ret3
        exact decEnd_no2 HX.out HBE.out (fun h => he h.1) hB2
end Go.Proofs.YtbcjhmeeonhmaaaGreatDoor.H
end

section
set_option linter.unusedVariables false
namespace Go.Proofs.YtbcjhmeeonhmaaaGreatDoor.H
open Go Go.RowKit Go.Proofs.YtbcjhmeeonhmaaaGreatDoorW.PrintWords Go.Proofs.YtbcjhmeeonhmaaaGreatDoor.M
attribute [local go_sem] Oper.semAt_some

/-- What Decode says of a string: the rune, its bytes, what is wrong. -/
def decR (s : ByteArray) : Int × Int × Int :=
  if s.size = 0 then (0, 0, 10) else
    match utf_head.f (bt s 0) with
    | some (m, r) => if m < 0 then (0, 0, 20) else if (s.size : Int) ≤ m then (0, 0, 20) else decEnd s m.toNat r
    | none => (0, 0, 20)

theorem head_bd {c : Int} (h0 : 0 ≤ c) (h1 : c ≤ 255) {m r : Int} (h : utf_head.f c = some (m, r)) : m ≤ 3 ∧ 0 ≤ r ∧ r < 128 := by
  unfold utf_head.f at h
  repeat' split at h
  all_goals (obtain ⟨rfl, rfl⟩ := Prod.mk.inj (Option.some.inj h))
  all_goals (try unfold wrap64)
  all_goals omega
theorem head_some (c : Int) : ∃ m r, utf_head.f c = some (m, r) := by
  unfold utf_head.f
  repeat' split
  all_goals exact ⟨_, _, rfl⟩

theorem decode (s : ByteArray) (w : World) (hs : s.size ≤ 9223372036854775807) : Calls Tryz.prog 71 #[.string s] w (RetD (decR s).1 (decR s).2.1 (decR s).2.2 w) := by
  by_cases h0 : s.size = 0
  · have : decR s = (0, 0, 10) := by unfold decR; rw [if_pos h0]
    rw [this]
    exact decode_none s w (by rw [toList_data]; exact List.eq_nil_of_length_eq_zero (by rw [size_data]; exact h0))
  · have h1 : s.toList.isEmpty = false := by
      rw [toList_data]
      cases hl : s.data.toList with
      | nil => exact absurd (by rw [← size_data, hl]; rfl) h0
      | cons _ _ => rfl
    obtain ⟨m, r, hm⟩ := head_some (bt s 0)
    have hb := bt_range s 0
    have hbd := head_bd hb.1 hb.2 hm
    have hbt : ((s[0]'(by omega)).toNat : Int) = bt s 0 := bt_at s 0 (by simpa using (by omega))
    by_cases hm0 : m < 0
    · have : decR s = (0, 0, 20) := by unfold decR; rw [if_neg h0, hm]; simp only []; rw [if_pos hm0]
      rw [this]
      exact decode_bad s w m r (by omega) h1 (by rw [hbt]; exact hm) hm0
    · obtain ⟨k, rfl⟩ := Int.eq_ofNat_of_zero_le (by omega : 0 ≤ m)
      by_cases hz : s.size ≤ k
      · have : decR s = (0, 0, 20) := by unfold decR; rw [if_neg h0, hm]; simp only []; rw [if_neg hm0, if_pos (by omega)]
        rw [this]
        exact decode_short s w k r (by omega) h1 (by rw [hbt]; exact hm) hz
      · have : decR s = decEnd s k r := by unfold decR; rw [if_neg h0, hm]; simp only []; rw [if_neg hm0, if_neg (by omega)]; rfl
        rw [this]
        exact decode_long s w k r (by omega) hs h1 (by rw [hbt]; exact hm) (by omega) (by omega) hbd.2
theorem decR_n {s : ByteArray} {r n : Int} (h : decR s = (r, n, 0)) : 1 ≤ n ∧ n ≤ s.size ∧ n ≤ 4 := by
  unfold decR at h
  by_cases h0 : s.size = 0
  · rw [if_pos h0] at h; cases h
  · rw [if_neg h0] at h
    obtain ⟨m, q, hm⟩ := head_some (bt s 0)
    have hb := bt_range s 0
    have hbd := head_bd hb.1 hb.2 hm
    rw [hm] at h
    simp only [] at h
    by_cases hm0 : m < 0
    · rw [if_pos hm0] at h; cases h
    · rw [if_neg hm0] at h
      by_cases hz : (s.size : Int) ≤ m
      · rw [if_pos hz] at h; cases h
      · rw [if_neg hz] at h
        unfold decEnd at h
        simp only [] at h
        split at h
        · split at h
          · injection h with h1 h2
            injection h2 with h2 h3
            omega
          · cases h
        · cases h

/-- Runes that a string begins with, and what is left. -/
inductive Eats : ByteArray → List Int → ByteArray → Prop
  | nil (s : ByteArray) : Eats s [] s
  | snoc {s t : ByteArray} {pre : List Int} {r n : Int} (h : Eats s pre t) (hd : decR t = (r, n, 0)) : Eats s (pre ++ [r]) (t.extract n.toNat t.size)
theorem Eats.size {s t : ByteArray} {pre : List Int} (h : Eats s pre t) : pre.length + t.size ≤ s.size := by
  induction h with
  | nil => simp
  | snoc h hd ih =>
    have := decR_n hd
    rw [List.length_append, List.length_singleton, ByteArray.size_extract]
    omega

def restSize (X : Nat) (w : World) : Nat := match w.cell? ⟨X, 0, none⟩ with | some (.string t) => t.size | _ => 0
def RAt (X Bx : Nat) (t : ByteArray) (w : World) : Prop := w.cell? ⟨Bx, 0, none⟩ = some (.pointer (some ⟨X, 0, none⟩)) ∧ w.cell? ⟨X, 0, none⟩ = some (.string t) ∧ w.frozen? ⟨X, 0, none⟩ = false
theorem RAt.keep {X Bx : Nat} {t : ByteArray} {A B : World} (h : RAt X Bx t A) (k : RKeep X Bx A B) : RAt X Bx t B := by
  unfold RAt World.cell? World.frozen? at h ⊢
  simp only [] at h ⊢
  rw [k.1, k.2]; exact h
theorem RAt.below {X Bx : Nat} {t : ByteArray} {A B : World} (h : RAt X Bx t A) (k : Below A.heap.size A B) : RAt X Bx t B :=
  h.keep ⟨k.block _ (World.block_lt_of_cell? A _ h.2.1), k.block _ (World.block_lt_of_cell? A _ h.1)⟩
theorem RAt.ne {X Bx : Nat} {t : ByteArray} {A : World} (h : RAt X Bx t A) : Bx ≠ X := by
  intro e; subst e; have h2 := h.2.1; rw [h.1] at h2; cases h2
theorem RAt.set {X Bx : Nat} {t : ByteArray} {A : World} (h : RAt X Bx t A) (t' : ByteArray) : RAt X Bx t' (A.setCell ⟨X, 0, none⟩ (.string t')) :=
  ⟨by rw [World.cell?_setCell_other _ _ _ _ (by intro e; exact h.ne (by injection e with e _ _; exact e.symm))]; exact h.1, World.cell?_setCell_same' _ _ _ (by rw [h.2.1]; rfl), by rw [World.frozen?_setCell]; exact h.2.2⟩
theorem RAt.restSize {X Bx : Nat} {t : ByteArray} {A : World} (h : RAt X Bx t A) : H.restSize X A = t.size := by unfold H.restSize; rw [h.2.1]

set_option maxRecDepth 100000 in
set_option maxHeartbeats 1000000 in
theorem runes_iter (X Bx : Nat) (s : ByteArray) (hs : s.size ≤ 9223372036854775807) :
    Iter Tryz.prog 112 #[.pointer (some ⟨Bx, 0, none⟩)] (fun x : Int => #[.int .i64 x]) (RStep X) (RKeep X Bx)
      (fun pre x _ => pre.length < s.size ∧ ∃ t, Eats s (pre ++ [x]) t) (fun xs W => ∃ t, Eats s xs t ∧ (decR t).2.2 ≠ 0 ∧ RAt X Bx t W) (fun pre W => ∃ t, Eats s pre t ∧ RAt X Bx t W) (RAt X Bx s) := by
  intro l J Jx W hJ hJx h0 hY hJ0
  have HS := Lib.hid hs
  clear hs
  refine (callsIn_wide (n := 0)).1 ?_
  refine callsIn_of_wp Tryz.func112 rfl trivial ?_ rfl
  simp only [Tryz.ntmps112, List.size_toArray, List.length_cons, List.length_nil, Nat.reduceAdd, Nat.reduceSub, Array.replicate_succ, Array.replicate_zero, List.push_toArray, List.append_toArray, List.nil_append, List.cons_append]
  refine wpIn_scope_wide ?_
  gi_wp2
  refine wpIn_label ?_
  gi_wp2
  gi_loopw [3] (fun _ wr => ∃ (pre : List Int) (t : ByteArray), Eats s pre t ∧ RAt X Bx t wr ∧ J pre wr) (fun _ wr => restSize X wr)
  case atStart => exact ⟨[], s, .nil s, h0, hJ0⟩
  case round =>
    obtain ⟨pre, t, hE, hR, hJs⟩ := hrel
    have hsz := hE.size
    have ht : t.size ≤ 9223372036854775807 := by have := HS.out; omega
    have HT := Lib.hid ht
    clear ht
    obtain ⟨hR1, hR2, hR3⟩ := id hR
    obtain ⟨r, n, e, hd⟩ : ∃ r n e, decR t = (r, n, e) := ⟨_, _, _, rfl⟩
    have HD := Lib.hid hd
    clear hd
    have hdec := decode t wr HT.out
    rw [HD.out] at hdec
    have HDEC := Lib.hid hdec
    clear hdec
    gi_wp2_with fail
    refine ⟨trivial, rfl, callsIn_wide.2 (HDEC.out.mono ?_)⟩
    rintro _ w1 ⟨rfl, hb1⟩
    have hR' := hR.below hb1
    obtain ⟨hQ1, hQ2, hQ3⟩ := id hR'
    have hJ1 : J pre w1 := hJ _ _ _ hJs (grown_of_below hb1 _)
    by_cases he : e = 0
    · subst he
      have hn := decR_n HD.out
      obtain ⟨hn1, hn2, hn3⟩ := hn
      have hsl := fun (W : World) => run_slice_string_l (P := Tryz.prog) W 9 t Tryz.underlying9 .i64 n (by omega) hn2
      have he' : ((0 : Int) != 0) = false := rfl
      gi_wp2
      have hE2 := Eats.snoc hE HD.out
      have hR2' : RAt X Bx (t.extract n.toNat t.size) (w1.setCell ⟨X, 0, none⟩ (.string (t.extract n.toNat t.size))).drew := hR'.set _
      have hJ2 : J pre (w1.setCell ⟨X, 0, none⟩ (.string (t.extract n.toNat t.size))).drew := hJ _ _ _ hJ1 (show w1.grownBy _ (some X) from grown_drew (grownBy_setCell' w1 X _))
      obtain ⟨fn, tmps, assign, body, hy, hRd⟩ := hY pre r _ hJ2 ⟨by omega, _, hE2⟩
      have HRd := Lib.hid hRd
      have HE2 := Lib.hid hE2
      have HR2 := Lib.hid hR2'
      clear hRd hE2 hR2' hJ2
      gi_region
      gi_wp2
      refine ⟨rfl, HRd.out.mono ?_⟩
      rintro e W3 (⟨rfl, hJ3, hk3⟩ | ⟨rfl, hJx3, hk3⟩)
      · have hR3 := HR2.out.keep hk3
        gi_wp2
        go_roundw
        case rel => exact ⟨_, _, HE2.out, hR3, hJ3⟩
        case measure => rw [hR3.restSize, hR.restSize, ByteArray.size_extract]; omega
      · have hR3 := HR2.out.keep hk3
        gi_wp2
        simp only [Exit.noGoto]
        go_end0
        exact ⟨⟨_, rfl⟩, .inr ⟨_, ⟨_, HE2.out, hR3⟩, hJx3⟩⟩
    · have he' : (e != 0) = true := by simpa using he
      gi_wp2
      simp only [Exit.noGoto]
      go_end0
      exact ⟨⟨_, rfl⟩, .inl ⟨pre, ⟨t, hE, by rw [HD.out]; exact he, hR'⟩, hJ1⟩⟩
end Go.Proofs.YtbcjhmeeonhmaaaGreatDoor.H
end

section
set_option linter.unusedVariables false
namespace Go.Proofs.YtbcjhmeeonhmaaaGreatDoor.H
open Go Go.RowKit Go.Proofs.YtbcjhmeeonhmaaaGreatDoorW.PrintWords Go.Proofs.YtbcjhmeeonhmaaaGreatDoor.M
attribute [local go_sem] Oper.semAt_some

theorem info_int : (Tryz.prog.info? 3).map (fun i => (i.zero, i.size, i.bytes)) = some (some (.int .i64 0), 1, 8) := by kernel_rfl

theorem runes_mk (X : Nat) (w : World) : Calls Tryz.prog 91 #[.pointer (some ⟨X, 0, none⟩)] w fun e w' =>
    e = .returned (.func (.func 112) #[] #[.pointer (some ⟨w.heap.size, 0, none⟩)]) ∧ w.alloc (.cells #[.pointer (some ⟨X, 0, none⟩)] 144) = w' := by
  have hmf : ∀ (fn : Fn) (first cap : Array Value) (w : World), (Instr.makeFunc fn first cap).run Tryz.prog w = .ok (.func fn first cap) w := fun _ _ _ _ => rfl
  go_enter Tryz.func91, Tryz.ntmps91
  go_wp2
  go_ret
  exact ⟨rfl, rfl⟩

/-- What all are, and how many bytes are left. -/
def AllOf (s : ByteArray) (w : World) (e : Ending) (w' : World) : Prop :=
  ∃ (pre : List Int) (t : ByteArray) (v : Value), Eats s pre t ∧ (decR t).2.2 ≠ 0 ∧ e = .returned (.tuple #[v, .int .i64 t.size]) ∧ w'.ownsRow w.heap.size 3 1 v pre.length (pre.map (Value.int .i64)) ∧ Below w.heap.size w w'

set_option maxRecDepth 100000 in
set_option maxHeartbeats 1000000 in
theorem all (s : ByteArray) (w : World) (hs : s.size ≤ 1073741824) : Calls Tryz.prog 65 #[.string s] w (AllOf s w) := by
  have HS := Lib.hid hs
  clear hs
  obtain ⟨i0, hi, hz0, hz1, hz2⟩ := info_parts info_int
  refine (callsIn_wide (n := 0)).1 ?_
  refine callsIn_of_wp_marks Tryz.func65 rfl trivial ?_ rfl
  simp only [Tryz.ntmps65, List.size_toArray, List.length_cons, List.length_nil, Nat.reduceAdd, Nat.reduceSub, Array.replicate_succ, Array.replicate_zero, List.push_toArray, List.append_toArray, List.nil_append, List.cons_append]
  gi_wp2_with (refine ⟨trivial, rfl, ?_⟩; gi_at_call 91; refine callsIn_wide.2 ((runes_mk _ _).mono ?_); rintro e w' ⟨rfl, rfl⟩)
  obtain ⟨W0, hW0⟩ : ∃ W0, ((w.alloc (.cells #[.string s] 148)).alloc (.cells #[.slice none 0 0] 115)).alloc (.cells #[.pointer (some ⟨w.heap.size, 0, none⟩)] 144) = W0 := ⟨_, rfl⟩
  have hz : W0.heap.size = w.heap.size + 3 := by rw [← hW0]; simp
  have hbX : Boxed W0 w.heap.size 148 (.string s) := by rw [← hW0]; exact ((Boxed.new w 148 _).alloc _).alloc _
  have hbL : Boxed W0 (w.heap.size + 1) 115 (.slice none 0 0) := by rw [← hW0]; have := Boxed.new (w.alloc (.cells #[.string s] 148)) 115 (.slice none 0 0); rw [World.size_alloc] at this; exact this.alloc _
  have hbB : Boxed W0 (w.heap.size + 1 + 1) 144 (.pointer (some ⟨w.heap.size, 0, none⟩)) := by rw [← hW0]; have := Boxed.new ((w.alloc (.cells #[.string s] 148)).alloc (.cells #[.slice none 0 0] 115)) 144 (.pointer (some ⟨w.heap.size, 0, none⟩)); rw [World.size_alloc, World.size_alloc] at this; exact this
  have hB0 : Below w.heap.size w W0 := by rw [← hW0]; exact (((Below.refl _ w).alloc (Nat.le_refl _) _).alloc (by simp) _).alloc (by simp; omega) _
  have hAt : RAt w.heap.size (w.heap.size + 1 + 1) s W0 := ⟨hbB.cell, hbX.cell, hbX.frozen⟩
  rw [hW0]
  refine wp_rangeFunc_iter (gf := 112) (lb := #[.pointer (some ⟨w.heap.size + 1 + 1, 0, none⟩)]) rfl (enters_of Tryz.func112 (by kernel_rfl) rfl)
    (runes_iter w.heap.size (w.heap.size + 1 + 1) s (by have := HS.out; omega))
    (fun A B h => KeepsFrom.of_grownBy h (fun j e => by cases e; omega)) (fun W h => hAt.below h)
    (fun h k => ⟨k.1.trans h.1, k.2.trans h.2⟩) (fun W l o o' hl h _ _ => ⟨World.putObj_heap_other (by omega), World.putObj_heap_other (by omega)⟩) (fun _ => rfl)
    (fun pre W => (∃ v, Boxed W (w.heap.size + 1) 115 v ∧ W.ownsRow (w.heap.size + 1) 3 1 v pre.length (pre.map (Value.int .i64))) ∧ Boxed W (w.heap.size + 1 + 1) 144 (.pointer (some ⟨w.heap.size, 0, none⟩)) ∧ Below w.heap.size w W ∧ w.heap.size + 3 ≤ W.heap.size)
    (fun _ _ _ => False) ?hI (fun _ _ _ _ _ hs _ _ => hs) ?hIs (fun _ _ _ _ h _ => h) ?hY ?hS ?hSp
    ⟨⟨_, hbL, World.ownsRow_nil _ _ _ _⟩, hbB, hB0, by omega⟩
    (fun x => { tmps := #[.string s, undef, .slice none 0 0, .int .i64 0, .pointer (some ⟨w.heap.size, 0, none⟩), .pointer (some ⟨w.heap.size + 1, 0, none⟩), .int .i64 x, .string s, .agg #[.string s], .agg #[.string s], .pointer (some ⟨w.heap.size, 0, none⟩), .pointer (some ⟨w.heap.size, 0, none⟩), .func (.func 112) #[] #[.pointer (some ⟨w.heap.size + 1 + 1, 0, none⟩)], .int .i64 x, undef, undef, undef, undef, undef, undef, undef, undef, undef, undef, undef], defers := [] }) ?assign ?body ?done ?stop
  case hI =>
    rintro pre A B row ⟨⟨v, hv, hr⟩, hBx, hB, hz'⟩ hg hrow
    exact ⟨⟨v, hv.kept hg (fun e => by have := hrow _ e.symm; omega), hr.kept hg (ownBlock_ne_row hr hrow)⟩, hBx.kept hg (fun e => by have := hrow _ e.symm; omega), hB.grown hg (by omega) (fun k e => by have := hrow _ e; omega), Nat.le_trans hz' hg.size⟩
  case hIs =>
    rintro pre A B ⟨⟨v, hv, hr⟩, hBx, hB, hz'⟩ hg
    exact ⟨⟨v, hv.kept hg (fun e => by injection e with e; omega), hr.kept hg (ownBlock_ne_of_base hr (by omega))⟩, hBx.kept hg (fun e => by injection e with e; omega), hB.grown hg (by omega) (fun k e => by cases e; omega), Nat.le_trans hz' hg.size⟩
  case hY => intro x; exact ownFrom_pure _ _
  case hS =>
    rintro xs A B row ⟨t, h1, h2, h3⟩ hg hrow
    exact ⟨t, h1, h2, h3.keep ⟨hg.block _ (World.block_lt_of_cell? A _ h3.2.1) (fun e => by have := hrow _ e.symm; omega), hg.block _ (World.block_lt_of_cell? A _ h3.1) (fun e => by have := hrow _ e.symm; omega)⟩⟩
  case hSp =>
    rintro xs A B row ⟨t, h1, h3⟩ hg hrow
    exact ⟨t, h1, h3.keep ⟨hg.block _ (World.block_lt_of_cell? A _ h3.2.1) (fun e => by have := hrow _ e.symm; omega), hg.block _ (World.block_lt_of_cell? A _ h3.1) (fun e => by have := hrow _ e.symm; omega)⟩⟩
  case assign =>
    intro l x W K hK
    gi_wp2
    exact hK
  case stop =>
    rintro D c pre W _ _ h _
    exact h.elim
  case body =>
    rintro l pre x W ⟨⟨v, hv, hrow⟩, hBx, hB, hz'⟩ ⟨hlen, _⟩
    have hc := hv.cell
    have hlen' : pre.length < 1073741824 := by have := HS.out; omega
    gi_wp2_with (gi_at_builtin; refine wpListIn_append_own _ rfl _ _ 115 rfl (w.heap.size + 1) 3 i0 (.int .i64 0) 1 8 Tryz.underlying115 hi hz0 hz1 hz2 rfl (by decide) _ _ _ rfl (hrow.alloc _) ⟨W.heap.size, 0, none⟩ 1 1 [.int .i64 x] rfl rfl (cell_one_new _ _ _) (by simp [Value.oneCell']) (by unfold maxLen; omega) (by omega) (by have := hB.size; simp; omega) ?_; intro v' w1 hown' hgrow _; obtain ⟨g', cap', rfl⟩ := ownsRow_succ hown'; obtain ⟨hv1, hv2, hr2, hk2, hb2⟩ := hv.appended (by decide) hrow (by omega) (Nat.le_refl _) hown' hgrow; have hc1 := hv1.cell; have hf1 := hv1.frozen)
    have hg2 : (W.alloc (.cells #[.int .i64 x] 3)).grownBy w1 v.ownBlock := hgrow
    have oX := appended_other (C := w.heap.size) (v' := .slice (some ⟨g', 0, none⟩) (pre.length + 1) cap') hg2 (by omega) (B := w.heap.size + 1) (by omega) (fun e => by rcases ownBlock_ne_of_base hrow (X := w.heap.size) (by omega) with h | h; rw [h] at e; cases e; exact h e.symm)
    have oB := appended_other (C := w.heap.size + 1 + 1) (v' := .slice (some ⟨g', 0, none⟩) (pre.length + 1) cap') hg2 (by omega) (B := w.heap.size + 1) (by omega) (hBx.not_row (by decide) hrow)
    exact ⟨hk2.from _, ⟨oX, oB⟩, ⟨⟨_, hv2, by simpa using hr2⟩, oB.trans hBx, hB.trans (hb2.mono (by omega)), by have := hb2.size; omega⟩⟩
  case done =>
    rintro D ys W hD ⟨t, hE, hd, hR⟩ ⟨⟨v, hv, hrow⟩, hBx, hB, hz'⟩ hK
    have hc := hv.cell
    have hR2 := hR.2.1
    gi_wp2
    gi_region
    gi_wp2
    refine ⟨by simp, .inl ⟨_, _, rfl, run_takeDeferred hK, ?_⟩⟩
    refine ⟨_, results_tmp2 rfl _ _ _, ?_⟩
    exact ⟨ys, t, v, hE, hd, rfl, ownsRow_base (ownsRow_putObj (W := W.drew) (l := D) hrow _ hK rfl) (by omega), (below_dr hB).trans (belowK_b (w := w) (Nat.le_refl _) W.drew D _ _ (by omega) hK rfl rfl)⟩
end Go.Proofs.YtbcjhmeeonhmaaaGreatDoor.H
end

section
set_option linter.unusedVariables false
namespace Go.Proofs.YtbcjhmeeonhmaaaGreatDoor.H
open Go Go.RowKit Go.Proofs.YtbcjhmeeonhmaaaGreatDoorW.PrintWords Go.Proofs.YtbcjhmeeonhmaaaGreatDoor.M

/-- The runes that a string begins with, and what is left, by rounds. -/
def eatF : Nat → ByteArray → List Int × ByteArray
  | 0, s => ([], s)
  | k + 1, s => if (decR s).2.2 = 0 then ((decR s).1 :: (eatF k (s.extract (decR s).2.1.toNat s.size)).1, (eatF k (s.extract (decR s).2.1.toNat s.size)).2) else ([], s)
def eat (s : ByteArray) : List Int × ByteArray := eatF s.size s
theorem eatF_stop {t : ByteArray} (h : (decR t).2.2 ≠ 0) (k : Nat) : eatF k t = ([], t) := by
  cases k with
  | zero => rfl
  | succ k => unfold eatF; rw [if_neg h]
theorem Eats.run {s t : ByteArray} {pre : List Int} (h : Eats s pre t) : ∀ k, eatF (pre.length + k) s = (pre ++ (eatF k t).1, (eatF k t).2) := by
  induction h with
  | nil => intro k; simp
  | snoc h hd ih =>
    intro k
    rw [List.length_append, List.length_singleton, Nat.add_assoc, ih, Nat.add_comm 1 k]
    simp only [eatF, hd, if_true, List.append_assoc, List.cons_append, List.nil_append]
theorem Eats.eat {s t : ByteArray} {pre : List Int} (h : Eats s pre t) (ht : (decR t).2.2 ≠ 0) : H.eat s = (pre, t) := by
  have := h.size
  have := h.run (s.size - pre.length)
  rw [show pre.length + (s.size - pre.length) = s.size from by omega, eatF_stop ht] at this
  unfold H.eat
  rw [this, List.append_nil]
theorem eatF_le : ∀ (k : Nat) (s : ByteArray), (eatF k s).2.size ≤ s.size
  | 0, s => Nat.le_refl _
  | k + 1, s => by
    unfold eatF
    by_cases h : (decR s).2.2 = 0
    · rw [if_pos h]
      have := eatF_le k (s.extract (decR s).2.1.toNat s.size)
      rw [ByteArray.size_extract] at this
      simp only []
      omega
    · rw [if_neg h]; exact Nat.le_refl _

end Go.Proofs.YtbcjhmeeonhmaaaGreatDoor.H
end

/-
utf.IsText, walked.
-/
section
set_option linter.unusedVariables false
set_option maxRecDepth 100000
namespace Go.Proofs.YtbcjhmeeonhmaaaGreatDoor.H
open Go Go.RowKit

theorem isNot1 (r : Int) (B : Nat) (w : World) (hc : w.cell? ⟨B, 0, none⟩ = some (.func (.func 18) #[] #[])) :
    Calls Tryz.prog 66 #[.int .i64 r, .pointer (some ⟨B, 0, none⟩)] w fun e w' => e = .returned (.bool (!isCharS r)) ∧ Below w.heap.size w w' := by
  have hb := World.block_lt_of_cell? w _ hc
  have hnot : ∀ (x : Bool) (w : World), (Op.unary .not (.bool x)).run Tryz.prog w = .ok (.bool (!x)) w := fun _ _ => rfl
  go_enter Tryz.func66, Tryz.ntmps66
  go_wp2_with fail
  refine (isChar r _).mono ?_
  rintro e w1 ⟨rfl, hb1⟩
  go_wp2
  go_ret
  exact ⟨rfl, hb1⟩
/-- The first that is not such. -/
def idxN : List Int → Nat → Int
  | [], _ => -1
  | x :: t, k => if isCharS x = true then idxN t (k + 1) else k
theorem idxN_any (xs : List Int) (k : Nat) : decide (0 ≤ idxN xs k) = !xs.all isCharS := by
  induction xs generalizing k with
  | nil => rfl
  | cons x t ih =>
    unfold idxN
    by_cases h : isCharS x = true
    · rw [if_pos h, ih]; simp [h]
    · rw [if_neg h]; simp [h]
set_option maxHeartbeats 800000 in
theorem indexNot (xs : List Int) (B : Nat) (b : Addr) (c : Nat) (w : World) (hc : w.cell? ⟨B, 0, none⟩ = some (.func (.func 18) #[] #[])) (hx : ∀ (j : Nat) (h : j < xs.length), w.cell? (b.add j) = some (.int .i64 xs[j])) (hl : xs.length ≤ 1073741824) :
    Calls Tryz.prog 92 #[.slice (some b) xs.length c, .func (.func 66) #[] #[.pointer (some ⟨B, 0, none⟩)]] w
      (RetI (idxN xs 0) w) := by
  have HX := Lib.hid hx
  have hbB := World.block_lt_of_cell? w _ hc
  clear hx
  go_enter Tryz.func92, Tryz.ntmps92
  go_wp2
  go_loopw [5, 8] (fun _ i wr => ∃ k : Nat, k ≤ xs.length ∧ i = .int .i64 k ∧ Hid (idxN (xs.drop k) k = idxN xs 0) ∧ Below w.heap.size w wr) (fun _ i _ => xs.length - (intOf i).toNat)
  case atStart => exact ⟨0, by omega, rfl, Lib.hid rfl, Below.refl _ _⟩
  case round =>
    obtain ⟨k, hk, rfl, hI, hB⟩ := hrel
    by_cases hlt : k < xs.length
    · have c1 := celB hB (HX.out k hlt)
      have c3 := (hB.cell (p := ⟨B, 0, none⟩) hbB).trans hc
      have hd := List.drop_eq_getElem_cons hlt
      have hI2 : idxN (xs.drop k) k = if isCharS xs[k] = true then idxN (xs.drop (k + 1)) (k + 1) else (k : Int) := by rw [hd]; rfl
      have HI2 := Lib.hid hI2
      clear hI2 hd
      go_wp2_with fail
      refine (isNot1 _ B wr c3).mono ?_
      rintro e w1 ⟨rfl, hb1⟩
      have hB1 : Below w.heap.size w w1 := hB.trans (hb1.mono hB.size)
      cases hin : isCharS xs[k]
      · have HH := Lib.hid hin
        clear hin
        go_wp2
        go_ret
        exact ⟨by rw [← hI.out, HI2.out, HH.out]; rfl, hB1⟩
      · have HH := Lib.hid hin
        clear hin
        go_wp2
        go_roundw
        case rel => exact ⟨k + 1, by omega, by go_num, Lib.hid (by rw [← hI.out, HI2.out, HH.out]; rfl), hB1⟩
        case measure => simp [intOf]; omega
    · go_wp2
      go_ret
      exact ⟨by rw [← hI.out, List.drop_of_length_le (by omega)]; rfl, hB⟩
theorem indexNot0 (v : Value) (w : World) : Calls Tryz.prog 92 #[.slice none 0 0, v] w (RetI (-1) w) := by
  go_enter Tryz.func92, Tryz.ntmps92
  go_wp2
  go_loopw [5, 8] (fun _ i wr => i = .int .i64 0 ∧ Below w.heap.size w wr) (fun _ i _ => 0)
  case atStart => exact ⟨rfl, Below.refl _ _⟩
  case round =>
    obtain ⟨rfl, hB⟩ := hrel
    go_wp2
    go_ret
    exact ⟨rfl, hB⟩
theorem containsNot (xs : List Int) (B : Nat) (v : Value) (w : World) (hc : w.cell? ⟨B, 0, none⟩ = some (.func (.func 18) #[] #[])) (base : Nat) (hr : w.ownsRow base 3 1 v xs.length (xs.map (Value.int .i64))) (hl : xs.length ≤ 1073741824) :
    Calls Tryz.prog 67 #[v, .func (.func 66) #[] #[.pointer (some ⟨B, 0, none⟩)]] w
      fun e w' => e = .returned (.bool (!xs.all isCharS)) ∧ Below w.heap.size w w' := by
  have key : Calls Tryz.prog 92 #[v, .func (.func 66) #[] #[.pointer (some ⟨B, 0, none⟩)]] w (RetI (idxN xs 0) w) := by
    rcases hr.2 with ⟨rfl, hn⟩ | ⟨g, cap, cur, rfl, _, hg, _, _, hsz, ht⟩
    · have : xs = [] := List.eq_nil_of_length_eq_zero hn
      subst this
      exact indexNot0 _ w
    · refine indexNot xs B ⟨g, 0, none⟩ cap w hc (fun j hj => ?_) hl
      have h1 : (cur.toList.take (xs.length * 1))[j]? = some (.int .i64 xs[j]) := by
        rw [ht, List.getElem?_map, List.getElem?_eq_getElem hj]; rfl
      rw [List.getElem?_take_of_lt (by omega), Array.getElem?_toList] at h1
      have ha : (⟨g, 0, none⟩ : Addr).add j = ⟨g, j, none⟩ := by cases j <;> simp [Addr.add]
      rw [ha]
      simp [World.cell?, hg, h1]
  have HK := Lib.hid key
  clear key hr
  go_enter Tryz.func67, Tryz.ntmps67
  go_wp2_with fail
  refine HK.out.mono ?_
  rintro e w1 ⟨rfl, hb1⟩
  go_wp2
  go_ret
  exact ⟨ret_bool (by rw [← idxN_any xs 0]), hb1⟩
/-- What IsText says. -/
def isTextS (s : ByteArray) : Bool := ((eat s).2.size == 0) && (eat s).1.all isCharS
set_option maxHeartbeats 1600000 in
theorem areAll (s : ByteArray) (w : World) (hs : s.size ≤ 1073741824) : Calls Tryz.prog 41 #[.string s, .func (.func 18) #[] #[]] w fun e w' => e = .returned (.bool (isTextS s)) ∧ Below w.heap.size w w' := by
  have hmf : ∀ (fn : Fn) (first cap : Array Value) (w : World), (Instr.makeFunc fn first cap).run Tryz.prog w = .ok (.func fn first cap) w := fun _ _ _ _ => rfl
  have hnot : ∀ (x : Bool) (w : World), (Op.unary .not (.bool x)).run Tryz.prog w = .ok (.bool (!x)) w := fun _ _ => rfl
  obtain ⟨W0, hW0⟩ : ∃ W0, w.alloc (.cells #[.func (.func 18) #[] #[]] 34) = W0 := ⟨_, rfl⟩
  have n0 : W0.cell? ⟨w.heap.size, 0, none⟩ = some (.func (.func 18) #[] #[]) := by rw [← hW0]; exact cel_new w _ _ 0 rfl
  have hb0 : Below w.heap.size w W0 := by rw [← hW0]; exact below_one _ _
  have HA := Lib.hid (all s W0 hs)
  go_enter Tryz.func41, Tryz.ntmps41
  go_wp2_with fail
  refine HA.out.mono ?_
  rintro e w1 ⟨pre, t, v, hE, hd, rfl, hr, hb1⟩
  have he := hE.eat hd
  have hB1 := below_tr hb0 (hb1.mono (Nat.le_refl _))
  have n1 := celB hb1 n0
  have hsz := hE.size
  have HC := Lib.hid (containsNot pre w.heap.size v w1 n1 _ hr (by omega))
  have HT : Hid (isTextS s = ((t.size == 0) && pre.all isCharS)) := Lib.hid (by unfold isTextS; rw [he])
  clear hr he hE hd
  by_cases ht : t.size = 0
  · have h0 : ((t.size : Int) == 0) = true := by rw [beq_iff_eq]; omega
    have h0n : (t.size == 0) = true := by rw [beq_iff_eq]; exact ht
    go_wp2_with fail
    refine HC.out.mono ?_
    rintro e w2 ⟨rfl, hb2⟩
    go_wp2
    go_ret
    exact ⟨ret_bool (by rw [HT.out, h0n]; simp), below_tr hB1 hb2⟩
  · have h0 : ((t.size : Int) == 0) = false := by rw [beq_eq_false_iff_ne]; omega
    have h0n : (t.size == 0) = false := by rw [beq_eq_false_iff_ne]; exact ht
    go_wp2
    go_ret
    exact ⟨ret_bool (by rw [HT.out, h0n]; simp), hB1⟩
theorem isText (s : ByteArray) (w : World) (hs : s.size ≤ 1073741824) : Calls Tryz.prog 19 #[.string s] w fun e w' => e = .returned (.bool (isTextS s)) ∧ Below w.heap.size w w' := by
  have HA := Lib.hid (areAll s w hs)
  go_enter Tryz.func19, Tryz.ntmps19
  go_wp2_with fail
  refine HA.out.mono ?_
  rintro e w1 ⟨rfl, hb1⟩
  go_wp2
  go_ret
  exact ⟨rfl, hb1⟩
end Go.Proofs.YtbcjhmeeonhmaaaGreatDoor.H
end

-- Laid by a program of this session for this claim.
section
namespace Go.Proofs.YtbcjhmeeonhmaaaGreatDoor.M
open Go.RowKit Go.Proofs.YtbcjhmeeonhmaaaGreatDoorW.PrintWords Go.Proofs.YtbcjhmeeonhmaaaGreatDoorW.PrintLast Go.Proofs.YtbcjhmeeonhmaaaGreatDoorW.PrintMore
attribute [local go_sem] max2_int min2_int max_two min_two max_three min_three max_four min_four   -- for this text's walks alone
set_option linter.unusedVariables false
set_option linter.unusedSimpArgs false

/-! ### pleacherref02_in: function 52 -/
def pleacherref02_in.f (a0 : Int) (a1 : Int) (a2 : Int) : Option (Bool) := if a0 ≥ a1 then (some (decide (a0 ≤ a2))) else (some false)
set_option maxHeartbeats 8000000 in
set_option maxRecDepth 100000 in
theorem pleacherref02_in.calls (a0 : Int) (a1 : Int) (a2 : Int) (r : Bool) (w : World) (h : pleacherref02_in.f a0 a1 a2 = some r) :
    Calls Tryz.prog 52 #[.int .i64 a0, .int .i64 a1, .int .i64 a2] w fun e w' => e = .returned (.bool r) ∧ Drawn0 w w' := by
  have H : (if a0 ≥ a1 then (some (decide (a0 ≤ a2))) else (some false)) = some r := h
  clear h
  by_cases c4 : a0 ≥ a1
  · rw [if_pos c4] at H
    have c4b0 : decide (a1 ≤ a0) = true := decide_eq_true c4
    clear c4
    obtain rfl := Option.some.inj H
    go_enter Tryz.func52, Tryz.ntmps52
    go_wp2
    go_ret
    exact ⟨by first | rfl | (simp; done) | (simp [*]; done), by repeat (first | exact Drawn0.refl _ | apply Drawn0.step)⟩
  · rw [if_neg c4] at H
    have c4b0 : decide (a1 ≤ a0) = false := decide_eq_false c4
    clear c4
    obtain rfl := Option.some.inj H
    go_enter Tryz.func52, Tryz.ntmps52
    go_wp2
    go_ret
    exact ⟨by first | rfl | (simp; done) | (simp [*]; done), by repeat (first | exact Drawn0.refl _ | apply Drawn0.step)⟩

end Go.Proofs.YtbcjhmeeonhmaaaGreatDoor.M
end

-- Laid by a program of this session for this claim.
section
namespace Go.Proofs.YtbcjhmeeonhmaaaGreatDoor.M
open Go.RowKit Go.Proofs.YtbcjhmeeonhmaaaGreatDoorW.PrintWords Go.Proofs.YtbcjhmeeonhmaaaGreatDoorW.PrintLast Go.Proofs.YtbcjhmeeonhmaaaGreatDoorW.PrintMore
attribute [local go_sem] max2_int min2_int max_two min_two max_three min_three max_four min_four   -- for this text's walks alone
set_option linter.unusedVariables false
set_option linter.unusedSimpArgs false

/-! ### pleacherref02_is: function 53 -/
def pleacherref02_is.f (a0 : Int) : Option (Bool) := (pleacherref02_in.f a0 0 1114111).bind fun t119 => (if t119 = true then ((pleacherref02_in.f a0 55296 57343).bind fun t120 => (some (!t120))) else (some false))
set_option maxHeartbeats 8000000 in
set_option maxRecDepth 100000 in
theorem pleacherref02_is.calls (a0 : Int) (r : Bool) (w : World) (h : pleacherref02_is.f a0 = some r) :
    Calls Tryz.prog 53 #[.int .i64 a0] w fun e w' => e = .returned (.bool r) ∧ Drawn0 w w' := by
  have H : ((pleacherref02_in.f a0 0 1114111).bind fun t119 => (if t119 = true then ((pleacherref02_in.f a0 55296 57343).bind fun t120 => (some (!t120))) else (some false))) = some r := h
  clear h
  replace H := Option.bind_eq_some_iff.mp H
  obtain ⟨t119, A20, H⟩ := H
  replace H : (if t119 = true then ((pleacherref02_in.f a0 55296 57343).bind fun t120 => (some (!t120))) else (some false)) = some r := H
  have A2 := Aside0.mk A20
  clear A20
  by_cases c3 : t119 = true
  · subst c3
    have H1 : ((pleacherref02_in.f a0 55296 57343).bind fun t120 => (some (!t120))) = some r := by rw [if_pos rfl] at H; exact H
    clear H
    have H := H1
    clear H1
    replace H := Option.bind_eq_some_iff.mp H
    obtain ⟨t120, A40, H⟩ := H
    replace H : (some (!t120)) = some r := H
    have A4 := Aside0.mk A40
    clear A40
    obtain rfl := Option.some.inj H
    go_enter Tryz.func53, Tryz.ntmps53
    go_wp2_with (first | ((with_reducible refine gate_callee (f := 52) rfl ?_); refine goesL_ (some 4) rfl rfl Tryz.func52 (by kernel_rfl) rfl #[.int .i64 a0, .int .i64 0, .int .i64 1114111] rfl (by (try simp only [List.map_toArray, List.map_cons, List.map_nil]); first | done | rfl | (simp only [List.length_drop, List.length_take]; rfl)) ?_; (with_reducible refine (pleacherref02_in.calls a0 0 1114111 true _ A2.out).mono ?_); rintro e w' ⟨rfl, ⟨nd, rfl⟩⟩; refine ⟨_, rfl, ?_⟩) | (go_at_call 52; (with_reducible refine (pleacherref02_in.calls a0 55296 57343 t120 _ A4.out).mono ?_); rintro e w' ⟨rfl, ⟨nd, rfl⟩⟩))
    go_ret
    exact ⟨by first | rfl | (simp; done) | (simp [*]; done), by repeat (first | exact Drawn0.refl _ | apply Drawn0.step)⟩
  · replace c3 := Bool.eq_false_iff.mpr c3
    subst c3
    have H1 : (some false) = some r := by rw [if_neg (show ¬ (false = true) by decide)] at H; exact H
    clear H
    have H := H1
    clear H1
    obtain rfl := Option.some.inj H
    go_enter Tryz.func53, Tryz.ntmps53
    go_wp2_with (first | ((with_reducible refine gate_callee (f := 52) rfl ?_); refine goesL_ (some 4) rfl rfl Tryz.func52 (by kernel_rfl) rfl #[.int .i64 a0, .int .i64 0, .int .i64 1114111] rfl (by (try simp only [List.map_toArray, List.map_cons, List.map_nil]); first | done | rfl | (simp only [List.length_drop, List.length_take]; rfl)) ?_; (with_reducible refine (pleacherref02_in.calls a0 0 1114111 false _ A2.out).mono ?_); rintro e w' ⟨rfl, ⟨nd, rfl⟩⟩; refine ⟨_, rfl, ?_⟩))
    go_ret
    exact ⟨by first | rfl | (simp; done) | (simp [*]; done), by repeat (first | exact Drawn0.refl _ | apply Drawn0.step)⟩

end Go.Proofs.YtbcjhmeeonhmaaaGreatDoor.M
end
