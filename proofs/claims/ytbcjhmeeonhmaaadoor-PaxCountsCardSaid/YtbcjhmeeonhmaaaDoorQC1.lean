/-
Part 1 of: The statement about PaxCounts, as a card: for every argument the law's answer is 'true'. There is no condition.
-/
import Derived.Test.YtbcjhmeeonhmaaaDoorProg
import Derived.Below
import Derived.Deep.Draws
import Derived.Deep.AppendLies
import Derived.Maps.AppendAt
import Derived.OwnWalk
import Derived.Laws.BytesArg
import Derived.Laws.MakeOwn
import Derived.Laws.OwnMore
import Derived.Deep.OwnRows
import Derived.Tactics
import Derived.Lib.ConvBytes
import Derived.Laws.Slices
import Derived.WalkKit
import Derived.KernelRfl
import Derived.RowKit3
import Derived.Deep.LoopGhost
import Derived.Deep.QuietTactic
import Derived.BigQuiet
import Derived.WideLaws
import Derived.Deep.DeepCutAuto
import Derived.Deep.CutBlock
import Derived.Deep.RegionHeld3
import Derived.Laws.Rows
import Derived.Lib.AppendStr
import Derived.ArgAppend
import Derived.Laws.IdiomCopy
import Derived.OrdersHeld
import Derived.Laws.BitsLemmas
import Derived.RowKit
import Derived.Test.YtbcjhmeeonhmaaaDoorWWords
import Derived.Test.YtbcjhmeeonhmaaaDoorWLast
import Derived.Test.YtbcjhmeeonhmaaaDoorWTab
import Derived.Test.YtbcjhmeeonhmaaaDoorWFour
import Derived.Test.YtbcjhmeeonhmaaaDoorWQPut
import Derived.Test.YtbcjhmeeonhmaaaDoorWApart
import Derived.Test.YtbcjhmeeonhmaaaDoorWArr
import Derived.Test.YtbcjhmeeonhmaaaDoorWZeros
import Derived.Test.YtbcjhmeeonhmaaaDoorWFoot
import Derived.Test.YtbcjhmeeonhmaaaDoorWKept
import Derived.Test.YtbcjhmeeonhmaaaDoorWShare
import Derived.Test.YtbcjhmeeonhmaaaDoorWN
import Derived.Test.YtbcjhmeeonhmaaaDoorWFootNe
import Derived.Test.YtbcjhmeeonhmaaaDoorWAt
import Derived.Test.YtbcjhmeeonhmaaaDoorWEqStruct
import Derived.Test.YtbcjhmeeonhmaaaDoorWRepsOne
import Derived.Test.YtbcjhmeeonhmaaaDoorWInv
import Derived.Test.YtbcjhmeeonhmaaaDoorWInvWords
import Derived.Test.YtbcjhmeeonhmaaaDoorWGuard
import Derived.Test.YtbcjhmeeonhmaaaDoorWNEv
import Derived.Test.YtbcjhmeeonhmaaaDoorWMore
import Derived.Lib.Hide
import Derived.RangeFuncNested
import Derived.RangeFuncBound
import Derived.RangeFuncCalls
import Derived.RangeFuncLeaves
import Derived.RangeFuncWrites
import Derived.Shelf.Abstract
import Derived.OwnWalkIn
import Derived.TacticsInMore
import Derived.LoopNIn
import Derived.LoopIn
import Derived.Scope
import Derived.Lib.SmallJoins
import Derived.RangeFuncBox
import Derived.LaidEql
import Derived.Stop.Asserts
import Derived.Stop.LaidTwo
import Derived.RowKitTokens
import Derived.Stop.RegionWithIn
import Derived.Laws.RangeAny
import Derived.Lib.OthersKept
import Derived.BigRegion
import Derived.Lib.BufferOwn
import Derived.Shelf.Strings.Builder1
import Derived.Shelf.Strings.BuilderF
import Derived.Shelf.Strings.BuilderK
import Derived.Shelf.Strings.Search1
import Derived.Shelf.Strings.Search2
import Derived.Shelf.Strings.Search3
import Derived.Shelf.Strings.Cut
import Derived.Shelf.LaysM
import Derived.Shelf.Strings.Shaped
import Derived.Shelf.Strings.BuilderCap
import Derived.Lib.IndexLaws
import Derived.Laws.LoneSync
import Derived.RangeFuncRecord
set_option linter.unusedVariables false
set_option linter.unusedSimpArgs false
-- Laid by a program of this session for this claim.
section
namespace Go.Proofs.YtbcjhmeeonhmaaaDoor.M
open Go.RowKit Go.Proofs.YtbcjhmeeonhmaaaDoorW.PrintWords Go.Proofs.YtbcjhmeeonhmaaaDoorW.PrintLast Go.Proofs.YtbcjhmeeonhmaaaDoorW.PrintMore
attribute [local go_sem] max2_int min2_int max_two min_two max_three min_three max_four min_four   -- for this text's walks alone
set_option linter.unusedVariables false
set_option linter.unusedSimpArgs false



def errW : Option Int → Value
  | none => .nilIface
  | some c => .iface 0 (.int .i64 c)
theorem errW_none : errW none = .nilIface := rfl
theorem errW_some (c : Int) : errW (some c) = .iface 0 (.int .i64 c) := rfl

theorem info5 : (Tryd.prog.info? 5).map (fun i => (i.zero, i.size, i.bytes)) = some (some (.int .u8 0), 1, 1) := by kernel_rfl
theorem info31 : (Tryd.prog.info? 31).map (fun i => (i.zero, i.size, i.bytes)) = some (some (.agg #[(.string ⟨#[]⟩), (.string ⟨#[]⟩)]), 2, 32) := by kernel_rfl
-- the values' own types
/-! #### struct type 174 -/
structure S174 where
  f0 : Int
  f1 : Int
def z174 : S174 := ⟨(0 : Int), (0 : Int)⟩
def k174 : Kd S174 := Kd.iso (Kd.pair (Kd.int .i32) (Kd.int .i32)) (fun x : S174 => (x.f0, x.f1))
theorem k174_open {w : World} {x : S174} {cs : List Value} (h : k174.K w x cs) : cs = [.int .i32 x.f0, .int .i32 x.f1] := by
  obtain ⟨_, _, rfl, rfl, rfl⟩ := h
  exact rfl
theorem k174_mkM (w : World) (base : Nat) (ok : Nat → Prop) (x : S174)  : k174.M w base ok x [.int .i32 x.f0, .int .i32 x.f1] := ⟨[.int .i32 x.f0], [.int .i32 x.f1], rfl, rfl, rfl⟩
def rd_T174 (xs : List S174) (i : Int) : S174 := xs.getD i.toNat z174
theorem at_T174 {w : World} {A : Option Addr} {n : Nat} {xs : List S174} (h : Kd.C k174 w A n xs) (i : Int) (h0 : 0 ≤ i) (h1 : i < n) : ∃ ad , A = some ad ∧ w.cell? (ad.add (i.toNat * 2)) = some (.int .i32 (rd_T174 xs i).f0) ∧ w.cell? ⟨(ad.add (i.toNat * 2)).block, (ad.add (i.toNat * 2)).off + 1, none⟩ = some (.int .i32 (rd_T174 xs i).f1) := by
  obtain ⟨ad, c, e, _, hK, hc0⟩ := Kd.C_get h z174 i h0 h1
  have hc : ∀ j u, c[j]? = some u → w.cell? (ad.add (i.toNat * 2 + j)) = some u := hc0
  obtain rfl := k174_open hK
  exact ⟨ad, e, hc 0 _ rfl, by rw [← add_field _ _ 1 (by omega)]; exact hc 1 _ rfl⟩

/-! #### struct type 31 -/
structure S31 where
  f0 : ByteArray
  f1 : ByteArray
def z31 : S31 := ⟨(⟨#[]⟩ : ByteArray), (⟨#[]⟩ : ByteArray)⟩
def k31 : Kd S31 := Kd.iso (Kd.pair Kd.string Kd.string) (fun x : S31 => (x.f0, x.f1))
theorem k31_mkM (w : World) (base : Nat) (ok : Nat → Prop) (x : S31)  : k31.M w base ok x [.string x.f0, .string x.f1] := ⟨[.string x.f0], [.string x.f1], rfl, rfl, rfl⟩
end Go.Proofs.YtbcjhmeeonhmaaaDoor.M
end

/-
Small lemmas on worlds and values that the hand walks of this seat use. By this session.
-/
section
set_option linter.unusedVariables false
namespace Go.Proofs.YtbcjhmeeonhmaaaDoor.H
open Go Go.RowKit

theorem ret_bool {a b : Bool} (h : a = b) : Ending.returned (.bool a) = .returned (.bool b) := by rw [h]
theorem ret_int {k : IntKind} {a b : Int} (h : a = b) : Ending.returned (.int k a) = .returned (.int k b) := by rw [h]
/-- What a cell holds, it holds in a later world. -/
theorem celB {w w1 : World} (h : Below w.heap.size w w1) {a : Addr} {v : Value} (hc : w.cell? a = some v) : w1.cell? a = some v :=
  (h.cell (World.block_lt_of_cell? w a hc)).trans hc
theorem below_tr {w w1 w2 : World} (h : Below w.heap.size w w1) (k : Below w1.heap.size w1 w2) : Below w.heap.size w w2 := h.trans (k.mono h.size)
theorem below_al {w w1 : World} (h : Below w.heap.size w w1) (o : Obj) : Below w.heap.size w (w1.alloc o) := h.alloc h.size o
theorem below_dr {B : Nat} {w w1 : World} (h : Below B w w1) : Below B w w1.drew := ⟨h.os, h.tape, h.output, h.size, h.block⟩
theorem below_drN {B : Nat} {w w1 : World} (h : Below B w w1) (n : Nat) : Below B w (w1.drewN n) := ⟨h.os, h.tape, h.output, h.size, h.block⟩
theorem below_one (w : World) (o : Obj) : Below w.heap.size w (w.alloc o) := (Below.refl _ w).alloc (Nat.le_refl _) o
theorem cel_al {w : World} {a : Addr} {v : Value} (h : w.cell? a = some v) (o : Obj) : (w.alloc o).cell? a = some v := celB (below_one w o) h
theorem cel_new (w : World) (cs : Array Value) (t : TypeId) (i : Nat) {v : Value} (h : cs[i]? = some v) : (w.alloc (.cells cs t)).cell? ⟨w.heap.size, i, none⟩ = some v := by rw [World.cell?_alloc_new]; exact h
theorem toList_data (s : ByteArray) : s.toList = s.data.toList := by first | exact ByteArray.toList_eq s | simp
theorem size_data (s : ByteArray) : s.data.toList.length = s.size := by rw [Array.length_toList]; rfl
end Go.Proofs.YtbcjhmeeonhmaaaDoor.H
end

/-
A range over a function whose iterator keeps a state of its own in cells: one law for the caller, out of the iterator's contract. Over any program. By this session (after the kit's law for iterators without such a state).
-/
section
set_option linter.unusedVariables false
namespace Go.Proofs.YtbcjhmeeonhmaaaDoor.H
open Go Go.RowKit

/-- THE CONTRACT OF AN ITERATOR: St: what its own steps do to the world; Kp: what a round keeps; Yp: what holds where it calls yield; S: all have come; Sp: it was stopped; P0: what it asks. -/
def Iter {α : Type} (P : Program) (gf : Nat) (lb : Array Value) (encs : α → Array Value) (St Kp : World → World → Prop) (Yp : List α → α → World → Prop) (S Sp : List α → World → Prop) (P0 : World → Prop) : Prop :=
  ∀ (l : Nat) (J Jx : List α → World → Prop) (W : World),
    (∀ s A B, J s A → St A B → J s B) → (∀ s A B, Jx s A → St A B → Jx s B) → P0 W →
    (∀ pre x W1, J pre W1 → Yp pre x W1 → YieldAt Fence.wide 0 P l (encs x) W1 fun e W' =>
      (e = .returned (.bool true) ∧ J (pre ++ [x]) W' ∧ Kp W1 W') ∨ (e = .returned (.bool false) ∧ Jx (pre ++ [x]) W' ∧ Kp W1 W')) →
    J [] W →
    Calls P gf (#[.func (.yield l) #[] #[]] ++ lb) W fun e W' => (∃ v, e = .returned v) ∧ ((∃ xs, S xs W' ∧ J xs W') ∨ (∃ pre, Sp pre W' ∧ Jx pre W'))

/-- HOW THE BODY OF A ROUND MAY BE LEFT. -/
def iterPost {α : Type} (B : Nat) (Kp : World → World → Prop) (I : List α → World → Prop) (Ix : Code → List α → World → Prop) (xs : List α) (W : World) : Exit → Act → World → Prop
  | .normal, _, W' => KeepsFrom B W W' ∧ Kp W W' ∧ I xs W'
  | .ret, _, W' => KeepsFrom B W W' ∧ Kp W W' ∧ Ix .ret xs W'
  | .exit id, _, W' => KeepsFrom B W W' ∧ Kp W W' ∧ Ix (.exit id) xs W'
  | .goto t, _, W' => KeepsFrom B W W' ∧ Kp W W' ∧ Ix (.goto t) xs W'
  | .panic _, _, _ => False
  | .outgrown, _, _ => False

theorem wp_rangeFunc_iterG {P : Program} {α : Type} {g : Operand} {ps : Array Tmp} {assign body : Code} {Q : Exit → Act → World → Prop} {a : Act} {w : World}
    {gf : Nat} {lb : Array Value} (hg : a.eval g = .func (.func gf) #[] lb) (eg : ∀ args w, (callFunc gf args).run P w = .ok (.enter gf args) w)
    {encs : α → Array Value} {St Kp : World → World → Prop} {Yp : List α → α → World → Prop} {S Sp : List α → World → Prop} {P0 : World → Prop} (hseq : Iter P gf lb encs St Kp Yp S Sp P0)
    (hSt : ∀ A B, St A B → ∀ k o, w.heap.size ≤ k → A.heap[k]? = some o → o.isCells = false → o.isWalk = false → B.heap[k]? = some o) (hP0 : ∀ W, Below w.heap.size w W → P0 W)
    (hKt : ∀ {A B C : World}, Kp A B → Kp B C → Kp A C) (hKb : ∀ (W : World) (l : Nat) (o o' : Obj), w.heap.size ≤ l → W.heap[l]? = some o → o.isCells = false → o.isWalk = false → Kp W (W.putObj l o')) (hps : ∀ x, (encs x).size = ps.size)
    (I : List α → World → Prop) (Ix : Code → List α → World → Prop) (hI : OwnFrom w.heap.size I) (hIx : ∀ c, OwnFrom w.heap.size (Ix c))
    (hIs : ∀ s A B, I s A → St A B → I s B) (hIxs : ∀ c s A B, Ix c s A → St A B → Ix c s B)
    (hY : ∀ x, OwnFrom w.heap.size (fun pre W => Yp pre x W)) (hS : OwnFrom w.heap.size S) (hSp : OwnFrom w.heap.size Sp) (h0 : I [] w) (a₁ : α → Act)
    (hassign : ∀ (l : Nat) (x : α) (W : World) (K : Act → World → Prop), K (a₁ x) W →
      assign.wpIn (Fence.wide.inRound l) 0 P (Exit.then K (fun _ _ _ => False)) { tmps := (ps.zip (encs x)).foldl (fun t (p, v) => t.setIfInBounds p v) a.tmps, defers := [] } W)
    (hbody : ∀ (l : Nat) (pre : List α) (x : α) (W : World), I pre W → Yp pre x W → body.wpIn (Fence.wide.inRound l) 0 P (iterPost w.heap.size Kp I Ix (pre ++ [x]) W) (a₁ x) W)
    (hdone : ∀ (D : Nat) (xs : List α) (W : World), w.heap.size ≤ D → S xs W → I xs W → W.heap[D]? = some (.deferred (some [])) → Q .normal { a with defers := { target := .collected D, args := #[] } :: a.defers } W)
    (hstop : ∀ (D : Nat) (c : Code) (pre : List α) (W : World), w.heap.size ≤ D → Sp pre W → Ix c pre W → W.heap[D]? = some (.deferred (some [])) → c.wpIn Fence.wide 0 P Q { a with defers := { target := .collected D, args := #[] } :: a.defers } W) :
    (Code.rangeFunc g ps assign body).wpIn Fence.wide 0 P Q a w := by
  refine wpIn_rangeFunc ?_
  intro fn hfn
  rw [Fence.wide_round]
  obtain ⟨rec, hrec⟩ : ∃ rec : LoopState → Option Code → Loop, rec = fun st pe => { state := st, pending := pe, fn, tmps := a.tmps, params := ps, assign, body, defers := w.heap.size } := ⟨_, rfl⟩
  obtain ⟨W1, hW1⟩ : ∃ W1, (w.alloc (.deferred (some []))).alloc (.loop (rec .ready none)) = W1 := ⟨_, rfl⟩
  have hL1 : W1.heap[w.heap.size + 1]? = some (.loop (rec .ready none)) := by
    rw [← hW1]; have := World.alloc_heap_new (w.alloc (.deferred (some []))) (.loop (rec .ready none)); rwa [World.size_alloc] at this
  have hK1 : W1.heap[w.heap.size]? = some (.deferred (some [])) := by
    rw [← hW1]; exact (Below.heap_alloc _ _ _ (by simp)).trans (World.alloc_heap_new w _)
  have own_al : ∀ {β : Type} {I : β → World → Prop} (_ : OwnFrom w.heap.size I) {s : β} {W : World} (o : Obj), I s W → I s (W.alloc o) := fun h s W o hs => h _ _ _ none hs (World.grownBy_alloc W o none) (fun r e => by cases e)
  have own_put : ∀ {β : Type} {I : β → World → Prop} (_ : OwnFrom w.heap.size I) {s : β} {W : World} {l : Nat} {o : Obj} (o' : Obj), I s W → w.heap.size ≤ l → W.heap[l]? = some o → o.isCells = false → I s (W.putObj l o') :=
    fun h s W l o o' hs hl ho hc => h _ _ _ (some l) hs (grownBy_putObj' W l o') (fun r e => by cases e; exact ⟨hl, o, ho, hc⟩)
  have hI1 : I [] W1 := by rw [← hW1]; exact own_al hI _ (own_al hI _ h0)
  have hb1 : Below w.heap.size w W1 := by
    rw [← hW1]; exact ((Below.refl _ w).alloc (Nat.le_refl _) _).alloc (by simp) _
  refine ⟨w.heap.size + 1, [{ target := .collected w.heap.size, args := #[] }], W1, { target := .fn (.func gf) lb, args := #[.func (.yield (w.heap.size + 1)) #[] #[]] }, W1, gf,
    #[.func (.yield (w.heap.size + 1)) #[] #[]] ++ lb, W1, ?_, ?_, ?_, ?_, (fun h => by cases h), ?_⟩
  · rw [← hW1, hrec]; exact run_enterLoop_outer _ _ _ _ _
  · simp only [resolve, hg]
    simp [go_sem]
  · intro f' hf'; trivial
  · simp [invoke, go_sem, eg]
  · refine callsIn_wide.2 ?_
    refine (hseq (w.heap.size + 1)
      (fun pre W => I pre W ∧ W.heap[w.heap.size + 1]? = some (.loop (rec .ready none)) ∧ W.heap[w.heap.size]? = some (.deferred (some [])))
      (fun pre W => ∃ c, Ix c pre W ∧ W.heap[w.heap.size + 1]? = some (.loop (rec .done (some c))) ∧ W.heap[w.heap.size]? = some (.deferred (some [])))
      W1
      (fun s A B hs hst => ⟨hIs s A B hs.1 hst, hSt A B hst _ _ (by omega) hs.2.1 rfl rfl, hSt A B hst _ _ (Nat.le_refl _) hs.2.2 rfl rfl⟩)
      (fun s A B hs hst => by
        obtain ⟨c, hc, hl, hk⟩ := hs
        exact ⟨c, hIxs c s A B hc hst, hSt A B hst _ _ (by omega) hl rfl rfl, hSt A B hst _ _ (Nat.le_refl _) hk rfl rfl⟩)
      (hP0 W1 hb1) ?_ ⟨hI1, hL1, hK1⟩).mono ?_
    · -- ONE ROUND
      rintro pre x W ⟨hi, hl, hk⟩ hyp
      have hlt : w.heap.size + 1 < W.heap.size := (Array.getElem?_eq_some_iff.1 hl).1
      have hy := run_yield (P := P) (args := encs x) hl (by rw [hrec]; exact hps x)
      rw [hrec] at hy
      refine ⟨fn, _, assign, body, hy, roundIn_of_wpIn trivial (hassign _ x W _ ⟨_, run_beginRound hl (by rw [hrec]), ?_⟩)⟩
      have hl2 : (W.putObj (w.heap.size + 1) (.loop { rec .ready none with state := .busy })).heap[w.heap.size + 1]? = some (.loop { rec .ready none with state := .busy }) := World.putObj_heap_same hlt
      have hk2 : (W.putObj (w.heap.size + 1) (.loop { rec .ready none with state := .busy })).heap[w.heap.size]? = some (.deferred (some [])) := (World.putObj_heap_other (by omega)).trans hk
      have hw2 : Kp W (W.putObj (w.heap.size + 1) (.loop { rec .ready none with state := .busy })) := hKb _ _ _ _ (by omega) hl rfl rfl
      refine wpIn_mono (hbody _ pre x _ (own_put hI _ hi (by omega) hl rfl) (own_put (I := fun pre W => Yp pre x W) (hY x) _ hyp (by omega) hl rfl)) ?_
      have fin : ∀ (jump : Option Code) (W3 : World), KeepsFrom w.heap.size (W.putObj (w.heap.size + 1) (.loop { rec .ready none with state := .busy })) W3 →
          (Instr.endRound (w.heap.size + 1) jump).run P W3 = .ok (.bool jump.isNone) (W3.putObj (w.heap.size + 1) (.loop (rec (if jump.isNone then .ready else .done) jump))) ∧
          W3.heap[w.heap.size + 1]? = some (.loop { rec .ready none with state := .busy }) ∧
          (W3.putObj (w.heap.size + 1) (.loop (rec (if jump.isNone then .ready else .done) jump))).heap[w.heap.size + 1]? = some (.loop (rec (if jump.isNone then .ready else .done) jump)) ∧
          (W3.putObj (w.heap.size + 1) (.loop (rec (if jump.isNone then .ready else .done) jump))).heap[w.heap.size]? = some (.deferred (some [])) := fun jump W3 hk3 => by
        have hl3 := hk3.same _ _ (by omega) hl2 rfl
        have := run_endRound (P := P) jump hl3
        rw [hrec] at this ⊢
        exact ⟨this, by rw [hrec] at hl3; exact hl3, World.putObj_heap_same (Array.getElem?_eq_some_iff.1 hl3).1, (World.putObj_heap_other (by omega)).trans (hk3.same _ _ (Nat.le_refl _) hk2 rfl)⟩
      have lv : ∀ (c : Code) (W3 : World), KeepsFrom w.heap.size (W.putObj (w.heap.size + 1) (.loop { rec .ready none with state := .busy })) W3 → Kp (W.putObj (w.heap.size + 1) (.loop { rec .ready none with state := .busy })) W3 → Ix c (pre ++ [x]) W3 →
          ∃ v w', (Instr.endRound (w.heap.size + 1) (some c)).run P W3 = .ok v w' ∧ ((Ending.returned v = .returned (.bool true) ∧ (I (pre ++ [x]) w' ∧ w'.heap[w.heap.size + 1]? = some (.loop (rec .ready none)) ∧ w'.heap[w.heap.size]? = some (.deferred (some []))) ∧ Kp W w') ∨
            (Ending.returned v = .returned (.bool false) ∧ (∃ c, Ix c (pre ++ [x]) w' ∧ w'.heap[w.heap.size + 1]? = some (.loop (rec .done (some c))) ∧ w'.heap[w.heap.size]? = some (.deferred (some []))) ∧ Kp W w')) := fun c W3 hk3 hkp3 hi3 => by
        obtain ⟨hr, hl3, hl4, hk4⟩ := fin (some c) W3 hk3
        exact ⟨_, _, hr, .inr ⟨rfl, ⟨c, own_put (hIx c) _ hi3 (by omega) hl3 rfl, hl4, hk4⟩, hKt (hKt hw2 hkp3) (hKb _ _ _ _ (by omega) hl3 rfl rfl)⟩⟩
      rintro e a3 W3 hp
      cases e with
      | normal =>
        obtain ⟨hk3, hkp3, hi3⟩ := hp
        obtain ⟨hr, hl3, hl4, hk4⟩ := fin none W3 hk3
        exact ⟨_, _, hr, .inl ⟨rfl, ⟨own_put hI _ hi3 (by omega) hl3 rfl, hl4, hk4⟩, hKt (hKt hw2 hkp3) (hKb _ _ _ _ (by omega) hl3 rfl rfl)⟩⟩
      | ret => exact lv _ W3 hp.1 hp.2.1 hp.2.2
      | exit id => exact lv _ W3 hp.1 hp.2.1 hp.2.2
      | goto t => exact lv _ W3 hp.1 hp.2.1 hp.2.2
      | panic ch => exact hp.elim
      | outgrown => exact hp.elim
    · -- BEHIND THE ITERATOR
      rintro e W2 ⟨⟨v, rfl⟩, (⟨xs, hS2, hi, hl, hk⟩ | ⟨pre, hSp2, c, hi, hl, hk⟩)⟩
      · exact ⟨none, _, by have := run_endLoop (P := P) hl (by rw [hrec]; simp); rw [hrec] at this; exact this, hdone _ xs _ (Nat.le_refl _) (own_put hS _ hS2 (by omega) hl rfl) (own_put hI _ hi (by omega) hl rfl) ((World.putObj_heap_other (by omega)).trans hk)⟩
      · exact ⟨some c, _, by have := run_endLoop (P := P) hl (by rw [hrec]; simp); rw [hrec] at this; exact this, hstop _ c pre _ (Nat.le_refl _) (own_put hSp _ hSp2 (by omega) hl rfl) (own_put (hIx c) _ hi (by omega) hl rfl) ((World.putObj_heap_other (by omega)).trans hk)⟩
theorem wp_rangeFunc_iter {P : Program} {α : Type} {g : Operand} {ps : Array Tmp} {assign body : Code} {Q : Exit → Act → World → Prop} {a : Act} {w : World}
    {gf : Nat} {lb : Array Value} (hg : a.eval g = .func (.func gf) #[] lb) (eg : ∀ args w, (callFunc gf args).run P w = .ok (.enter gf args) w)
    {encs : α → Array Value} {St Kp : World → World → Prop} {Yp : List α → α → World → Prop} {S Sp : List α → World → Prop} {P0 : World → Prop} (hseq : Iter P gf lb encs St Kp Yp S Sp P0)
    (hSt : ∀ A B, St A B → KeepsFrom w.heap.size A B) (hP0 : ∀ W, Below w.heap.size w W → P0 W)
    (hKt : ∀ {A B C : World}, Kp A B → Kp B C → Kp A C) (hKb : ∀ (W : World) (l : Nat) (o o' : Obj), w.heap.size ≤ l → W.heap[l]? = some o → o.isCells = false → o.isWalk = false → Kp W (W.putObj l o')) (hps : ∀ x, (encs x).size = ps.size)
    (I : List α → World → Prop) (Ix : Code → List α → World → Prop) (hI : OwnFrom w.heap.size I) (hIx : ∀ c, OwnFrom w.heap.size (Ix c))
    (hIs : ∀ s A B, I s A → St A B → I s B) (hIxs : ∀ c s A B, Ix c s A → St A B → Ix c s B)
    (hY : ∀ x, OwnFrom w.heap.size (fun pre W => Yp pre x W)) (hS : OwnFrom w.heap.size S) (hSp : OwnFrom w.heap.size Sp) (h0 : I [] w) (a₁ : α → Act)
    (hassign : ∀ (l : Nat) (x : α) (W : World) (K : Act → World → Prop), K (a₁ x) W →
      assign.wpIn (Fence.wide.inRound l) 0 P (Exit.then K (fun _ _ _ => False)) { tmps := (ps.zip (encs x)).foldl (fun t (p, v) => t.setIfInBounds p v) a.tmps, defers := [] } W)
    (hbody : ∀ (l : Nat) (pre : List α) (x : α) (W : World), I pre W → Yp pre x W → body.wpIn (Fence.wide.inRound l) 0 P (iterPost w.heap.size Kp I Ix (pre ++ [x]) W) (a₁ x) W)
    (hdone : ∀ (D : Nat) (xs : List α) (W : World), w.heap.size ≤ D → S xs W → I xs W → W.heap[D]? = some (.deferred (some [])) → Q .normal { a with defers := { target := .collected D, args := #[] } :: a.defers } W)
    (hstop : ∀ (D : Nat) (c : Code) (pre : List α) (W : World), w.heap.size ≤ D → Sp pre W → Ix c pre W → W.heap[D]? = some (.deferred (some [])) → c.wpIn Fence.wide 0 P Q { a with defers := { target := .collected D, args := #[] } :: a.defers } W) :
    (Code.rangeFunc g ps assign body).wpIn Fence.wide 0 P Q a w :=
  wp_rangeFunc_iterG hg eg hseq (fun A B h k o h1 h2 h3 _ => (hSt A B h).same k o h1 h2 h3) hP0 hKt hKb hps I Ix hI hIx hIs hIxs hY hS hSp h0 a₁ hassign hbody hdone hstop
/-- An iterator whose own steps turn block X alone; what a round keeps: blocks X and Bx. -/
def RStep (X : Nat) (A B : World) : Prop := A.grownBy B (some X)
def RKeep (X Bx : Nat) (A B : World) : Prop := B.heap[X]? = A.heap[X]? ∧ B.heap[Bx]? = A.heap[Bx]?
theorem wpIn_scope_wide {P : Program} {n : Nat} {Q : Exit → Act → World → Prop} {a : Act} {w : World} {c : Code} (h : c.wpIn Fence.wide n P (Exit.noGoto Q) a w) : (Code.scope c).wpIn Fence.wide n P Q a w :=
  wpIn_wide.2 (wp_scope_straight (wpIn_wide.1 h))
theorem grown_of_below {w w1 : World} (h : Below w.heap.size w w1) (row : Option Nat) : w.grownBy w1 row := ⟨h.os, h.tape, h.output, h.size, fun i hi _ => h.block i hi⟩
theorem grown_drew {w w1 : World} {row : Option Nat} (h : w.grownBy w1 row) : w.grownBy w1.drew row := ⟨h.os, h.tape, h.output, h.size, h.block⟩
theorem ownBlock_ne_row {W : World} {base : Nat} {e : TypeId} {size n : Nat} {v : Value} {xs : List Value} (hr : W.ownsRow base e size v n xs) {B : Nat} {row : Option Nat} (hrow : ∀ r, row = some r → B ≤ r ∧ ∃ o : Obj, W.heap[r]? = some o ∧ o.isCells = false) : v.ownBlock = none ∨ v.ownBlock ≠ row := by
  rcases hr.2 with ⟨rfl, _⟩ | ⟨g, cap, cur, rfl, _, hgb, _⟩
  · exact .inl rfl
  · refine .inr fun e' => ?_
    obtain ⟨_, o, ho, hc⟩ := hrow g (by simpa [Value.ownBlock] using e'.symm)
    rw [hgb] at ho; cases ho; cases hc
theorem ownBlock_ne_of_base {W : World} {base : Nat} {e : TypeId} {size n : Nat} {v : Value} {xs : List Value} (hr : W.ownsRow base e size v n xs) {X : Nat} (hX : X < base) : v.ownBlock = none ∨ v.ownBlock ≠ some X := by
  rcases hr.2 with ⟨rfl, _⟩ | ⟨g, cap, cur, rfl, hb, hgb, _⟩
  · exact .inl rfl
  · refine .inr fun e' => ?_
    have : g = X := by simpa [Value.ownBlock] using e'
    omega
theorem appended_other {W w1 : World} {B C : Nat} {v v' : Value} {tmp : Obj} (hgrow : (W.alloc tmp).grownBy w1 v.ownBlock) (hC : C < W.heap.size) (hCB : C ≠ B) (hne : some C ≠ v.ownBlock) : (w1.setCell ⟨B, 0, none⟩ v').heap[C]? = W.heap[C]? :=
  (Below.heap_setCell w1 _ v' C hCB).trans ((hgrow.block C (by simp; omega) hne).trans (Below.heap_alloc W tmp C hC))
theorem ownsRow_base {W : World} {base base' : Nat} {e : TypeId} {size n : Nat} {v : Value} {xs : List Value} (hr : W.ownsRow base e size v n xs) (h : base' ≤ base) : W.ownsRow base' e size v n xs := by
  refine ⟨hr.1, ?_⟩
  rcases hr.2 with h1 | ⟨g, cap, cur, h1, hb, h2⟩
  · exact .inl h1
  · exact .inr ⟨g, cap, cur, h1, by omega, h2⟩
end Go.Proofs.YtbcjhmeeonhmaaaDoor.H
end

-- Laid by a program of this session for this claim.
section
namespace Go.Proofs.YtbcjhmeeonhmaaaDoor.M
open Go.RowKit Go.Proofs.YtbcjhmeeonhmaaaDoorW.PrintWords Go.Proofs.YtbcjhmeeonhmaaaDoorW.PrintLast Go.Proofs.YtbcjhmeeonhmaaaDoorW.PrintMore
attribute [local go_sem] max2_int min2_int max_two min_two max_three min_three max_four min_four   -- for this text's walks alone
set_option linter.unusedVariables false
set_option linter.unusedSimpArgs false

/-! ### utf_head: function 87 -/
def utf_head.f (a0 : Int) : Option (Int × Int) := if a0 ≥ 248 then (some ((-1), 0)) else (if a0 ≥ 240 then (some (3, (a0 - 240) % 256)) else (if a0 ≥ 224 then (some (2, (a0 - 224) % 256)) else (if a0 ≥ 192 then (some (1, (a0 - 192) % 256)) else (if a0 ≥ 128 then (if a0 < 128 then (some (0, wrap64 (a0))) else (some ((-1), 0))) else (if a0 < 128 then (some (0, wrap64 (a0))) else (some ((-1), 0)))))))
set_option maxHeartbeats 8000000 in
set_option maxRecDepth 100000 in
theorem utf_head.calls (a0 : Int) (r1 : Int) (r2 : Int) (w : World) (h : utf_head.f a0 = some (r1, r2)) :
    Calls Tryd.prog 87 #[.int .u8 a0] w fun e w' => e = .returned (.tuple #[.int .i64 r1, .int .i64 r2]) ∧ Drawn0 w w' := by
  have H : (if a0 ≥ 248 then (some ((-1), 0)) else (if a0 ≥ 240 then (some (3, (a0 - 240) % 256)) else (if a0 ≥ 224 then (some (2, (a0 - 224) % 256)) else (if a0 ≥ 192 then (some (1, (a0 - 192) % 256)) else (if a0 ≥ 128 then (if a0 < 128 then (some (0, wrap64 (a0))) else (some ((-1), 0))) else (if a0 < 128 then (some (0, wrap64 (a0))) else (some ((-1), 0)))))))) = some (r1, r2) := h
  clear h
  by_cases c2 : a0 ≥ 248
  · rw [if_pos c2] at H
    have c2b0 : decide (248 ≤ a0) = true := decide_eq_true c2
    clear c2
    simp only [Option.some.injEq, Prod.mk.injEq] at H
    obtain ⟨rfl, rfl⟩ := H
    go_enter Tryd.func87, Tryd.ntmps87
    go_wp2
    go_ret2
    exact ⟨by first | rfl | (simp; done) | (simp [*]; done), by repeat (first | exact Drawn0.refl _ | apply Drawn0.step)⟩
  · rw [if_neg c2] at H
    have c2b0 : decide (248 ≤ a0) = false := decide_eq_false c2
    clear c2
    by_cases c3 : a0 ≥ 240
    · rw [if_pos c3] at H
      have c3b0 : decide (240 ≤ a0) = true := decide_eq_true c3
      clear c3
      simp only [Option.some.injEq, Prod.mk.injEq] at H
      obtain ⟨rfl, rfl⟩ := H
      go_enter Tryd.func87, Tryd.ntmps87
      go_wp2
      go_ret2
      exact ⟨by first | rfl | (simp; done) | (simp [*]; done), by repeat (first | exact Drawn0.refl _ | apply Drawn0.step)⟩
    · rw [if_neg c3] at H
      have c3b0 : decide (240 ≤ a0) = false := decide_eq_false c3
      clear c3
      by_cases c4 : a0 ≥ 224
      · rw [if_pos c4] at H
        have c4b0 : decide (224 ≤ a0) = true := decide_eq_true c4
        clear c4
        simp only [Option.some.injEq, Prod.mk.injEq] at H
        obtain ⟨rfl, rfl⟩ := H
        go_enter Tryd.func87, Tryd.ntmps87
        go_wp2
        go_ret2
        exact ⟨by first | rfl | (simp; done) | (simp [*]; done), by repeat (first | exact Drawn0.refl _ | apply Drawn0.step)⟩
      · rw [if_neg c4] at H
        have c4b0 : decide (224 ≤ a0) = false := decide_eq_false c4
        clear c4
        by_cases c5 : a0 ≥ 192
        · rw [if_pos c5] at H
          have c5b0 : decide (192 ≤ a0) = true := decide_eq_true c5
          clear c5
          simp only [Option.some.injEq, Prod.mk.injEq] at H
          obtain ⟨rfl, rfl⟩ := H
          go_enter Tryd.func87, Tryd.ntmps87
          go_wp2
          go_ret2
          exact ⟨by first | rfl | (simp; done) | (simp [*]; done), by repeat (first | exact Drawn0.refl _ | apply Drawn0.step)⟩
        · rw [if_neg c5] at H
          have c5b0 : decide (192 ≤ a0) = false := decide_eq_false c5
          clear c5
          by_cases c6 : a0 ≥ 128
          · rw [if_pos c6] at H
            have c6b0 : decide (128 ≤ a0) = true := decide_eq_true c6
            clear c6
            by_cases c7 : a0 < 128
            · rw [if_pos c7] at H
              have c7b0 : decide (a0 < 128) = true := decide_eq_true c7
              clear c7
              simp only [Option.some.injEq, Prod.mk.injEq] at H
              obtain ⟨rfl, rfl⟩ := H
              go_enter Tryd.func87, Tryd.ntmps87
              go_wp2
              go_ret2
              exact ⟨by first | rfl | (simp; done) | (simp [*]; done), by repeat (first | exact Drawn0.refl _ | apply Drawn0.step)⟩
            · rw [if_neg c7] at H
              have c7b0 : decide (a0 < 128) = false := decide_eq_false c7
              clear c7
              simp only [Option.some.injEq, Prod.mk.injEq] at H
              obtain ⟨rfl, rfl⟩ := H
              go_enter Tryd.func87, Tryd.ntmps87
              go_wp2
              go_ret2
              exact ⟨by first | rfl | (simp; done) | (simp [*]; done), by repeat (first | exact Drawn0.refl _ | apply Drawn0.step)⟩
          · rw [if_neg c6] at H
            have c6b0 : decide (128 ≤ a0) = false := decide_eq_false c6
            clear c6
            by_cases c8 : a0 < 128
            · rw [if_pos c8] at H
              have c8b0 : decide (a0 < 128) = true := decide_eq_true c8
              clear c8
              simp only [Option.some.injEq, Prod.mk.injEq] at H
              obtain ⟨rfl, rfl⟩ := H
              go_enter Tryd.func87, Tryd.ntmps87
              go_wp2
              go_ret2
              exact ⟨by first | rfl | (simp; done) | (simp [*]; done), by repeat (first | exact Drawn0.refl _ | apply Drawn0.step)⟩
            · rw [if_neg c8] at H
              have c8b0 : decide (a0 < 128) = false := decide_eq_false c8
              clear c8
              simp only [Option.some.injEq, Prod.mk.injEq] at H
              obtain ⟨rfl, rfl⟩ := H
              go_enter Tryd.func87, Tryd.ntmps87
              go_wp2
              go_ret2
              exact ⟨by first | rfl | (simp; done) | (simp [*]; done), by repeat (first | exact Drawn0.refl _ | apply Drawn0.step)⟩

end Go.Proofs.YtbcjhmeeonhmaaaDoor.M
end

section
set_option linter.unusedVariables false
namespace Go.Proofs.YtbcjhmeeonhmaaaDoor.H
open Go Go.RowKit

/-- One span holds r. -/
def inB (r lo hi : Int) : Bool := decide (lo ≤ r) && decide (r ≤ hi)

set_option maxHeartbeats 400000 in
theorem isIn1 (r lo hi : Int) (B : Nat) (w : World) (hc : w.cell? ⟨B, 0, none⟩ = some (.int .i64 r)) (hlo : -2147483648 ≤ lo ∧ lo ≤ 2147483647) (hhi : -2147483648 ≤ hi ∧ hi ≤ 2147483647) :
    Calls Tryd.prog 93 #[.agg #[.int .i32 lo, .int .i32 hi], .pointer (some ⟨B, 0, none⟩)] w fun e w' => e = .returned (.bool (inB r lo hi)) ∧ Below w.heap.size w w' := by
  have hb := World.block_lt_of_cell? w _ hc
  by_cases h1 : lo ≤ r
  · go_enter Tryd.func93, Tryd.ntmps93
    go_wp2
    go_ret
    exact ⟨ret_bool (by simp [inB, h1]), (Below.refl _ _).alloc (Nat.le_refl _) _⟩
  · go_enter Tryd.func93, Tryd.ntmps93
    go_wp2
    go_ret
    exact ⟨ret_bool (by have : decide (lo ≤ r) = false := by simpa using h1
                        simp [inB, this]), (Below.refl _ _).alloc (Nat.le_refl _) _⟩

def idxB (r : Int) : List (Int × Int) → Nat → Int
  | [], _ => -1
  | x :: t, k => if inB r x.1 x.2 = true then k else idxB r t (k + 1)
def anyB (r : Int) (xs : List (Int × Int)) : Bool := xs.any fun x => inB r x.1 x.2
theorem idxB_any (r : Int) (xs : List (Int × Int)) (k : Nat) : decide (0 ≤ idxB r xs k) = anyB r xs := by
  induction xs generalizing k with
  | nil => rfl
  | cons x t ih =>
    unfold idxB anyB
    simp only [List.any_cons]
    by_cases h : inB r x.1 x.2 = true
    · rw [if_pos h, h]; simp
    · rw [if_neg h]; simp only [Bool.not_eq_true] at h; rw [h]; simpa [anyB] using ih (k + 1)
def SpansAt (w : World) (b : Addr) (xs : List (Int × Int)) : Prop :=
  ∀ j (h : j < xs.length), w.cell? (b.add (j * 2)) = some (.int .i32 xs[j].1) ∧ w.cell? ⟨(b.add (j * 2)).block, (b.add (j * 2)).off + 1, none⟩ = some (.int .i32 xs[j].2)
def SpansOk (xs : List (Int × Int)) : Prop := ∀ x ∈ xs, (-2147483648 ≤ x.1 ∧ x.1 ≤ 2147483647) ∧ (-2147483648 ≤ x.2 ∧ x.2 ≤ 2147483647)
instance (xs : List (Int × Int)) : Decidable (SpansOk xs) := by unfold SpansOk; infer_instance
def RetI (n : Int) (w : World) (e : Ending) (w' : World) : Prop := e = .returned (.int .i64 n) ∧ Below w.heap.size w w'

set_option maxHeartbeats 400000 in
theorem indexFunc (r : Int) (xs : List (Int × Int)) (B : Nat) (b : Addr) (c : Nat) (w : World) (hc : w.cell? ⟨B, 0, none⟩ = some (.int .i64 r)) (hx : SpansAt w b xs) (hok : SpansOk xs) (hl : xs.length ≤ 1000) :
    Calls Tryd.prog 94 #[.slice (some b) xs.length c, .func (.func 93) #[] #[.pointer (some ⟨B, 0, none⟩)]] w
      (RetI (idxB r xs 0) w) := by
  have HX := Lib.hid hx
  have hbB := World.block_lt_of_cell? w _ hc
  clear hx
  go_enter Tryd.func94, Tryd.ntmps94
  go_wp2
  go_loopw [5, 8] (fun _ i wr => ∃ k : Nat, k ≤ xs.length ∧ i = .int .i64 k ∧ Hid (idxB r (xs.drop k) k = idxB r xs 0) ∧ Below w.heap.size w wr) (fun _ i _ => xs.length - (intOf i).toNat)
  case atStart => exact ⟨0, by omega, rfl, Lib.hid rfl, Below.refl _ _⟩
  case round =>
    obtain ⟨k, hk, rfl, hI, hB⟩ := hrel
    by_cases hlt : k < xs.length
    · have h12 := HX.out k hlt
      have c1 := celB hB h12.1
      have c2 := celB hB h12.2
      have c3 := (hB.cell (p := ⟨B, 0, none⟩) hbB).trans hc
      have o := hok xs[k] (List.getElem_mem _)
      have hd := List.drop_eq_getElem_cons hlt
      have hI2 : idxB r (xs.drop k) k = if inB r xs[k].1 xs[k].2 = true then (k : Int) else idxB r (xs.drop (k + 1)) (k + 1) := by rw [hd]; rfl
      have HI2 := Lib.hid hI2
      clear hI2 hd
      go_wp2_with fail
      refine (isIn1 r _ _ B wr c3 o.1 o.2).mono ?_
      rintro e w1 ⟨rfl, hb1⟩
      have hB1 : Below w.heap.size w w1 := hB.trans (hb1.mono hB.size)
      cases hin : inB r xs[k].1 xs[k].2
      · have HH := Lib.hid hin
        clear hin
        go_wp2
        go_roundw
        case rel => exact ⟨k + 1, by omega, by go_num, Lib.hid (by rw [← hI.out, HI2.out, HH.out]; rfl), hB1⟩
        case measure => simp [intOf]; omega
      · have HH := Lib.hid hin
        clear hin
        go_wp2
        go_ret
        exact ⟨by rw [← hI.out, HI2.out, HH.out]; rfl, hB1⟩
    · go_wp2
      go_ret
      exact ⟨by rw [← hI.out, List.drop_of_length_le (by omega)]; rfl, hB⟩

set_option maxHeartbeats 400000 in
theorem containsFunc (r : Int) (xs : List (Int × Int)) (B : Nat) (b : Addr) (c : Nat) (w : World) (hc : w.cell? ⟨B, 0, none⟩ = some (.int .i64 r)) (hx : SpansAt w b xs) (hok : SpansOk xs) (hl : xs.length ≤ 1000) :
    Calls Tryd.prog 92 #[.slice (some b) xs.length c, .func (.func 93) #[] #[.pointer (some ⟨B, 0, none⟩)]] w
      fun e w' => e = .returned (.bool (anyB r xs)) ∧ Below w.heap.size w w' := by
  go_enter Tryd.func92, Tryd.ntmps92
  go_wp2_with fail
  refine (indexFunc r xs B b c w hc hx hok hl).mono ?_
  rintro e w1 ⟨rfl, hb1⟩
  go_wp2
  go_ret
  exact ⟨ret_bool (by rw [← idxB_any r xs 0]), hb1⟩

theorem spansAt_below {w w1 : World} {b : Addr} {xs : List (Int × Int)} (h : SpansAt w b xs) (hb : Below w.heap.size w w1) : SpansAt w1 b xs := fun j hj => ⟨celB hb (h j hj).1, celB hb (h j hj).2⟩

set_option maxHeartbeats 400000 in
theorem isIn (r : Int) (xs : List (Int × Int)) (b : Addr) (c : Nat) (w : World) (hx : SpansAt w b xs) (hok : SpansOk xs) (hl : xs.length ≤ 1000) :
    Calls Tryd.prog 91 #[.int .i64 r, .slice (some b) xs.length c] w
      fun e w' => e = .returned (.bool (anyB r xs)) ∧ Below w.heap.size w w' := by
  have H2 := Lib.hid (spansAt_below hx (below_one w (.cells #[.int .i64 r] 3)))
  have H3 := Lib.hid (cel_new w #[.int .i64 r] 3 0 rfl)
  go_enter Tryd.func91, Tryd.ntmps91
  go_wp2_with fail
  refine (containsFunc r xs _ b c _ H3.out H2.out hok hl).mono ?_
  rintro e w1 ⟨rfl, hb1⟩
  go_wp2
  go_ret
  exact ⟨rfl, below_tr (below_one _ _) hb1⟩
end Go.Proofs.YtbcjhmeeonhmaaaDoor.H
end

-- Laid by a program of this session for this claim.
section
namespace Go.Proofs.YtbcjhmeeonhmaaaDoor.M
open Go.RowKit Go.Proofs.YtbcjhmeeonhmaaaDoorW.PrintWords Go.Proofs.YtbcjhmeeonhmaaaDoorW.PrintLast Go.Proofs.YtbcjhmeeonhmaaaDoorW.PrintMore
attribute [local go_sem] max2_int min2_int max_two min_two max_three min_three max_four min_four   -- for this text's walks alone
set_option linter.unusedVariables false
set_option linter.unusedSimpArgs false

/-! ### utf_isIn: function 91 -/
-- IMPORT Derived.Test.YtbcjhmeeonhmaaaDoorHUtf
def utf_isIn.f (a0 : Int) (l1 : List S174) : Option Bool := if (l1 ≠ [] ∧ l1.length ≤ 1000) ∧ H.SpansOk (l1.map fun x => (x.f0, x.f1)) then some (H.anyB a0 (l1.map fun x => (x.f0, x.f1))) else none
theorem utf_isIn.calls (a0 : Int) (A1 : Option Addr) (c1 : Nat) (l1 : List S174) (r : Bool) (w : World) (hr1 : Kd.C k174 w A1 l1.length l1) (hc1 : l1.length ≤ c1) (h : utf_isIn.f a0 l1 = some r) :
    Calls Tryd.prog 91 #[.int .i64 a0, .slice A1 l1.length c1] w fun e w' => e = .returned (.bool r) ∧ Below w.heap.size w w' := by
  unfold utf_isIn.f at h
  by_cases hh : (l1 ≠ [] ∧ l1.length ≤ 1000) ∧ H.SpansOk (l1.map fun x => (x.f0, x.f1))
  · rw [if_pos hh] at h
    obtain rfl := Option.some.inj h
    cases l1 with
    | nil => exact absurd rfl hh.1.1
    | cons x t =>
      obtain ⟨ad, e, _⟩ := at_T174 hr1 0 (by omega) (by simp)
      subst e
      have hs : H.SpansAt w ad ((x :: t).map fun x => (x.f0, x.f1)) := fun j hj => by
        have hj' : j < (x :: t).length := by simpa using hj
        obtain ⟨ad', e', h1, h2⟩ := at_T174 hr1 j (by omega) (by omega)
        obtain rfl := Option.some.inj e'
        have hg : rd_T174 (x :: t) (j : Int) = (x :: t)[j] := by unfold rd_T174; rw [Int.toNat_natCast, List.getD_eq_getElem?_getD, List.getElem?_eq_getElem hj']; rfl
        rw [hg, Int.toNat_natCast] at h1 h2
        rw [List.getElem_map]
        exact ⟨h1, h2⟩
      have := H.isIn a0 ((x :: t).map fun x => (x.f0, x.f1)) ad c1 w hs hh.2 (by rw [List.length_map]; exact hh.1.2)
      rw [List.length_map] at this
      exact this
  · rw [if_neg hh] at h
    cases h

end Go.Proofs.YtbcjhmeeonhmaaaDoor.M
end

-- Laid by a program of this session for this claim.
section
namespace Go.Proofs.YtbcjhmeeonhmaaaDoor.M
open Go.RowKit Go.Proofs.YtbcjhmeeonhmaaaDoorW.PrintWords Go.Proofs.YtbcjhmeeonhmaaaDoorW.PrintLast Go.Proofs.YtbcjhmeeonhmaaaDoorW.PrintMore
attribute [local go_sem] max2_int min2_int max_two min_two max_three min_three max_four min_four   -- for this text's walks alone
set_option linter.unusedVariables false
set_option linter.unusedSimpArgs false

/-! ### utf_isRune: function 90 -/
def utf_isRune.f (a0 : Int) : Option (Bool) := (utf_isIn.f a0 (([(⟨0, 55295⟩ : S174), (⟨57344, 1114111⟩ : S174)] : List (S174)))).bind fun t108 => (some t108)
set_option maxHeartbeats 8000000 in
set_option maxRecDepth 100000 in
theorem utf_isRune.calls (a0 : Int) (r : Bool) (w : World) (h : utf_isRune.f a0 = some r) :
    Calls Tryd.prog 90 #[.int .i64 a0] w fun e w' => e = .returned (.bool r) ∧ Below w.heap.size w w' := by
  have hu174 := Tryd.underlying174
  have HB := Aside0.mk (Below.refl w.heap.size w)
  have H : ((utf_isIn.f a0 (([(⟨0, 55295⟩ : S174), (⟨57344, 1114111⟩ : S174)] : List (S174)))).bind fun t108 => (some t108)) = some r := h
  clear h
  obtain ⟨y105, hy105⟩ : ∃ y_ : List (S174), y_ = (([(⟨0, 55295⟩ : S174), (⟨57344, 1114111⟩ : S174)] : List (S174))) := ⟨_, rfl⟩
  replace H : ((utf_isIn.f a0 y105).bind fun t108 => (some t108)) = some r := by first | (rw [hy105]; with_reducible exact H) | (have H2_ := (Option.bind_some _ _).symm.trans H; rw [hy105]; with_reducible exact H2_) | (have H2_ := (Option.bind_some _ _).symm.trans H; with_reducible exact H2_) | with_reducible exact H | (rw [hy105]; exact H) | exact H
  have Ny105 := Aside0.mk hy105
  clear hy105
  replace H := Option.bind_eq_some_iff.mp H
  obtain ⟨t108, A20, H⟩ := H
  replace H : (some t108) = some r := H
  have A2 := Aside0.mk A20
  clear A20
  obtain rfl := Option.some.inj H
  go_enter Tryd.func90, Tryd.ntmps90
  go_wp2_with (first | ((with_reducible refine gate_dst (N := 6) rfl ?_); refine Kd.R_lit k174 _ 174 ?hg (N := 6) ?hd (xs := ([(⟨0, 55295⟩ : S174), (⟨57344, 1114111⟩ : S174)] : List (S174))) (inner := [.int .i32 0, .int .i32 55295, .int .i32 57344, .int .i32 1114111]) (ok := fun _ => True) (okp := fun _ => True) ?hr ?hp (fun _ hk => hk) trivial (Below.refl _ _) (Nat.le_refl _) (by simp) ?_; (case hd => rfl); (case hg => rfl); (case hr => first | (go_simp; done) | (go_simp; rfl)); (case hp => exact (Reps.c2 (show Kd.M k174 _ _ _ (⟨0, 55295⟩ : S174) [.int .i32 0, .int .i32 55295] from (k174_mkM _ _ _ (⟨0, 55295⟩ : S174) )) (Reps.c2 (show Kd.M k174 _ _ _ (⟨57344, 1114111⟩ : S174) [.int .i32 57344, .int .i32 1114111] from (k174_mkM _ _ _ (⟨57344, 1114111⟩ : S174) )) (Reps.none _ _)))); intro v106 w3 ho4 hb hg_ hnew_; clear hg_ hnew_; (first | rw [← Ny105.out] at ho4 | (simp only [Int.reduceToNat] at ho4; rw [← Ny105.out] at ho4)); have n0_ := Aside0.mk (Kd.R_lower ho4 (below_size (by repeat (first | (with_reducible first | exact HB.out | apply below_alloc | apply pw_below_drewN | apply below_drew1) | exact HB.out)))); have n1_ := Aside0.mk (below_step (by repeat (first | (with_reducible first | exact HB.out | apply below_alloc | apply pw_below_drewN | apply below_drew1) | exact HB.out)) hb); clear HB; have HO107 := n0_; have HB := n1_; clear n0_ n1_; clear hb ho4; obtain ⟨Ao5, co5, eo5⟩ := Kd.R_slice HO107.out; subst eo5) | ((with_reducible refine gate_callee (f := 91) rfl ?_); refine goesL_ (some 7) rfl rfl Tryd.func91 (by kernel_rfl) rfl #[.int .i64 a0, .slice Ao5 y105.length co5] rfl (by (try simp only [List.map_toArray, List.map_cons, List.map_nil]); first | done | rfl | (simp only [List.length_drop, List.length_take]; rfl)) ?_; (with_reducible refine (utf_isIn.calls a0 _ _ y105 t108 _ ?side1 ?side2 A2.out).mono ?_); (case side1 => repeat (first | exact (Kd.R_reads' HO107.out).2.2 | (with_reducible refine Kd.C_alloc ?_ _) | (with_reducible refine Kd.C_drewN ?_ _) | (with_reducible refine Kd.C_drew ?_))); (case side2 => exact (Kd.R_reads' HO107.out).2.1); rintro e w6 ⟨rfl, hb⟩; refine ⟨_, rfl, ?_⟩; have n0_ := Aside0.mk (Kd.R_below (by (with_reducible repeat (first | apply Kd.R_alloc | apply Kd.R_drewN | apply Kd.R_drew)); exact HO107.out) hb); have n1_ := Aside0.mk (below_step (by repeat (first | (with_reducible first | exact HB.out | apply below_alloc | apply pw_below_drewN | apply below_drew1) | exact HB.out)) hb); clear HO107; clear HB; have HO107 := n0_; have HB := n1_; clear n0_ n1_; (try clear hb); (try clear hb2); (try clear hk); (try clear hi)))
  go_ret
  exact ⟨by first | rfl | (simp [errW_none, errW_some] <;> rfl) | (simp [*, errW_none, errW_some] <;> rfl), by repeat (first | (with_reducible first | exact HB.out | apply below_alloc | apply pw_below_drewN | apply below_drew1) | exact HB.out)⟩

end Go.Proofs.YtbcjhmeeonhmaaaDoor.M
end

-- Laid by a program of this session for this claim.
section
namespace Go.Proofs.YtbcjhmeeonhmaaaDoor.M
open Go.RowKit Go.Proofs.YtbcjhmeeonhmaaaDoorW.PrintWords Go.Proofs.YtbcjhmeeonhmaaaDoorW.PrintLast Go.Proofs.YtbcjhmeeonhmaaaDoorW.PrintMore
attribute [local go_sem] max2_int min2_int max_two min_two max_three min_three max_four min_four   -- for this text's walks alone
set_option linter.unusedVariables false
set_option linter.unusedSimpArgs false

/-! ### utf_Encode: function 88 -/
mutual
def utf_Encode.j0 : Nat → Int → Int → Int → Option (ByteArray × Int)
  | 0, _, _, _ => none
  | k + 1, x0, x4, x5 => if 0 ≤ x5 then (utf_Encode.l0 k x0 x5 (([(Go.bits .or .i64 x4 (shr .i64 x0 x5)) % 256] : List Int))) else (none)
def utf_Encode.l0 : Nat → Int → Int → List Int → Option (ByteArray × Int)
  | 0, _, _, _ => none
  | k + 1, x0, x5, x6 => if x5 > 0 then (if 0 ≤ (wrap64 (x5 - 6)) then (if x6.length < 140737488355328 then (utf_Encode.l0 k x0 (wrap64 (x5 - 6)) (x6 ++ [(Go.bits .or .i64 128 (Go.bits .and .i64 (shr .i64 x0 (wrap64 (x5 - 6))) 63)) % 256])) else (none)) else (none)) else (some (strOfNums x6, 0))
end
def utf_Encode.f (k : Nat) (a0 : Int) : Option (ByteArray × Int) := (utf_isRune.f a0).bind fun t109 => (if t109 = true then (if a0 ≥ 65536 then (utf_Encode.j0 k a0 240 18) else (if a0 ≥ 2048 then (utf_Encode.j0 k a0 224 12) else (if a0 ≥ 128 then (utf_Encode.j0 k a0 192 6) else (utf_Encode.j0 k a0 0 0)))) else (some ((⟨#[]⟩ : ByteArray), 20)))
set_option maxHeartbeats 8000000 in
set_option maxRecDepth 100000 in
theorem utf_Encode.calls (k : Nat) (a0 : Int) (r1 : ByteArray) (r2 : Int) (w : World) (h : utf_Encode.f k a0 = some (r1, r2)) :
    Calls Tryd.prog 88 #[.int .i64 a0] w fun e w' => e = .returned (.tuple #[.string r1, .int .i64 r2]) ∧ Below w.heap.size w w' := by
  have HB := Aside0.mk (Below.refl w.heap.size w)
  have H : ((utf_isRune.f a0).bind fun t109 => (if t109 = true then (if a0 ≥ 65536 then (utf_Encode.j0 k a0 240 18) else (if a0 ≥ 2048 then (utf_Encode.j0 k a0 224 12) else (if a0 ≥ 128 then (utf_Encode.j0 k a0 192 6) else (utf_Encode.j0 k a0 0 0)))) else (some ((⟨#[]⟩ : ByteArray), 20)))) = some (r1, r2) := h
  clear h
  replace H := Option.bind_eq_some_iff.mp H
  obtain ⟨t109, A20, H⟩ := H
  replace H : (if t109 = true then (if a0 ≥ 65536 then (utf_Encode.j0 k a0 240 18) else (if a0 ≥ 2048 then (utf_Encode.j0 k a0 224 12) else (if a0 ≥ 128 then (utf_Encode.j0 k a0 192 6) else (utf_Encode.j0 k a0 0 0)))) else (some ((⟨#[]⟩ : ByteArray), 20))) = some (r1, r2) := H
  have A2 := Aside0.mk A20
  clear A20
  by_cases c3 : t109 = true
  · subst c3
    have H1 : (if a0 ≥ 65536 then (utf_Encode.j0 k a0 240 18) else (if a0 ≥ 2048 then (utf_Encode.j0 k a0 224 12) else (if a0 ≥ 128 then (utf_Encode.j0 k a0 192 6) else (utf_Encode.j0 k a0 0 0)))) = some (r1, r2) := by rw [if_pos rfl] at H; exact H
    clear H
    have H := H1
    clear H1
    have HC4 := Aside0.mk H
    clear H
    go_enter Tryd.func88, Tryd.ntmps88
    go_upto_block 0 with (first | ((with_reducible refine gate_callee (f := 90) rfl ?_); refine goesL_ (some 8) rfl rfl Tryd.func90 (by kernel_rfl) rfl #[.int .i64 a0] rfl (by (try simp only [List.map_toArray, List.map_cons, List.map_nil]); first | done | rfl | (simp only [List.length_drop, List.length_take]; rfl)) ?_; (with_reducible refine (utf_isRune.calls a0 true _ A2.out).mono ?_); rintro e w5 ⟨rfl, hb⟩; refine ⟨_, rfl, ?_⟩; have n0_ := Aside0.mk (below_step (by repeat (first | (with_reducible first | exact HB.out | apply below_alloc | apply pw_below_drewN | apply below_drew1) | exact HB.out)) hb); clear HB; have HB := n0_; clear n0_; (try clear hb); (try clear hb2); (try clear hk); (try clear hi)))
    (try simp only [Act.put, List.setIfInBounds_toArray, List.set_cons_zero, List.set_cons_succ])
    go_cut [4, 5] (fun v4 v5 wc => ∃ (kq : Nat) (x4_3 : Int) (x5_3 : Int), v4 = .int .i64 x4_3 ∧ v5 = .int .i64 x5_3 ∧ Aside0 (utf_Encode.j0 kq a0 x4_3 x5_3 = some (r1, r2)) ∧ Aside0 (kq ≤ k) ∧ Aside0 (Below w.heap.size w wc))
    case first =>
      have H := HC4.out
      clear HC4
      by_cases c6 : a0 ≥ 65536
      · rw [if_pos c6] at H
        have c6b0 : decide (65536 ≤ a0) = true := decide_eq_true c6
        clear c6
        (first | rw [c6b0] | (simp only [i64_w, i32_w]; rw [c6b0]) | skip)
        have H' := Aside0.mk H
        clear H
        go_wp2
        go_meet
        case rel => exact ⟨_, (240), (18), (by first | rfl | (simp; done) | (simp [*]; done)), (by first | rfl | (simp; done) | (simp [*]; done)), H', ⟨by first | omega | exact Nat.le_refl _⟩, ⟨by repeat (first | (with_reducible first | exact HB.out | apply below_alloc | apply pw_below_drewN | apply below_drew1) | exact HB.out)⟩⟩
      · rw [if_neg c6] at H
        have c6b0 : decide (65536 ≤ a0) = false := decide_eq_false c6
        clear c6
        (first | rw [c6b0] | (simp only [i64_w, i32_w]; rw [c6b0]) | skip)
        by_cases c7 : a0 ≥ 2048
        · rw [if_pos c7] at H
          have c7b0 : decide (2048 ≤ a0) = true := decide_eq_true c7
          clear c7
          have H' := Aside0.mk H
          clear H
          go_wp2
          go_meet
          case rel => exact ⟨_, (224), (12), (by first | rfl | (simp; done) | (simp [*]; done)), (by first | rfl | (simp; done) | (simp [*]; done)), H', ⟨by first | omega | exact Nat.le_refl _⟩, ⟨by repeat (first | (with_reducible first | exact HB.out | apply below_alloc | apply pw_below_drewN | apply below_drew1) | exact HB.out)⟩⟩
        · rw [if_neg c7] at H
          have c7b0 : decide (2048 ≤ a0) = false := decide_eq_false c7
          clear c7
          by_cases c8 : a0 ≥ 128
          · rw [if_pos c8] at H
            have c8b0 : decide (128 ≤ a0) = true := decide_eq_true c8
            clear c8
            have H' := Aside0.mk H
            clear H
            go_wp2
            go_meet
            case rel => exact ⟨_, (192), (6), (by first | rfl | (simp; done) | (simp [*]; done)), (by first | rfl | (simp; done) | (simp [*]; done)), H', ⟨by first | omega | exact Nat.le_refl _⟩, ⟨by repeat (first | (with_reducible first | exact HB.out | apply below_alloc | apply pw_below_drewN | apply below_drew1) | exact HB.out)⟩⟩
          · rw [if_neg c8] at H
            have c8b0 : decide (128 ≤ a0) = false := decide_eq_false c8
            clear c8
            have H' := Aside0.mk H
            clear H
            go_wp2
            go_meet
            case rel => exact ⟨_, (0), (0), (by first | rfl | (simp; done) | (simp [*]; done)), (by first | rfl | (simp; done) | (simp [*]; done)), H', ⟨by first | omega | exact Nat.le_refl _⟩, ⟨by repeat (first | (with_reducible first | exact HB.out | apply below_alloc | apply pw_below_drewN | apply below_drew1) | exact HB.out)⟩⟩
    case rest =>
      clear HC4
      try clear p2
      try clear c3
      try clear c6
      try clear c6b0
      try clear c7
      try clear c7b0
      try clear c8
      try clear c8b0
      obtain ⟨kq, x4_3, x5_3, rfl, rfl, HA, HJ3, HB⟩ := hcut
      cases kq with
      | zero => exact absurd HA.out (by simp [utf_Encode.j0])
      | succ kj3 =>
        have H := HA.out
        clear HA
        simp only [utf_Encode.j0] at H
        by_cases c9 : 0 ≤ x5_3
        · rw [if_pos c9] at H
          have c9b0 := eq_true c9
          have c9b1 : decide (0 ≤ x5_3) = true := decide_eq_true c9
          clear c9
          obtain ⟨ji10, hji10⟩ : ∃ j_ : Int, (shr .i64 a0 x5_3) = j_ := ⟨_, rfl⟩
          replace H : (utf_Encode.l0 kj3 a0 x5_3 (([(Go.bits .or .i64 x4_3 (ji10)) % 256] : List Int))) = some (r1, r2) := by first | (rw [hji10] at H; exact H) | (simp only [hji10] at H ⊢; exact H)
          have hji10_ : (a0 / 2 ^ min x5_3.toNat 64) = ji10 := hji10
          have hji10z : x5_3 ≤ 64 → (a0 / 2 ^ x5_3.toNat) = ji10 := shr_small hji10
          obtain ⟨y110, hy110⟩ : ∃ y_ : List Int, y_ = (([(Go.bits .or .i64 x4_3 (ji10)) % 256] : List Int)) := ⟨_, rfl⟩
          replace H : (utf_Encode.l0 kj3 a0 x5_3 y110) = some (r1, r2) := by first | (rw [hy110]; with_reducible exact H) | (have H2_ := (Option.bind_some _ _).symm.trans H; rw [hy110]; with_reducible exact H2_) | (have H2_ := (Option.bind_some _ _).symm.trans H; with_reducible exact H2_) | with_reducible exact H | (rw [hy110]; exact H) | exact H
          have Ny110 := Aside0.mk hy110
          clear hy110
          have H' := Aside0.mk H
          clear H
          go_wp2_with (first | ((with_reducible refine gate_dst (N := 25) rfl ?_); refine Kd.R_lit (Kd.int .u8) _ 5 ?hg (N := 25) ?hd (xs := ([(Go.bits .or .i64 x4_3 (ji10)) % 256] : List Int)) (inner := [.int .u8 ((Go.bits .or .i64 x4_3 (ji10)) % 256)]) (ok := fun _ => True) (okp := fun _ => True) ?hr ?hp (fun _ hk => hk) trivial (Below.refl _ _) (Nat.le_refl _) (by simp) ?_; (case hd => rfl); (case hg => rfl); (case hr => first | (go_simp; done) | (go_simp; rfl)); (case hp => exact (Reps.one (show Kd.M (Kd.int .u8) _ _ _ ((Go.bits .or .i64 x4_3 (ji10)) % 256) [.int .u8 ((Go.bits .or .i64 x4_3 (ji10)) % 256)] from rfl) (Reps.none _ _))); intro v111 w11 ho12 hb hg_ hnew_; clear hg_ hnew_; (first | rw [← Ny110.out] at ho12 | (simp only [Int.reduceToNat] at ho12; rw [← Ny110.out] at ho12)); have n0_ := Aside0.mk (Kd.R_lower ho12 (below_size (by repeat (first | (with_reducible first | exact HB.out | apply below_alloc | apply pw_below_drewN | apply below_drew1) | exact HB.out)))); have n1_ := Aside0.mk (below_step (by repeat (first | (with_reducible first | exact HB.out | apply below_alloc | apply pw_below_drewN | apply below_drew1) | exact HB.out)) hb); clear HB; have HO112 := n0_; have HB := n1_; clear n0_ n1_; clear hb ho12))
          go_loopg [5, 6] kj3 (fun kq v5 v6 w' => ∃ (x5_2 : Int) (x6_2 : List Int), v5 = .int .i64 x5_2 ∧ Aside0 (utf_Encode.l0 kq a0 x5_2 x6_2 = some (r1, r2)) ∧ Aside0 (kq ≤ kj3) ∧ Aside0 (Kd.R (Kd.int .u8) 5 w' w.heap.size (fun _ => True) v6 x6_2) ∧ Aside0 (Below w.heap.size w w'))
          case atStart => exact ⟨(x5_3), (y110), (by first | rfl | (simp; done) | (simp [*]; done)), H', ⟨Nat.le_refl _⟩, ⟨by (with_reducible repeat (first | apply Kd.R_alloc | apply Kd.R_drewN | apply Kd.R_drew)); exact HO112.out⟩, ⟨by repeat (first | (with_reducible first | exact HB.out | apply below_alloc | apply pw_below_drewN | apply below_drew1) | exact HB.out)⟩⟩
          case round =>
            clear H'
            try clear p2
            try clear c3
            try clear c6
            try clear c6b0
            try clear c7
            try clear c7b0
            try clear c8
            try clear c8b0
            try clear c9
            try clear c9b0
            try clear c9b1
            try clear p2
            obtain ⟨x5_2, x6_2, rfl, HA, HK2, HO_6, HB⟩ := hrel
            cases gk with
            | zero => exact absurd HA.out (by simp [utf_Encode.l0])
            | succ k2 =>
              have H := HA.out
              clear HA
              simp only [utf_Encode.l0] at H
              by_cases c13 : x5_2 > 0
              · rw [if_pos c13] at H
                have c13b0 : decide (0 < x5_2) = true := decide_eq_true c13
                clear c13
                obtain ⟨ji14, hji14⟩ : ∃ j_ : Int, (wrap64 (x5_2 - 6)) = j_ := ⟨_, rfl⟩
                replace H : (if 0 ≤ (ji14) then (if x6_2.length < 140737488355328 then (utf_Encode.l0 k2 a0 ji14 (x6_2 ++ [(Go.bits .or .i64 128 (Go.bits .and .i64 (shr .i64 a0 (ji14)) 63)) % 256])) else (none)) else (none)) = some (r1, r2) := by first | (rw [hji14] at H; exact H) | (simp only [hji14] at H ⊢; exact H)
                have hji14w : (IntKind.i64.wrap (x5_2 - 6)) = ji14 := (i64_w _).trans hji14
                by_cases c15 : 0 ≤ (ji14)
                · rw [if_pos c15] at H
                  have c15b0 := eq_true c15
                  have c15b1 : decide (0 ≤ (ji14)) = true := decide_eq_true c15
                  clear c15
                  obtain ⟨ji16, hji16⟩ : ∃ j_ : Int, (shr .i64 a0 (ji14)) = j_ := ⟨_, rfl⟩
                  replace H : (if x6_2.length < 140737488355328 then (utf_Encode.l0 k2 a0 ji14 (x6_2 ++ [(Go.bits .or .i64 128 (Go.bits .and .i64 (ji16) 63)) % 256])) else (none)) = some (r1, r2) := by first | (rw [hji16] at H; exact H) | (simp only [hji16] at H ⊢; exact H)
                  have hji16_ : (a0 / 2 ^ min (ji14).toNat 64) = ji16 := hji16
                  have hji16z : (ji14) ≤ 64 → (a0 / 2 ^ (ji14).toNat) = ji16 := shr_small hji16
                  by_cases c17 : x6_2.length < 140737488355328
                  · rw [if_pos c17] at H
                    have LMc17 := Aside0.mk c17
                    clear c17
                    obtain ⟨y113, hy113⟩ : ∃ y_ : List Int, y_ = (x6_2 ++ [(Go.bits .or .i64 128 (Go.bits .and .i64 (ji16) 63)) % 256]) := ⟨_, rfl⟩
                    replace H : (utf_Encode.l0 k2 a0 ji14 y113) = some (r1, r2) := by first | (rw [hy113]; with_reducible exact H) | (have H2_ := (Option.bind_some _ _).symm.trans H; rw [hy113]; with_reducible exact H2_) | (have H2_ := (Option.bind_some _ _).symm.trans H; with_reducible exact H2_) | with_reducible exact H | (rw [hy113]; exact H) | exact H
                    have Ny113 := Aside0.mk hy113
                    clear hy113
                    have H' := Aside0.mk H
                    clear H
                    go_wp2_with (first | ((with_reducible refine gate_builtin (b := .append) (xs := #[.tmp 30, .tmp 37]) rfl ?_); at_builtin; refine Kd.R_append (Kd.int .u8) (w0 := w) w.heap.size rfl (.tmp 30) (.tmp 37) 59 5 (.int .u8 0) 1 rfl Tryd.underlying59 info5 rfl (by decide) (by omega) u6 x6_2 ((Go.bits .or .i64 128 (Go.bits .and .i64 (ji16) 63)) % 256) [.int .u8 ((Go.bits .or .i64 128 (Go.bits .and .i64 (ji16) 63)) % 256)] (fun _ => True) (fun _ => False) rfl rfl ?aP (fun _ hk => hk.elim) ?aF ?aO ?aB ?aS ?aL ?_; (case aP => exact rfl); (case aB => exact (by repeat (first | (with_reducible first | exact HB.out | apply below_alloc | apply pw_below_drewN | apply below_drew1) | exact HB.out))); (case aF => exact (fun _ _ => trivial)); (case aO => exact (by (with_reducible repeat (first | apply Kd.R_alloc | apply Kd.R_drewN | apply Kd.R_drew)); exact HO_6.out)); (case aS => exact (below_size (by repeat (first | (with_reducible first | exact HB.out | apply below_alloc | apply pw_below_drewN | apply below_drew1) | exact HB.out)))); (case aL => have := LMc17.out; omega); intro v114 w18 ho hb hg hat; rw [← Ny113.out] at ho; have n0_ := Aside0.mk (hb); have n1_ := Aside0.mk (ho); clear HB; clear HO_6; have HB := n0_; have HO115 := n1_; clear n0_ n1_; clear ho hb hg hat))
                    go_roundg k2
                    case measure => have := HJ3.out; have := HK2.out; omega
                    case rel => exact ⟨(ji14), (y113), (by first | rfl | (simp; done) | (simp only [← hji14] <;> (first | rfl | simp)) | (simp [*]; done)), H', ⟨by have := HJ3.out; have := HK2.out; omega⟩, ⟨by (with_reducible repeat (first | apply Kd.R_alloc | apply Kd.R_drewN | apply Kd.R_drew)); exact HO115.out⟩, ⟨by repeat (first | (with_reducible first | exact HB.out | apply below_alloc | apply pw_below_drewN | apply below_drew1) | exact HB.out)⟩⟩
                  · rw [if_neg c17] at H
                    exact absurd H (by simp)
                · rw [if_neg c15] at H
                  exact absurd H (by simp)
              · rw [if_neg c13] at H
                have c13b0 : decide (0 < x5_2) = false := decide_eq_false c13
                clear c13
                simp only [Option.some.injEq, Prod.mk.injEq] at H
                obtain ⟨rfl, rfl⟩ := H
                have hcv19 := own_string (P := Tryd.prog) Tryd.underlying59 Tryd.underlying5 Tryd.underlying9 (Kd.own_of_R HO_6.out)
                go_wp2
                go_ret2
                exact ⟨by first | rfl | (simp [errW_none, errW_some] <;> rfl) | (simp only [← hji10]; first | rfl | (simp [errW_none, errW_some] <;> rfl)) | (simp [*, errW_none, errW_some] <;> rfl), by repeat (first | (with_reducible first | exact HB.out | apply below_alloc | apply pw_below_drewN | apply below_drew1) | exact HB.out)⟩
        · rw [if_neg c9] at H
          exact absurd H (by simp)
  · replace c3 := Bool.eq_false_iff.mpr c3
    subst c3
    have H1 : (some ((⟨#[]⟩ : ByteArray), 20)) = some (r1, r2) := by rw [if_neg (show ¬ (false = true) by decide)] at H; exact H
    clear H
    have H := H1
    clear H1
    simp only [Option.some.injEq, Prod.mk.injEq] at H
    obtain ⟨rfl, rfl⟩ := H
    go_enter Tryd.func88, Tryd.ntmps88
    go_wp2_with (first | ((with_reducible refine gate_callee (f := 90) rfl ?_); refine goesL_ (some 8) rfl rfl Tryd.func90 (by kernel_rfl) rfl #[.int .i64 a0] rfl (by (try simp only [List.map_toArray, List.map_cons, List.map_nil]); first | done | rfl | (simp only [List.length_drop, List.length_take]; rfl)) ?_; (with_reducible refine (utf_isRune.calls a0 false _ A2.out).mono ?_); rintro e w20 ⟨rfl, hb⟩; refine ⟨_, rfl, ?_⟩; have n0_ := Aside0.mk (below_step (by repeat (first | (with_reducible first | exact HB.out | apply below_alloc | apply pw_below_drewN | apply below_drew1) | exact HB.out)) hb); clear HB; have HB := n0_; clear n0_; (try clear hb); (try clear hb2); (try clear hk); (try clear hi)))
    go_ret2
    exact ⟨by first | rfl | (simp [errW_none, errW_some] <;> rfl) | (simp [*, errW_none, errW_some] <;> rfl), by repeat (first | (with_reducible first | exact HB.out | apply below_alloc | apply pw_below_drewN | apply below_drew1) | exact HB.out)⟩

end Go.Proofs.YtbcjhmeeonhmaaaDoor.M
end

section
set_option linter.unusedVariables false
namespace Go.Proofs.YtbcjhmeeonhmaaaDoor.H
open Go Go.RowKit Go.Proofs.YtbcjhmeeonhmaaaDoorW.PrintWords Go.Proofs.YtbcjhmeeonhmaaaDoorW.PrintMore Go.Proofs.YtbcjhmeeonhmaaaDoor.M

/-- Is a number a rune? -/
def isR (r : Int) : Bool := (decide (0 ≤ r) && decide (r ≤ 55295)) || (decide (57344 ≤ r) && decide (r ≤ 1114111))
/-- A rune's bytes. -/
def encL (r : Int) : List Int :=
  if r < 128 then [r] else if r < 2048 then [192 + r / 64, 128 + r % 64]
  else if r < 65536 then [224 + r / 4096, 128 + r / 64 % 64, 128 + r % 64] else [240 + r / 262144, 128 + r / 4096 % 64, 128 + r / 64 % 64, 128 + r % 64]
/-- A rune's bytes, and 0; or nothing, and 20. -/
def encS (r : Int) : ByteArray × Int := if isR r = true then (strOfNums (encL r), 0) else (⟨#[]⟩, 20)

theorem wrap_i64s (n : Int) (h₀ : 0 ≤ n) (h₁ : n < 2 ^ 62) : IntKind.i64.wrap n = n := by rw [IntKind.wrap_i64]; omega
theorem orJ (i : Nat) (x y : Int) (h0 : 0 ≤ x) (hx : x % 2 ^ i = 0) (h1 : x < 2 ^ 62) (h2 : 0 ≤ y) (h3 : y < 2 ^ i) (h4 : y < 2 ^ 62) : bits .or .i64 x y = x + y :=
  bits_join .i64 62 (by decide) wrap_i64s i x y h0 hx h1 h2 h3 h4
theorem or128 (y : Int) (h₀ : 0 ≤ y) (h₁ : y < 64) : bits .or .i64 128 y = 128 + y := orJ 6 128 y (by decide) (by decide) (by decide) h₀ h₁ (by omega)
theorem or192 (y : Int) (h₀ : 0 ≤ y) (h₁ : y < 64) : bits .or .i64 192 y = 192 + y := orJ 6 192 y (by decide) (by decide) (by decide) h₀ h₁ (by omega)
theorem or224 (y : Int) (h₀ : 0 ≤ y) (h₁ : y < 32) : bits .or .i64 224 y = 224 + y := orJ 5 224 y (by decide) (by decide) (by decide) h₀ h₁ (by omega)
theorem or240 (y : Int) (h₀ : 0 ≤ y) (h₁ : y < 16) : bits .or .i64 240 y = 240 + y := orJ 4 240 y (by decide) (by decide) (by decide) h₀ h₁ (by omega)
theorem or0 (y : Int) (h₀ : 0 ≤ y) (h₁ : y < 256) : bits .or .i64 0 y = y := by rw [orJ 8 0 y (by decide) (by decide) (by decide) h₀ h₁ (by omega)]; omega
theorem and63 (x : Int) (h₀ : 0 ≤ x) (h₁ : x < 4611686018427387904) : bits .and .i64 x 63 = x % 64 := bits_mask .i64 62 (by decide) wrap_i64s 6 (by decide) x h₀ h₁
theorem or64 (x y : Int) (hx : 0 ≤ x) (hx' : x < 33554432) (h₀ : 0 ≤ y) (h₁ : y < 64) : bits .or .i64 (x * 64) y = x * 64 + y := orJ 6 _ y (by omega) (by omega) (by omega) h₀ h₁ (by omega)
theorem shr0 (x : Int) : shr .i64 x 0 = x := by simp [shr]
theorem shr6 (x : Int) : shr .i64 x 6 = x / 64 := by simp [shr, IntKind.bits]
theorem shr12 (x : Int) : shr .i64 x 12 = x / 4096 := by simp [shr, IntKind.bits]
theorem shr18 (x : Int) : shr .i64 x 18 = x / 262144 := by simp [shr, IntKind.bits]
theorem m256 (x : Int) (h0 : 0 ≤ x) (h1 : x < 256) : x % 256 = x := Int.emod_eq_of_lt h0 h1
theorem wrap18 : wrap64 (18 - 6) = 12 := by unfold wrap64; omega
theorem wrap12 : wrap64 (12 - 6) = 6 := by unfold wrap64; omega
theorem wrap6 : wrap64 (6 - 6) = 0 := by unfold wrap64; omega

theorem isRune_f (r : Int) : utf_isRune.f r = some (isR r) := by
  have h : H.SpansOk [(0, 55295), (57344, 1114111)] := by decide
  simp [utf_isRune.f, utf_isIn.f, h, anyB, inB, isR]

theorem encode_f (r : Int) : utf_Encode.f 10 r = some (encS r) := by
  unfold utf_Encode.f encS
  rw [isRune_f]
  simp only [Option.bind_some]
  cases hr : isR r
  · rfl
  · have hb : 0 ≤ r ∧ r ≤ 1114111 := by simp [isR] at hr; omega
    rw [if_pos rfl, if_pos rfl]
    unfold encL
    by_cases h1 : r ≥ 65536
    · rw [if_pos h1, if_neg (by omega), if_neg (by omega), if_neg (by omega)]
      simp only [utf_Encode.j0, utf_Encode.l0, wrap18, wrap12, wrap6, shr18, shr12, shr6, shr0]
      simp (config := { decide := true }) only [if_true, if_false, List.length_append, List.length_cons, List.length_nil]
      rw [or240 _ (by omega) (by omega), and63 _ (by omega) (by omega), and63 _ (by omega) (by omega), and63 _ (by omega) (by omega), or128 _ (by omega) (by omega), or128 _ (by omega) (by omega), or128 _ (by omega) (by omega)]
      rw [m256 _ (by omega) (by omega), m256 _ (by omega) (by omega), m256 _ (by omega) (by omega), m256 _ (by omega) (by omega)]
      rfl
    · rw [if_neg h1]
      by_cases h2 : r ≥ 2048
      · rw [if_pos h2, if_neg (by omega), if_neg (by omega), if_pos (by omega)]
        simp only [utf_Encode.j0, utf_Encode.l0, wrap12, wrap6, shr12, shr6, shr0]
        simp (config := { decide := true }) only [if_true, if_false, List.length_append, List.length_cons, List.length_nil]
        rw [or224 _ (by omega) (by omega), and63 _ (by omega) (by omega), and63 _ (by omega) (by omega), or128 _ (by omega) (by omega), or128 _ (by omega) (by omega)]
        rw [m256 _ (by omega) (by omega), m256 _ (by omega) (by omega), m256 _ (by omega) (by omega)]
        rfl
      · rw [if_neg h2]
        by_cases h3 : r ≥ 128
        · rw [if_pos h3, if_neg (by omega), if_pos (by omega)]
          simp only [utf_Encode.j0, utf_Encode.l0, wrap6, shr6, shr0]
          simp (config := { decide := true }) only [if_true, if_false, List.length_append, List.length_cons, List.length_nil]
          rw [or192 _ (by omega) (by omega), and63 _ (by omega) (by omega), or128 _ (by omega) (by omega)]
          rw [m256 _ (by omega) (by omega), m256 _ (by omega) (by omega)]
          rfl
        · rw [if_neg h3, if_pos (by omega)]
          simp only [utf_Encode.j0, utf_Encode.l0, shr0]
          simp (config := { decide := true }) only [if_true, if_false]
          rw [or0 _ (by omega) (by omega), m256 _ (by omega) (by omega)]
end Go.Proofs.YtbcjhmeeonhmaaaDoor.H
end

section
set_option linter.unusedVariables false
namespace Go.Proofs.YtbcjhmeeonhmaaaDoor.H
open Go Go.RowKit Go.Proofs.YtbcjhmeeonhmaaaDoorW.PrintWords Go.Proofs.YtbcjhmeeonhmaaaDoor.M

def RetD (r n e : Int) (w : World) (x : Ending) (w' : World) : Prop := x = .returned (.tuple #[.int .i64 r, .int .i64 n, .int .i64 e]) ∧ Below w.heap.size w w'

set_option maxHeartbeats 400000 in
theorem decode_none (s : ByteArray) (w : World) (h : s.toList = []) : Calls Tryd.prog 82 #[.string s] w (RetD 0 0 10 w) := by
  go_enter Tryd.func82, Tryd.ntmps82
  go_wp2
  go_ret3
  exact ⟨rfl, Below.refl _ _⟩

set_option maxHeartbeats 400000 in
theorem decode_bad (s : ByteArray) (w : World) (m r : Int) (h0 : 0 < s.size) (h1 : s.toList.isEmpty = false) (hh : utf_head.f (s[0].toNat : Int) = some (m, r)) (hm : m < 0) : Calls Tryd.prog 82 #[.string s] w (RetD 0 0 20 w) := by
  have HH := Lib.hid hh
  clear hh
  go_enter Tryd.func82, Tryd.ntmps82
  go_wp2_with fail
  refine (utf_head.calls _ m r _ HH.out).mono ?_
  rintro e w1 ⟨rfl, hb1⟩
  go_wp2
  go_ret3
  exact ⟨rfl, hb1.below⟩

set_option maxHeartbeats 400000 in
theorem decode_short (s : ByteArray) (w : World) (m : Nat) (r : Int) (h0 : 0 < s.size) (h1 : s.toList.isEmpty = false) (hh : utf_head.f (s[0].toNat : Int) = some ((m : Int), r)) (hm : s.size ≤ m) : Calls Tryd.prog 82 #[.string s] w (RetD 0 0 20 w) := by
  have HH := Lib.hid hh
  clear hh
  go_enter Tryd.func82, Tryd.ntmps82
  go_wp2_with fail
  refine (utf_head.calls _ m r _ HH.out).mono ?_
  rintro e w1 ⟨rfl, hb1⟩
  go_wp2
  go_ret3
  exact ⟨rfl, hb1.below⟩

def contB (c : Int) : Bool := decide (128 ≤ c) && decide (c < 192)
def accR (r : Int) (xs : List Int) : Int := xs.foldl (fun r c => r * 64 + c % 64) r
theorem accR_snoc (r : Int) (xs : List Int) (c : Int) : accR r (xs ++ [c]) = accR r xs * 64 + c % 64 := by simp [accR]
theorem accR_bound (r : Int) (xs : List Int) (h : 0 ≤ r) : 0 ≤ accR r xs ∧ accR r xs < (r + 1) * 64 ^ xs.length := by
  induction xs generalizing r with
  | nil => simp [accR]; omega
  | cons c t ih =>
    have := ih (r * 64 + c % 64) (by omega)
    refine ⟨this.1, Int.lt_of_lt_of_le this.2 ?_⟩
    rw [List.length_cons, Int.pow_succ, Int.mul_comm (64 ^ t.length) 64, ← Int.mul_assoc]
    exact Int.mul_le_mul_of_nonneg_right (by omega) (Int.pow_nonneg (by decide))
theorem andNot63 : ∀ n : Nat, n < 256 → (bits .andNot .u8 (n : Int) 63 != 128) = !contB n := by decide +kernel
theorem byte_at (w : World) (x : ByteArray) (k : Nat) (h : k < x.size) : ∃ n : Nat, n < 256 ∧ (Lib.bytesWorld w 5 x).cell? ⟨w.heap.size, k, none⟩ = some (.int .u8 (n : Int)) ∧ (bytesOf x).take (k + 1) = (bytesOf x).take k ++ [(n : Int)] := by
  have hl : k < x.data.toList.length := by rw [data_length]; exact h
  refine ⟨(x.data.toList.getD k 0).toNat, UInt8.toNat_lt _, Lib.bytesWorld_cell w _ x k h, ?_⟩
  rw [List.take_succ_eq_append_getElem (by rw [bytesOf_length]; exact h)]
  congr 2
  simp [bytesOf, List.getD_eq_getElem?_getD, List.getElem?_eq_getElem hl]
theorem acc_lt {r a : Int} {l : Nat} (hr : r < 128) (h : a < (r + 1) * 64 ^ l) (hl : l ≤ 3) : a < 33554432 := by
  have : l = 0 ∨ l = 1 ∨ l = 2 ∨ l = 3 := by omega
  rcases this with rfl | rfl | rfl | rfl <;> simp at h
  all_goals omega
/-- What Decode says of bytes whose tail has been read: the tail is one, and the rune is put in as many bytes. -/
def decEnd (s : ByteArray) (m : Nat) (r : Int) : Int × Int × Int :=
  let x := bytesOf (s.extract 1 (m + 1))
  if x.all contB = true then
    (if (encS (accR r x)).2 = 0 ∧ ((encS (accR r x)).1.size : Int) = m + 1 then (accR r x, m + 1, 0) else (0, 0, 20))
  else (0, 0, 20)

theorem below_bytes {w w1 : World} (h : Drawn0 w w1) {x : ByteArray} : Below w.heap.size w (Lib.bytesWorld w1 5 x) :=
  h.below.trans (Joins.below_bytesWorld _ w1 _ x h.below.size)
theorem decEnd_no {s : ByteArray} {m k : Nat} {r : Int} {w w' : World} (hs : (s.extract 1 (m + 1)).size = m) (hk : k < m) (h : ((bytesOf (s.extract 1 (m + 1))).take (k + 1)).all contB = false) (hb : Below w.heap.size w w') :
    RetD (decEnd s m r).1 (decEnd s m r).2.1 (decEnd s m r).2.2 w (.returned (.tuple #[.int .i64 0, .int .i64 0, .int .i64 20])) w' := by
  have : (bytesOf (s.extract 1 (m + 1))).all contB = false := by
    rw [← List.take_append_drop (k + 1) (bytesOf (s.extract 1 (m + 1))), List.all_append, h]; rfl
  unfold decEnd
  simp only [this]
  exact ⟨rfl, hb⟩

theorem decEnd_ok {s x b : ByteArray} {k : Nat} {r : Int} {w w' : World} (hx : s.extract 1 (k + 1) = x) (h : (bytesOf x).all contB = true) (hb : encS (accR r (bytesOf x)) = (b, 0)) (hz : (b.size : Int) = k + 1) (hB : Below w.heap.size w w') :
    RetD (decEnd s k r).1 (decEnd s k r).2.1 (decEnd s k r).2.2 w (.returned (.tuple #[.int .i64 (accR r (bytesOf x)), .int .i64 ((k : Int) + 1), .int .i64 0])) w' := by
  unfold decEnd
  simp only [hx, h, hb, hz, if_true, and_self]
  exact ⟨rfl, hB⟩
theorem decEnd_no2 {s x b : ByteArray} {k : Nat} {r e : Int} {w w' : World} (hx : s.extract 1 (k + 1) = x) (hb : encS (accR r (bytesOf x)) = (b, e)) (hz : ¬ (e = 0 ∧ (b.size : Int) = k + 1)) (hB : Below w.heap.size w w') :
    RetD (decEnd s k r).1 (decEnd s k r).2.1 (decEnd s k r).2.2 w (.returned (.tuple #[.int .i64 0, .int .i64 0, .int .i64 20])) w' := by
  unfold decEnd
  simp only [hx, hb, if_neg hz, ite_self]
  exact ⟨rfl, hB⟩

set_option maxRecDepth 100000 in
set_option maxHeartbeats 400000 in
theorem decode_long (s : ByteArray) (w : World) (m : Nat) (r : Int) (h0 : 0 < s.size) (hs : s.size ≤ 9223372036854775807) (h1 : s.toList.isEmpty = false) (hh : utf_head.f (s[0].toNat : Int) = some ((m : Int), r)) (hm : m < s.size) (hm3 : m ≤ 3) (hr : 0 ≤ r ∧ r < 128) :
    Calls Tryd.prog 82 #[.string s] w (RetD (decEnd s m r).1 (decEnd s m r).2.1 (decEnd s m r).2.2 w) := by
  have HH := Lib.hid hh
  clear hh
  have HS := Lib.hid hs
  clear hs
  obtain ⟨x, hx⟩ : ∃ x, s.extract 1 (m + 1) = x := ⟨_, rfl⟩
  have hxs : x.size = m := by rw [← hx, ByteArray.size_extract]; omega
  have kb := fun W => print_bytes (P := Tryd.prog) 9 59 5 Tryd.underlying9 Tryd.underlying59 Tryd.underlying5 x W
  rw [hxs] at kb
  have hsl := fun (W : World) => show (Instr.slice 9 (.string s) (some (.int .i64 1)) (some (.int .i64 ((m : Int) + 1))) none).run Tryd.prog W = .ok (.string x) W from by
    rw [← hx]; exact run_slice_string W 9 s .i64 .i64 1 ((m : Int) + 1) Tryd.underlying9 (by omega) (by omega) (by omega)
  have HX := Lib.hid hx
  have HXS := Lib.hid hxs
  clear hx hxs
  have g1 : decide ((m : Int) < 0) = false := by simp
  have g2 : decide (s.size ≤ m) = false := by simp; omega
  go_enter Tryd.func82, Tryd.ntmps82
  go_wp2_with fail
  refine (utf_head.calls _ m r _ HH.out).mono ?_
  rintro e w1 ⟨rfl, hb1⟩
  go_wp2
  go_loop [6, 8, 33] (fun q _ i => ∃ k : Nat, k ≤ m ∧ i = .int .i64 k ∧ q = .int .i64 (accR r ((bytesOf x).take k)) ∧ Hid (((bytesOf x).take k).all contB = true)) (fun _ _ i => m - (intOf i).toNat)
  case atStart => exact ⟨0, Nat.zero_le _, rfl, rfl, rfl⟩
  case round =>
    obtain ⟨k, hk, rfl, rfl, hall⟩ := hrel
    by_cases hlt : k < m
    · obtain ⟨n, hn, hcell, hsn⟩ : ∃ n : Nat, n < 256 ∧ (Lib.bytesWorld w1 5 x).cell? ⟨w1.heap.size, k, none⟩ = some (.int .u8 (n : Int)) ∧ (bytesOf x).take (k + 1) = (bytesOf x).take k ++ [(n : Int)] := byte_at w1 x k (by rw [HXS.out]; exact hlt)
      have HSN := Lib.hid hsn
      clear hsn
      have hb := accR_bound r ((bytesOf x).take k) hr.1
      have hb2 : accR r ((bytesOf x).take k) < 33554432 := acc_lt hr.2 hb.2 (by rw [List.length_take]; omega)
      have hb3 := hb.1
      clear hb
      have ht := andNot63 n hn
      cases hcb : contB n
      · rw [hcb] at ht
        have HCB := Lib.hid hcb
        clear hcb
        go_wp2
        go_ret3
        exact decEnd_no (HX.out ▸ HXS.out) hlt (by rw [HX.out, HSN.out, List.all_append]; simp [HCB.out]) (below_bytes hb1)
      · rw [hcb] at ht
        have HCB := Lib.hid hcb
        clear hcb
        go_wp2
        go_round
        case rel => exact ⟨k + 1, by omega, by go_num, by rw [HSN.out, accR_snoc, or64 _ _ hb3 hb2 (by omega) (by omega)], Lib.hid (by rw [HSN.out, List.all_append, hall.out]; simp [HCB.out])⟩
        case measure => simp [intOf]; omega
    · obtain rfl : k = m := by omega
      have hb := accR_bound r ((bytesOf x).take k) hr.1
      have hb2 : accR r ((bytesOf x).take k) < 33554432 := acc_lt hr.2 hb.2 (by rw [List.length_take]; omega)
      clear hb
      have htk : (bytesOf x).take k = bytesOf x := List.take_of_length_le (by rw [bytesOf_length, HXS.out]; omega)
      rw [htk]
      rw [htk] at hall hb2
      clear htk
      go_wp2_with fail
      obtain ⟨b, e, hbe⟩ : ∃ b e, encS (accR r (bytesOf x)) = (b, e) := ⟨_, _, rfl⟩
      have HBE := Lib.hid hbe
      clear hbe
      refine (utf_Encode.calls 10 _ b e _ (by rw [encode_f, HBE.out])).mono ?_
      rintro _ w2 ⟨rfl, hb3⟩
      have hB2 : Below w.heap.size w w2 := below_tr (below_bytes hb1) hb3
      by_cases he : e = 0
      · subst he
        by_cases hz : (b.size : Int) = k + 1
        · have hz' : ((b.size : Int) != (k : Int) + 1) = false := by simp [hz]
          have HZ := Lib.hid hz
          clear hz
          go_wp2
          go_ret3
          exact decEnd_ok HX.out hall.out HBE.out HZ.out hB2
        · have hz' : ((b.size : Int) != (k : Int) + 1) = true := by simpa using hz
          go_wp2
          go_ret3
          exact decEnd_no2 HX.out HBE.out (fun h => hz h.2) hB2
      · have he' : (e != 0) = true := by simpa using he
        go_wp2
        go_ret3
        exact decEnd_no2 HX.out HBE.out (fun h => he h.1) hB2
end Go.Proofs.YtbcjhmeeonhmaaaDoor.H
end

section
set_option linter.unusedVariables false
namespace Go.Proofs.YtbcjhmeeonhmaaaDoor.H
open Go Go.RowKit Go.Proofs.YtbcjhmeeonhmaaaDoorW.PrintWords Go.Proofs.YtbcjhmeeonhmaaaDoor.M
attribute [local go_sem] Oper.semAt_some

/-- What Decode says of a string: the rune, its bytes, what is wrong. -/
def decR (s : ByteArray) : Int × Int × Int :=
  if s.size = 0 then (0, 0, 10) else
    match utf_head.f (bt s 0) with
    | some (m, r) => if m < 0 then (0, 0, 20) else if (s.size : Int) ≤ m then (0, 0, 20) else decEnd s m.toNat r
    | none => (0, 0, 20)

theorem head_bd {c : Int} (h0 : 0 ≤ c) (h1 : c ≤ 255) {m r : Int} (h : utf_head.f c = some (m, r)) : m ≤ 3 ∧ 0 ≤ r ∧ r < 128 := by
  unfold utf_head.f at h
  repeat' split at h
  all_goals (obtain ⟨rfl, rfl⟩ := Prod.mk.inj (Option.some.inj h))
  all_goals (try unfold wrap64)
  all_goals omega
theorem head_some (c : Int) : ∃ m r, utf_head.f c = some (m, r) := by
  unfold utf_head.f
  repeat' split
  all_goals exact ⟨_, _, rfl⟩

theorem decode (s : ByteArray) (w : World) (hs : s.size ≤ 9223372036854775807) : Calls Tryd.prog 82 #[.string s] w (RetD (decR s).1 (decR s).2.1 (decR s).2.2 w) := by
  by_cases h0 : s.size = 0
  · have : decR s = (0, 0, 10) := by unfold decR; rw [if_pos h0]
    rw [this]
    exact decode_none s w (by rw [toList_data]; exact List.eq_nil_of_length_eq_zero (by rw [size_data]; exact h0))
  · have h1 : s.toList.isEmpty = false := by
      rw [toList_data]
      cases hl : s.data.toList with
      | nil => exact absurd (by rw [← size_data, hl]; rfl) h0
      | cons _ _ => rfl
    obtain ⟨m, r, hm⟩ := head_some (bt s 0)
    have hb := bt_range s 0
    have hbd := head_bd hb.1 hb.2 hm
    have hbt : ((s[0]'(by omega)).toNat : Int) = bt s 0 := bt_at s 0 (by simpa using (by omega))
    by_cases hm0 : m < 0
    · have : decR s = (0, 0, 20) := by unfold decR; rw [if_neg h0, hm]; simp only []; rw [if_pos hm0]
      rw [this]
      exact decode_bad s w m r (by omega) h1 (by rw [hbt]; exact hm) hm0
    · obtain ⟨k, rfl⟩ := Int.eq_ofNat_of_zero_le (by omega : 0 ≤ m)
      by_cases hz : s.size ≤ k
      · have : decR s = (0, 0, 20) := by unfold decR; rw [if_neg h0, hm]; simp only []; rw [if_neg hm0, if_pos (by omega)]
        rw [this]
        exact decode_short s w k r (by omega) h1 (by rw [hbt]; exact hm) hz
      · have : decR s = decEnd s k r := by unfold decR; rw [if_neg h0, hm]; simp only []; rw [if_neg hm0, if_neg (by omega)]; rfl
        rw [this]
        exact decode_long s w k r (by omega) hs h1 (by rw [hbt]; exact hm) (by omega) (by omega) hbd.2
theorem decR_n {s : ByteArray} {r n : Int} (h : decR s = (r, n, 0)) : 1 ≤ n ∧ n ≤ s.size ∧ n ≤ 4 := by
  unfold decR at h
  by_cases h0 : s.size = 0
  · rw [if_pos h0] at h; cases h
  · rw [if_neg h0] at h
    obtain ⟨m, q, hm⟩ := head_some (bt s 0)
    have hb := bt_range s 0
    have hbd := head_bd hb.1 hb.2 hm
    rw [hm] at h
    simp only [] at h
    by_cases hm0 : m < 0
    · rw [if_pos hm0] at h; cases h
    · rw [if_neg hm0] at h
      by_cases hz : (s.size : Int) ≤ m
      · rw [if_pos hz] at h; cases h
      · rw [if_neg hz] at h
        unfold decEnd at h
        simp only [] at h
        split at h
        · split at h
          · injection h with h1 h2
            injection h2 with h2 h3
            omega
          · cases h
        · cases h

/-- Runes that a string begins with, and what is left. -/
inductive Eats : ByteArray → List Int → ByteArray → Prop
  | nil (s : ByteArray) : Eats s [] s
  | snoc {s t : ByteArray} {pre : List Int} {r n : Int} (h : Eats s pre t) (hd : decR t = (r, n, 0)) : Eats s (pre ++ [r]) (t.extract n.toNat t.size)
theorem Eats.size {s t : ByteArray} {pre : List Int} (h : Eats s pre t) : pre.length + t.size ≤ s.size := by
  induction h with
  | nil => simp
  | snoc h hd ih =>
    have := decR_n hd
    rw [List.length_append, List.length_singleton, ByteArray.size_extract]
    omega

def restSize (X : Nat) (w : World) : Nat := match w.cell? ⟨X, 0, none⟩ with | some (.string t) => t.size | _ => 0
def RAt (X Bx : Nat) (t : ByteArray) (w : World) : Prop := w.cell? ⟨Bx, 0, none⟩ = some (.pointer (some ⟨X, 0, none⟩)) ∧ w.cell? ⟨X, 0, none⟩ = some (.string t) ∧ w.frozen? ⟨X, 0, none⟩ = false
theorem RAt.keep {X Bx : Nat} {t : ByteArray} {A B : World} (h : RAt X Bx t A) (k : RKeep X Bx A B) : RAt X Bx t B := by
  unfold RAt World.cell? World.frozen? at h ⊢
  simp only [] at h ⊢
  rw [k.1, k.2]; exact h
theorem RAt.below {X Bx : Nat} {t : ByteArray} {A B : World} (h : RAt X Bx t A) (k : Below A.heap.size A B) : RAt X Bx t B :=
  h.keep ⟨k.block _ (World.block_lt_of_cell? A _ h.2.1), k.block _ (World.block_lt_of_cell? A _ h.1)⟩
theorem RAt.ne {X Bx : Nat} {t : ByteArray} {A : World} (h : RAt X Bx t A) : Bx ≠ X := by
  intro e; subst e; have h2 := h.2.1; rw [h.1] at h2; cases h2
theorem RAt.set {X Bx : Nat} {t : ByteArray} {A : World} (h : RAt X Bx t A) (t' : ByteArray) : RAt X Bx t' (A.setCell ⟨X, 0, none⟩ (.string t')) :=
  ⟨by rw [World.cell?_setCell_other _ _ _ _ (by intro e; exact h.ne (by injection e with e _ _; exact e.symm))]; exact h.1, World.cell?_setCell_same' _ _ _ (by rw [h.2.1]; rfl), by rw [World.frozen?_setCell]; exact h.2.2⟩
theorem RAt.restSize {X Bx : Nat} {t : ByteArray} {A : World} (h : RAt X Bx t A) : H.restSize X A = t.size := by unfold H.restSize; rw [h.2.1]

set_option maxRecDepth 100000 in
set_option maxHeartbeats 1000000 in
theorem runes_iter (X Bx : Nat) (s : ByteArray) (hs : s.size ≤ 9223372036854775807) :
    Iter Tryd.prog 81 #[.pointer (some ⟨Bx, 0, none⟩)] (fun x : Int => #[.int .i64 x]) (RStep X) (RKeep X Bx)
      (fun pre x _ => pre.length < s.size ∧ ∃ t, Eats s (pre ++ [x]) t) (fun xs W => ∃ t, Eats s xs t ∧ (decR t).2.2 ≠ 0 ∧ RAt X Bx t W) (fun pre W => ∃ t, Eats s pre t ∧ RAt X Bx t W) (RAt X Bx s) := by
  intro l J Jx W hJ hJx h0 hY hJ0
  have HS := Lib.hid hs
  clear hs
  refine (callsIn_wide (n := 0)).1 ?_
  refine callsIn_of_wp Tryd.func81 rfl trivial ?_ rfl
  simp only [Tryd.ntmps81, List.size_toArray, List.length_cons, List.length_nil, Nat.reduceAdd, Nat.reduceSub, Array.replicate_succ, Array.replicate_zero, List.push_toArray, List.append_toArray, List.nil_append, List.cons_append]
  refine wpIn_scope_wide ?_
  gi_wp2
  refine wpIn_label ?_
  gi_wp2
  gi_loopw [3] (fun _ wr => ∃ (pre : List Int) (t : ByteArray), Eats s pre t ∧ RAt X Bx t wr ∧ J pre wr) (fun _ wr => restSize X wr)
  case atStart => exact ⟨[], s, .nil s, h0, hJ0⟩
  case round =>
    obtain ⟨pre, t, hE, hR, hJs⟩ := hrel
    have hsz := hE.size
    have ht : t.size ≤ 9223372036854775807 := by have := HS.out; omega
    have HT := Lib.hid ht
    clear ht
    obtain ⟨hR1, hR2, hR3⟩ := id hR
    obtain ⟨r, n, e, hd⟩ : ∃ r n e, decR t = (r, n, e) := ⟨_, _, _, rfl⟩
    have HD := Lib.hid hd
    clear hd
    have hdec := decode t wr HT.out
    rw [HD.out] at hdec
    have HDEC := Lib.hid hdec
    clear hdec
    gi_wp2_with fail
    refine ⟨trivial, rfl, callsIn_wide.2 (HDEC.out.mono ?_)⟩
    rintro _ w1 ⟨rfl, hb1⟩
    have hR' := hR.below hb1
    obtain ⟨hQ1, hQ2, hQ3⟩ := id hR'
    have hJ1 : J pre w1 := hJ _ _ _ hJs (grown_of_below hb1 _)
    by_cases he : e = 0
    · subst he
      have hn := decR_n HD.out
      obtain ⟨hn1, hn2, hn3⟩ := hn
      have hsl := fun (W : World) => run_slice_string_l (P := Tryd.prog) W 9 t Tryd.underlying9 .i64 n (by omega) hn2
      have he' : ((0 : Int) != 0) = false := rfl
      gi_wp2
      have hE2 := Eats.snoc hE HD.out
      have hR2' : RAt X Bx (t.extract n.toNat t.size) (w1.setCell ⟨X, 0, none⟩ (.string (t.extract n.toNat t.size))).drew := hR'.set _
      have hJ2 : J pre (w1.setCell ⟨X, 0, none⟩ (.string (t.extract n.toNat t.size))).drew := hJ _ _ _ hJ1 (show w1.grownBy _ (some X) from grown_drew (grownBy_setCell' w1 X _))
      obtain ⟨fn, tmps, assign, body, hy, hRd⟩ := hY pre r _ hJ2 ⟨by omega, _, hE2⟩
      have HRd := Lib.hid hRd
      have HE2 := Lib.hid hE2
      have HR2 := Lib.hid hR2'
      clear hRd hE2 hR2' hJ2
      gi_region
      gi_wp2
      refine ⟨rfl, HRd.out.mono ?_⟩
      rintro e W3 (⟨rfl, hJ3, hk3⟩ | ⟨rfl, hJx3, hk3⟩)
      · have hR3 := HR2.out.keep hk3
        gi_wp2
        go_roundw
        case rel => exact ⟨_, _, HE2.out, hR3, hJ3⟩
        case measure => rw [hR3.restSize, hR.restSize, ByteArray.size_extract]; omega
      · have hR3 := HR2.out.keep hk3
        gi_wp2
        simp only [Exit.noGoto]
        go_end0
        exact ⟨⟨_, rfl⟩, .inr ⟨_, ⟨_, HE2.out, hR3⟩, hJx3⟩⟩
    · have he' : (e != 0) = true := by simpa using he
      gi_wp2
      simp only [Exit.noGoto]
      go_end0
      exact ⟨⟨_, rfl⟩, .inl ⟨pre, ⟨t, hE, by rw [HD.out]; exact he, hR'⟩, hJ1⟩⟩
end Go.Proofs.YtbcjhmeeonhmaaaDoor.H
end

section
set_option linter.unusedVariables false
namespace Go.Proofs.YtbcjhmeeonhmaaaDoor.H
open Go Go.RowKit Go.Proofs.YtbcjhmeeonhmaaaDoorW.PrintWords Go.Proofs.YtbcjhmeeonhmaaaDoor.M
attribute [local go_sem] Oper.semAt_some

theorem info_int : (Tryd.prog.info? 3).map (fun i => (i.zero, i.size, i.bytes)) = some (some (.int .i64 0), 1, 8) := by kernel_rfl

theorem runes_mk (X : Nat) (w : World) : Calls Tryd.prog 72 #[.pointer (some ⟨X, 0, none⟩)] w fun e w' =>
    e = .returned (.func (.func 81) #[] #[.pointer (some ⟨w.heap.size, 0, none⟩)]) ∧ w.alloc (.cells #[.pointer (some ⟨X, 0, none⟩)] 143) = w' := by
  have hmf : ∀ (fn : Fn) (first cap : Array Value) (w : World), (Instr.makeFunc fn first cap).run Tryd.prog w = .ok (.func fn first cap) w := fun _ _ _ _ => rfl
  go_enter Tryd.func72, Tryd.ntmps72
  go_wp2
  go_ret
  exact ⟨rfl, rfl⟩

/-- What all are, and how many bytes are left. -/
def AllOf (s : ByteArray) (w : World) (e : Ending) (w' : World) : Prop :=
  ∃ (pre : List Int) (t : ByteArray) (v : Value), Eats s pre t ∧ (decR t).2.2 ≠ 0 ∧ e = .returned (.tuple #[v, .int .i64 t.size]) ∧ w'.ownsRow w.heap.size 3 1 v pre.length (pre.map (Value.int .i64)) ∧ Below w.heap.size w w'

set_option maxRecDepth 100000 in
set_option maxHeartbeats 1000000 in
theorem all (s : ByteArray) (w : World) (hs : s.size ≤ 1073741824) : Calls Tryd.prog 67 #[.string s] w (AllOf s w) := by
  have HS := Lib.hid hs
  clear hs
  obtain ⟨i0, hi, hz0, hz1, hz2⟩ := info_parts info_int
  refine (callsIn_wide (n := 0)).1 ?_
  refine callsIn_of_wp_marks Tryd.func67 rfl trivial ?_ rfl
  simp only [Tryd.ntmps67, List.size_toArray, List.length_cons, List.length_nil, Nat.reduceAdd, Nat.reduceSub, Array.replicate_succ, Array.replicate_zero, List.push_toArray, List.append_toArray, List.nil_append, List.cons_append]
  gi_wp2_with (refine ⟨trivial, rfl, ?_⟩; gi_at_call 72; refine callsIn_wide.2 ((runes_mk _ _).mono ?_); rintro e w' ⟨rfl, rfl⟩)
  obtain ⟨W0, hW0⟩ : ∃ W0, ((w.alloc (.cells #[.string s] 147)).alloc (.cells #[.slice none 0 0] 119)).alloc (.cells #[.pointer (some ⟨w.heap.size, 0, none⟩)] 143) = W0 := ⟨_, rfl⟩
  have hz : W0.heap.size = w.heap.size + 3 := by rw [← hW0]; simp
  have hbX : Boxed W0 w.heap.size 147 (.string s) := by rw [← hW0]; exact ((Boxed.new w 147 _).alloc _).alloc _
  have hbL : Boxed W0 (w.heap.size + 1) 119 (.slice none 0 0) := by rw [← hW0]; have := Boxed.new (w.alloc (.cells #[.string s] 147)) 119 (.slice none 0 0); rw [World.size_alloc] at this; exact this.alloc _
  have hbB : Boxed W0 (w.heap.size + 1 + 1) 143 (.pointer (some ⟨w.heap.size, 0, none⟩)) := by rw [← hW0]; have := Boxed.new ((w.alloc (.cells #[.string s] 147)).alloc (.cells #[.slice none 0 0] 119)) 143 (.pointer (some ⟨w.heap.size, 0, none⟩)); rw [World.size_alloc, World.size_alloc] at this; exact this
  have hB0 : Below w.heap.size w W0 := by rw [← hW0]; exact (((Below.refl _ w).alloc (Nat.le_refl _) _).alloc (by simp) _).alloc (by simp; omega) _
  have hAt : RAt w.heap.size (w.heap.size + 1 + 1) s W0 := ⟨hbB.cell, hbX.cell, hbX.frozen⟩
  rw [hW0]
  refine wp_rangeFunc_iter (gf := 81) (lb := #[.pointer (some ⟨w.heap.size + 1 + 1, 0, none⟩)]) rfl (enters_of Tryd.func81 (by kernel_rfl) rfl)
    (runes_iter w.heap.size (w.heap.size + 1 + 1) s (by have := HS.out; omega))
    (fun A B h => KeepsFrom.of_grownBy h (fun j e => by cases e; omega)) (fun W h => hAt.below h)
    (fun h k => ⟨k.1.trans h.1, k.2.trans h.2⟩) (fun W l o o' hl h _ _ => ⟨World.putObj_heap_other (by omega), World.putObj_heap_other (by omega)⟩) (fun _ => rfl)
    (fun pre W => (∃ v, Boxed W (w.heap.size + 1) 119 v ∧ W.ownsRow (w.heap.size + 1) 3 1 v pre.length (pre.map (Value.int .i64))) ∧ Boxed W (w.heap.size + 1 + 1) 143 (.pointer (some ⟨w.heap.size, 0, none⟩)) ∧ Below w.heap.size w W ∧ w.heap.size + 3 ≤ W.heap.size)
    (fun _ _ _ => False) ?hI (fun _ _ _ _ _ hs _ _ => hs) ?hIs (fun _ _ _ _ h _ => h) ?hY ?hS ?hSp
    ⟨⟨_, hbL, World.ownsRow_nil _ _ _ _⟩, hbB, hB0, by omega⟩
    (fun x => { tmps := #[.string s, undef, .slice none 0 0, .int .i64 0, .pointer (some ⟨w.heap.size, 0, none⟩), .pointer (some ⟨w.heap.size + 1, 0, none⟩), .int .i64 x, .string s, .agg #[.string s], .agg #[.string s], .pointer (some ⟨w.heap.size, 0, none⟩), .pointer (some ⟨w.heap.size, 0, none⟩), .func (.func 81) #[] #[.pointer (some ⟨w.heap.size + 1 + 1, 0, none⟩)], .int .i64 x, undef, undef, undef, undef, undef, undef, undef, undef, undef, undef, undef], defers := [] }) ?assign ?body ?done ?stop
  case hI =>
    rintro pre A B row ⟨⟨v, hv, hr⟩, hBx, hB, hz'⟩ hg hrow
    exact ⟨⟨v, hv.kept hg (fun e => by have := hrow _ e.symm; omega), hr.kept hg (ownBlock_ne_row hr hrow)⟩, hBx.kept hg (fun e => by have := hrow _ e.symm; omega), hB.grown hg (by omega) (fun k e => by have := hrow _ e; omega), Nat.le_trans hz' hg.size⟩
  case hIs =>
    rintro pre A B ⟨⟨v, hv, hr⟩, hBx, hB, hz'⟩ hg
    exact ⟨⟨v, hv.kept hg (fun e => by injection e with e; omega), hr.kept hg (ownBlock_ne_of_base hr (by omega))⟩, hBx.kept hg (fun e => by injection e with e; omega), hB.grown hg (by omega) (fun k e => by cases e; omega), Nat.le_trans hz' hg.size⟩
  case hY => intro x; exact ownFrom_pure _ _
  case hS =>
    rintro xs A B row ⟨t, h1, h2, h3⟩ hg hrow
    exact ⟨t, h1, h2, h3.keep ⟨hg.block _ (World.block_lt_of_cell? A _ h3.2.1) (fun e => by have := hrow _ e.symm; omega), hg.block _ (World.block_lt_of_cell? A _ h3.1) (fun e => by have := hrow _ e.symm; omega)⟩⟩
  case hSp =>
    rintro xs A B row ⟨t, h1, h3⟩ hg hrow
    exact ⟨t, h1, h3.keep ⟨hg.block _ (World.block_lt_of_cell? A _ h3.2.1) (fun e => by have := hrow _ e.symm; omega), hg.block _ (World.block_lt_of_cell? A _ h3.1) (fun e => by have := hrow _ e.symm; omega)⟩⟩
  case assign =>
    intro l x W K hK
    gi_wp2
    exact hK
  case stop =>
    rintro D c pre W _ _ h _
    exact h.elim
  case body =>
    rintro l pre x W ⟨⟨v, hv, hrow⟩, hBx, hB, hz'⟩ ⟨hlen, _⟩
    have hc := hv.cell
    have hlen' : pre.length < 1073741824 := by have := HS.out; omega
    gi_wp2_with (gi_at_builtin; refine wpListIn_append_own _ rfl _ _ 119 rfl (w.heap.size + 1) 3 i0 (.int .i64 0) 1 8 Tryd.underlying119 hi hz0 hz1 hz2 rfl (by decide) _ _ _ rfl (hrow.alloc _) ⟨W.heap.size, 0, none⟩ 1 1 [.int .i64 x] rfl rfl (cell_one_new _ _ _) (by simp [Value.oneCell']) (by unfold maxLen; omega) (by omega) (by have := hB.size; simp; omega) ?_; intro v' w1 hown' hgrow _; obtain ⟨g', cap', rfl⟩ := ownsRow_succ hown'; obtain ⟨hv1, hv2, hr2, hk2, hb2⟩ := hv.appended (by decide) hrow (by omega) (Nat.le_refl _) hown' hgrow; have hc1 := hv1.cell; have hf1 := hv1.frozen)
    have hg2 : (W.alloc (.cells #[.int .i64 x] 3)).grownBy w1 v.ownBlock := hgrow
    have oX := appended_other (C := w.heap.size) (v' := .slice (some ⟨g', 0, none⟩) (pre.length + 1) cap') hg2 (by omega) (B := w.heap.size + 1) (by omega) (fun e => by rcases ownBlock_ne_of_base hrow (X := w.heap.size) (by omega) with h | h; rw [h] at e; cases e; exact h e.symm)
    have oB := appended_other (C := w.heap.size + 1 + 1) (v' := .slice (some ⟨g', 0, none⟩) (pre.length + 1) cap') hg2 (by omega) (B := w.heap.size + 1) (by omega) (hBx.not_row (by decide) hrow)
    exact ⟨hk2.from _, ⟨oX, oB⟩, ⟨⟨_, hv2, by simpa using hr2⟩, oB.trans hBx, hB.trans (hb2.mono (by omega)), by have := hb2.size; omega⟩⟩
  case done =>
    rintro D ys W hD ⟨t, hE, hd, hR⟩ ⟨⟨v, hv, hrow⟩, hBx, hB, hz'⟩ hK
    have hc := hv.cell
    have hR2 := hR.2.1
    gi_wp2
    gi_region
    gi_wp2
    refine ⟨by simp, .inl ⟨_, _, rfl, run_takeDeferred hK, ?_⟩⟩
    refine ⟨_, results_tmp2 rfl _ _ _, ?_⟩
    exact ⟨ys, t, v, hE, hd, rfl, ownsRow_base (ownsRow_putObj (W := W.drew) (l := D) hrow _ hK rfl) (by omega), (below_dr hB).trans (belowK_b (w := w) (Nat.le_refl _) W.drew D _ _ (by omega) hK rfl rfl)⟩
end Go.Proofs.YtbcjhmeeonhmaaaDoor.H
end

section
set_option linter.unusedVariables false
namespace Go.Proofs.YtbcjhmeeonhmaaaDoor.H
open Go Go.RowKit Go.Proofs.YtbcjhmeeonhmaaaDoorW.PrintWords Go.Proofs.YtbcjhmeeonhmaaaDoor.M

/-- The runes that a string begins with, and what is left, by rounds. -/
def eatF : Nat → ByteArray → List Int × ByteArray
  | 0, s => ([], s)
  | k + 1, s => if (decR s).2.2 = 0 then ((decR s).1 :: (eatF k (s.extract (decR s).2.1.toNat s.size)).1, (eatF k (s.extract (decR s).2.1.toNat s.size)).2) else ([], s)
def eat (s : ByteArray) : List Int × ByteArray := eatF s.size s
theorem eatF_stop {t : ByteArray} (h : (decR t).2.2 ≠ 0) (k : Nat) : eatF k t = ([], t) := by
  cases k with
  | zero => rfl
  | succ k => unfold eatF; rw [if_neg h]
theorem Eats.run {s t : ByteArray} {pre : List Int} (h : Eats s pre t) : ∀ k, eatF (pre.length + k) s = (pre ++ (eatF k t).1, (eatF k t).2) := by
  induction h with
  | nil => intro k; simp
  | snoc h hd ih =>
    intro k
    rw [List.length_append, List.length_singleton, Nat.add_assoc, ih, Nat.add_comm 1 k]
    simp only [eatF, hd, if_true, List.append_assoc, List.cons_append, List.nil_append]
theorem Eats.eat {s t : ByteArray} {pre : List Int} (h : Eats s pre t) (ht : (decR t).2.2 ≠ 0) : H.eat s = (pre, t) := by
  have := h.size
  have := h.run (s.size - pre.length)
  rw [show pre.length + (s.size - pre.length) = s.size from by omega, eatF_stop ht] at this
  unfold H.eat
  rw [this, List.append_nil]
theorem eatF_le : ∀ (k : Nat) (s : ByteArray), (eatF k s).2.size ≤ s.size
  | 0, s => Nat.le_refl _
  | k + 1, s => by
    unfold eatF
    by_cases h : (decR s).2.2 = 0
    · rw [if_pos h]
      have := eatF_le k (s.extract (decR s).2.1.toNat s.size)
      rw [ByteArray.size_extract] at this
      simp only []
      omega
    · rw [if_neg h]; exact Nat.le_refl _

/-- What Valid says. -/
def vld (s : ByteArray) : Int × Bool := ((s.size : Int) - (eat s).2.size, ((eat s).2.size : Int) == 0)

set_option maxHeartbeats 400000 in
theorem valid (s : ByteArray) (w : World) (hs : s.size ≤ 1073741824) : Calls Tryd.prog 54 #[.string s] w fun e w' => e = .returned (.tuple #[.int .i64 (vld s).1, .bool (vld s).2]) ∧ Below w.heap.size w w' := by
  go_enter Tryd.func54, Tryd.ntmps54
  go_wp2_with fail
  refine (all s _ hs).mono ?_
  rintro e w1 ⟨pre, t, v, hE, ht, rfl, hr, hb⟩
  have hle : (eat s).2.size ≤ s.size := eatF_le _ _
  have he := hE.eat ht
  rw [he] at hle
  simp only [] at hle
  have HE := Lib.hid he
  clear he hE
  go_wp2
  go_ret2
  refine ⟨?_, hb⟩
  unfold vld
  rw [HE.out]
  rfl
end Go.Proofs.YtbcjhmeeonhmaaaDoor.H
end

-- Laid by a program of this session for this claim.
section
namespace Go.Proofs.YtbcjhmeeonhmaaaDoor.M
open Go.RowKit Go.Proofs.YtbcjhmeeonhmaaaDoorW.PrintWords Go.Proofs.YtbcjhmeeonhmaaaDoorW.PrintLast Go.Proofs.YtbcjhmeeonhmaaaDoorW.PrintMore
attribute [local go_sem] max2_int min2_int max_two min_two max_three min_three max_four min_four   -- for this text's walks alone
set_option linter.unusedVariables false
set_option linter.unusedSimpArgs false

/-! ### pleacherref02_size: function 77 -/
end Go.Proofs.YtbcjhmeeonhmaaaDoor.M
end

-- Laid by a program of this session for this claim.
section
namespace Go.Proofs.YtbcjhmeeonhmaaaDoor.M
open Go.RowKit Go.Proofs.YtbcjhmeeonhmaaaDoorW.PrintWords Go.Proofs.YtbcjhmeeonhmaaaDoorW.PrintLast Go.Proofs.YtbcjhmeeonhmaaaDoorW.PrintMore
attribute [local go_sem] max2_int min2_int max_two min_two max_three min_three max_four min_four   -- for this text's walks alone
set_option linter.unusedVariables false
set_option linter.unusedSimpArgs false

/-! ### pleacherref02_in: function 89 -/
end Go.Proofs.YtbcjhmeeonhmaaaDoor.M
end

-- Laid by a program of this session for this claim.
section
namespace Go.Proofs.YtbcjhmeeonhmaaaDoor.M
open Go.RowKit Go.Proofs.YtbcjhmeeonhmaaaDoorW.PrintWords Go.Proofs.YtbcjhmeeonhmaaaDoorW.PrintLast Go.Proofs.YtbcjhmeeonhmaaaDoorW.PrintMore
attribute [local go_sem] max2_int min2_int max_two min_two max_three min_three max_four min_four   -- for this text's walks alone
set_option linter.unusedVariables false
set_option linter.unusedSimpArgs false

/-! ### pleacherref02_is: function 85 -/
end Go.Proofs.YtbcjhmeeonhmaaaDoor.M
end

-- Laid by a program of this session for this claim.
section
namespace Go.Proofs.YtbcjhmeeonhmaaaDoor.M
open Go.RowKit Go.Proofs.YtbcjhmeeonhmaaaDoorW.PrintWords Go.Proofs.YtbcjhmeeonhmaaaDoorW.PrintLast Go.Proofs.YtbcjhmeeonhmaaaDoorW.PrintMore
attribute [local go_sem] max2_int min2_int max_two min_two max_three min_three max_four min_four   -- for this text's walks alone
set_option linter.unusedVariables false
set_option linter.unusedSimpArgs false

/-! ### pleacherref02_Encode: function 78 -/
end Go.Proofs.YtbcjhmeeonhmaaaDoor.M
end

-- Laid by a program of this session for this claim.
section
namespace Go.Proofs.YtbcjhmeeonhmaaaDoor.M
open Go.RowKit Go.Proofs.YtbcjhmeeonhmaaaDoorW.PrintWords Go.Proofs.YtbcjhmeeonhmaaaDoorW.PrintLast Go.Proofs.YtbcjhmeeonhmaaaDoorW.PrintMore
attribute [local go_sem] max2_int min2_int max_two min_two max_three min_three max_four min_four   -- for this text's walks alone
set_option linter.unusedVariables false
set_option linter.unusedSimpArgs false

/-! ### pleacherref02_Decode: function 69 -/
end Go.Proofs.YtbcjhmeeonhmaaaDoor.M
end

-- Laid by a program of this session for this claim.
section
namespace Go.Proofs.YtbcjhmeeonhmaaaDoor.M
open Go.RowKit Go.Proofs.YtbcjhmeeonhmaaaDoorW.PrintWords Go.Proofs.YtbcjhmeeonhmaaaDoorW.PrintLast Go.Proofs.YtbcjhmeeonhmaaaDoorW.PrintMore
attribute [local go_sem] max2_int min2_int max_two min_two max_three min_three max_four min_four   -- for this text's walks alone
set_option linter.unusedVariables false
set_option linter.unusedSimpArgs false

/-! ### pleacherref02_Runes: function 59 -/
end Go.Proofs.YtbcjhmeeonhmaaaDoor.M
end

-- Laid by a program of this session for this claim.
section
namespace Go.Proofs.YtbcjhmeeonhmaaaDoor.M
open Go.RowKit Go.Proofs.YtbcjhmeeonhmaaaDoorW.PrintWords Go.Proofs.YtbcjhmeeonhmaaaDoorW.PrintLast Go.Proofs.YtbcjhmeeonhmaaaDoorW.PrintMore
attribute [local go_sem] max2_int min2_int max_two min_two max_three min_three max_four min_four   -- for this text's walks alone
set_option linter.unusedVariables false
set_option linter.unusedSimpArgs false

/-! ### pleacherref02_Valid: function 44 -/
end Go.Proofs.YtbcjhmeeonhmaaaDoor.M
end

/-
The document's decoder (pleacherref02) and the program's say the same. No program in sight: equations between computable functions.
-/
section
set_option linter.unusedVariables false
set_option maxRecDepth 100000
namespace Go.Proofs.YtbcjhmeeonhmaaaDoor.H
open Go Go.RowKit Go.Proofs.YtbcjhmeeonhmaaaDoorW.PrintWords Go.Proofs.YtbcjhmeeonhmaaaDoorW.PrintMore Go.Proofs.YtbcjhmeeonhmaaaDoor.M

theorem w64 {x : Int} (h0 : -9223372036854775808 ≤ x) (h1 : x ≤ 9223372036854775807) : wrap64 x = x := by unfold wrap64; omega
/-! Bytes as numbers -/
theorem toList_inj {x y : ByteArray} : x.toList = y.toList ↔ x = y := by
  rw [toList_data, toList_data]
  constructor
  · intro h; cases x with | mk x => cases y with | mk y => simp only at h; rw [Array.toList_inj.1 h]
  · rintro rfl; rfl
theorem eatF_fuel (p q : Nat) (s : ByteArray) (hp : s.size ≤ p) (hq : s.size ≤ q) : eatF p s = eatF q s := by
  induction p generalizing q s with
  | zero =>
    have h0 : s.size = 0 := by omega
    rw [eatF_stop (by rw [decR, if_pos h0]; decide), eatF_stop (by rw [decR, if_pos h0]; decide)]
  | succ p ih =>
    cases q with
    | zero =>
      have h0 : s.size = 0 := by omega
      rw [eatF_stop (by rw [decR, if_pos h0]; decide), eatF_stop (by rw [decR, if_pos h0]; decide)]
    | succ q =>
      unfold eatF
      by_cases h : (decR s).2.2 = 0
      · rw [if_pos h, if_pos h]
        obtain ⟨r, m, e, hd⟩ : ∃ r m e, decR s = (r, m, e) := ⟨_, _, _, rfl⟩
        rw [hd] at h
        obtain rfl : e = 0 := h
        have hb := decR_n hd
        rw [hd]
        simp only []
        rw [ih q (s.extract m.toNat s.size) (by rw [ByteArray.size_extract]; omega) (by rw [ByteArray.size_extract]; omega)]
      · rw [if_neg h, if_neg h]
/-! Runes and Valid -/
end Go.Proofs.YtbcjhmeeonhmaaaDoor.H
end

/-
errors.Is by its contracts, for sentinels of errors.New's make. The lines of the worked proof SentryIs, turned to this seat.
-/
section
set_option linter.unusedVariables false
set_option maxRecDepth 100000
namespace Go.Proofs.YtbcjhmeeonhmaaaDoor.H
open Go Go.RowKit Go.Extern.Stop Go.Stop Go.Extern

theorem isTypeOf (v : Value) (w : World) : (Extern.ReflectliteType.typeOf #[.iface 179 v]).run Tryd.prog w = .ok (.iface 124 (.agg #[.pointer (some ⟨4, 179, none⟩)])) w := by kernel_rfl
/-- What the model enters for rtype's Comparable. -/
def cmpF : Array Value → Sem Value := Extern.ReflectliteType.method fun t => do Go.Extern.Rtype.noPackHeld "Comparable" t; pure (.bool (← typeInfo t).comparable)
theorem isComparable (w : World) : (cmpF #[.agg #[.pointer (some ⟨4, 179, none⟩)]]).run Tryd.prog w = .ok (.bool true) w := by kernel_rfl
theorem isMethodComparable (v : Value) (w : World) : (Go.method 311 124 v "Comparable").run Tryd.prog w = .ok (120, v) w := by kernel_rfl
theorem isComp : (Tryd.prog.info? 179).map (·.comparable) = some true := by kernel_rfl
theorem isSize : (Tryd.prog.info? 199).map (·.size) = some 1 := by kernel_rfl
theorem noIsE (v : Value) (xT : TypeId) (w : World) : (Instr.typeAssert (.iface 179 v) xT 166 true).run Tryd.prog w = .ok (.tuple #[.nilIface, .bool false]) w := run_typeAssert_lacksB Tryd.underlying166 (by kernel_rfl) (by kernel_rfl) v xT w
theorem noUnwrapE (v : Value) (xT : TypeId) (w : World) : (Instr.typeAssert (.iface 179 v) xT 132 true).run Tryd.prog w = .ok (.tuple #[.nilIface, .bool false]) w := run_typeAssert_lacksB Tryd.underlying132 (by kernel_rfl) (by kernel_rfl) v xT w
theorem noUnwrapsE (v : Value) (xT : TypeId) (w : World) : (Instr.typeAssert (.iface 179 v) xT 134 true).run Tryd.prog w = .ok (.tuple #[.nilIface, .bool false]) w := run_typeAssert_lacksB Tryd.underlying134 (by kernel_rfl) (by kernel_rfl) v xT w

/-- errors.Is(x, x), x a pointer to an errors.errorString. -/
theorem is_same (a : Addr) (w : World) :
    Calls Tryd.prog 71 #[.iface 179 (.pointer (some a)), .iface 179 (.pointer (some a))] w fun e w' => e = .returned (.bool true) ∧ w' = w := by
  obtain ⟨i, hi, hcmp⟩ := Option.map_eq_some_iff.1 isComp
  obtain ⟨j, hj, hjs⟩ := Option.map_eq_some_iff.1 isSize
  have h8 := @run_callFunc_extern Tryd.prog 63 _ Extern.ReflectliteType.typeOf Tryd.func63 (by kernel_rfl) (by kernel_rfl) (by kernel_rfl) (by kernel_rfl)
  have h32 := @run_callFunc_extern Tryd.prog 120 _ cmpF Tryd.func120 (by kernel_rfl) (by kernel_rfl) (by kernel_rfl) (by kernel_rfl)
  have tT := isTypeOf
  have cT := isComparable
  have mR := isMethodComparable
  have heq := run_eql_iface_ptr_same (P := Tryd.prog) w a Tryd.underlying45 Tryd.underlying179 hi hcmp hj
  go_enter Tryd.func71, Tryd.ntmps71
  go_wp2
  refine wp_loop_rounds 1 ?_
  rw [rounds_succ]
  go_wp2
  go_ret
  exact ⟨rfl, rfl⟩

/-- errors.Is(nil, x). -/
theorem is_nil (b : Addr) (w : World) :
    Calls Tryd.prog 71 #[.nilIface, .iface 179 (.pointer (some b))] w fun e w' => e = .returned (.bool false) ∧ w' = w := by
  have hn := run_eql_iface_nil_left (P := Tryd.prog) w 179 (.pointer (some b)) Tryd.underlying45
  go_enter Tryd.func71, Tryd.ntmps71
  go_wp2
  go_ret
  exact ⟨rfl, rfl⟩

/-- errors.Is(x, y), two different pointers to errors.errorString: neither has Is nor Unwrap: false. -/
theorem is_other (a b : Addr) (ca cb : Array Value) (ta tb : TypeId) (w : World) (hne : a ≠ b) (ha : w.heap[a.block]? = some (.cells ca ta (0, 0))) (hb : w.heap[b.block]? = some (.cells cb tb (0, 0))) :
    Calls Tryd.prog 71 #[.iface 179 (.pointer (some a)), .iface 179 (.pointer (some b))] w fun e w' => e = .returned (.bool false) ∧ w' = w := by
  obtain ⟨i, hi, hcmp⟩ := Option.map_eq_some_iff.1 isComp
  obtain ⟨j, hj, hjs⟩ := Option.map_eq_some_iff.1 isSize
  have h8 := @run_callFunc_extern Tryd.prog 63 _ Extern.ReflectliteType.typeOf Tryd.func63 (by kernel_rfl) (by kernel_rfl) (by kernel_rfl) (by kernel_rfl)
  have h32 := @run_callFunc_extern Tryd.prog 120 _ cmpF Tryd.func120 (by kernel_rfl) (by kernel_rfl) (by kernel_rfl) (by kernel_rfl)
  have tT := isTypeOf
  have cT := isComparable
  have mR := isMethodComparable
  have nE := noIsE
  have uE := noUnwrapE
  have vE := noUnwrapsE
  have heq := run_eql_iface_ptr_other (P := Tryd.prog) w Tryd.underlying45 Tryd.underlying179 hi hcmp hj (by rw [hjs]; decide) hne ha hb
  go_enter Tryd.func71, Tryd.ntmps71
  go_wp2
  refine wp_loop_rounds 1 ?_
  rw [rounds_succ]
  go_wp2
  go_ret
  exact ⟨rfl, rfl⟩
end Go.Proofs.YtbcjhmeeonhmaaaDoor.H
end

/-
The premise on package-level variables: errors.errorType, num.errBase, num.errNum as Go's start lays them; and num.told.
-/
section
set_option linter.unusedVariables false
set_option maxRecDepth 100000
namespace Go.Proofs.YtbcjhmeeonhmaaaDoor.H
open Go Go.RowKit
/-- The two sentinels are two different pointers to errors.New's structs; errors.errorType holds the handle that its start gives. -/
def GW (w : World) : Prop := ∃ (a b : Addr) (ca cb : Array Value) (ta tb : TypeId),
  w.cell? ⟨1, 0, none⟩ = some (.iface 179 (.pointer (some a))) ∧
  w.cell? ⟨2, 0, none⟩ = some (.iface 179 (.pointer (some b))) ∧ a ≠ b ∧
  w.heap[a.block]? = some (.cells ca ta (0, 0)) ∧ w.heap[b.block]? = some (.cells cb tb (0, 0)) ∧
  w.cell? ⟨0, 0, none⟩ = some (.iface 124 (.agg #[.pointer (some ⟨4, 45, none⟩)]))
theorem heapB {B : Nat} {w w1 : World} (h : Below B w w1) {a : Nat} (hB : a < B) {o : Obj} (hc : w.heap[a]? = some o) : w1.heap[a]? = some o := (h.block a hB).trans hc
theorem lt_of_heap {w : World} {a : Nat} {o : Obj} (hc : w.heap[a]? = some o) : a < w.heap.size := by
  rw [Array.getElem?_eq_some_iff] at hc; exact hc.1
theorem GW.below {w w1 : World} (g : GW w) (h : Below w.heap.size w w1) : GW w1 := by
  obtain ⟨a, b, ca, cb, ta, tb, h1, h2, h3, h4, h5, h6⟩ := g
  exact ⟨a, b, ca, cb, ta, tb, celB h h1, celB h h2, h3, heapB h (lt_of_heap h4) h4, heapB h (lt_of_heap h5) h5, celB h h6⟩
/-- An error value of num: none, errBase, errNum. -/
inductive Er | none | base | num
deriving DecidableEq
def Er.code : Er → Int | .none => 0 | .base => 2 | .num => 30
/-- The error value in a world. -/
def Er.is (k : Er) (w : World) (v : Value) : Prop := match k with
  | .none => v = .nilIface
  | .base => w.cell? ⟨1, 0, Option.none⟩ = some v
  | .num => w.cell? ⟨2, 0, Option.none⟩ = some v
theorem told (k : Er) (v : Value) (w : World) (hG : GW w) (hv : k.is w v) :
    Calls Tryd.prog 62 #[v] w fun e w' => e = .returned (.int .i64 k.code) ∧ w' = w := by
  obtain ⟨a, b, ca, cb, ta, tb, h1, h2, h3, h4, h5, h6⟩ := hG
  cases k with
  | none =>
    obtain rfl : v = .nilIface := hv
    go_enter Tryd.func62, Tryd.ntmps62
    go_wp2_with fail
    refine (is_nil a w).mono ?_
    rintro e w1 ⟨rfl, rfl⟩
    go_wp2_with fail
    refine (is_nil b _).mono ?_
    rintro e w1 ⟨rfl, rfl⟩
    go_wp2
    go_ret
    exact ⟨rfl, rfl⟩
  | base =>
    obtain rfl := Option.some.inj ((show w.cell? _ = some v from hv).symm.trans h1)
    go_enter Tryd.func62, Tryd.ntmps62
    go_wp2_with fail
    refine (is_same a w).mono ?_
    rintro e w1 ⟨rfl, rfl⟩
    go_wp2
    go_ret
    exact ⟨rfl, rfl⟩
  | num =>
    obtain rfl := Option.some.inj ((show w.cell? _ = some v from hv).symm.trans h2)
    go_enter Tryd.func62, Tryd.ntmps62
    go_wp2_with fail
    refine (is_other b a cb ca tb ta w (Ne.symm h3) h5 h4).mono ?_
    rintro e w1 ⟨rfl, rfl⟩
    go_wp2_with fail
    refine (is_same b _).mono ?_
    rintro e w1 ⟨rfl, rfl⟩
    go_wp2
    go_ret
    exact ⟨rfl, rfl⟩
end Go.Proofs.YtbcjhmeeonhmaaaDoor.H
end

/-
Small maps over whole numbers or strings that a call has made: one operation at a time, their entries known. Over any program. By this session.
-/
section
set_option linter.unusedVariables false
namespace Go.Proofs.YtbcjhmeeonhmaaaDoor.H
open Go Go.RowKit
section
variable {P : Program} {t kt et : TypeId} {k : IntKind}

theorem run_getObj_map {w : World} {r : Nat} {es : Array MapEntry} {c : Nat} (h : w.heap[r]? = some (.map es c)) : (getObj r).run P w = .ok (.map es c) w := by simp [getObj, Sem.run, h]
theorem run_setObj_map {w : World} {r : Nat} {es : Array MapEntry} {c : Nat} (o : Obj) (h : w.heap[r]? = some (.map es c)) : (setObj r o).run P w = .ok () (w.putObj r o) := by simp [setObj, Sem.run, h, World.putObj]
theorem putObj_alloc (w : World) (o o' : Obj) : (w.alloc o).putObj w.heap.size o' = w.alloc o' := by
  have h : (w.heap.push o).setIfInBounds w.heap.size o' = w.heap.push o' := by
    apply Array.ext
    · simp
    · intro i h1 h2
      simp at h1
      by_cases h : i = w.heap.size
      · subst h; simp
      · rw [Array.getElem_setIfInBounds_ne (by simpa using h1) (Ne.symm h), Array.getElem_push_lt (by omega), Array.getElem_push_lt (by omega)]
  show ({ w with heap := (w.heap.push o).setIfInBounds w.heap.size o' } : World) = { w with heap := w.heap.push o' }
  rw [h]

theorem run_checkKey_int (hk : P.underlying kt = some (.int k)) (b : Bool) (n : Int) (w : World) : (Instr.checkKey b 10000 kt (.int k n)).run P w = .ok () w := by
  rw [show (10000 : Nat) = 9999 + 1 from rfl]
  unfold Instr.checkKey
  simp [run_underlying hk, Result.andThen]
theorem run_checkKey_string (hk : P.underlying kt = some .string) (b : Bool) (s : ByteArray) (w : World) : (Instr.checkKey b 10000 kt (.string s)).run P w = .ok () w := by
  rw [show (10000 : Nat) = 9999 + 1 from rfl]
  unfold Instr.checkKey
  simp [run_underlying hk, Result.andThen]
theorem run_findKey {d : TypeDesc} (hk : P.underlying kt = some d) (key : Value) (es : List MapEntry) (r : Option (Nat × Value)) (hf : Instr.findNow d key es 0 = some r) (w : World) : (Instr.findKey kt key es).run P w = .ok r w := by
  simp [Instr.findKey, run_underlying hk, Result.andThen, hf]

theorem run_update_new {d : TypeDesc} (hu : P.underlying t = some (.map kt et)) (hk : P.underlying kt = some d) {key : Value} (hc : ∀ b w, (Instr.checkKey b 10000 kt key).run P w = .ok () w) {w : World} {r : Nat} {es : Array MapEntry} {c : Nat} (h : w.heap[r]? = some (.map es c)) (hf : Instr.findNow d key es.toList 0 = some none) (v : Value) :
    (Instr.mapUpdate t (.map (some r)) key v).run P w = .ok () (w.putObj r (.map (es.push { key, val := v, born := c }) (c + 1))) := by
  simp [Instr.mapUpdate, run_underlying hu, run_getObj_map h, hc, run_findKey hk _ _ _ hf, run_setObj_map _ h, Result.andThen]
theorem run_lookup_hit {d : TypeDesc} (hu : P.underlying t = some (.map kt et)) (hk : P.underlying kt = some d) {key : Value} (hc : ∀ b w, (Instr.checkKey b 10000 kt key).run P w = .ok () w) {w : World} {r : Nat} {es : Array MapEntry} {c : Nat} (h : w.heap[r]? = some (.map es c)) {i : Nat} {v : Value} (hf : Instr.findNow d key es.toList 0 = some (some (i, v))) (b : Bool) :
    (Instr.lookup t (.map (some r)) key b).run P w = .ok (if b then .tuple #[v, .bool true] else v) w := by
  simp [Instr.lookup, run_underlying hu, run_getObj_map h, hc, run_findKey hk _ _ _ hf, Result.andThen]
theorem run_lookup_miss {d : TypeDesc} (hu : P.underlying t = some (.map kt et)) (hk : P.underlying kt = some d) {key : Value} (hc : ∀ b w, (Instr.checkKey b 10000 kt key).run P w = .ok () w) {w : World} {r : Nat} {es : Array MapEntry} {c : Nat} (h : w.heap[r]? = some (.map es c)) (hf : Instr.findNow d key es.toList 0 = some none) {z : Value} (hz : ∀ w, (zeroValue et).run P w = .ok z w) (b : Bool) :
    (Instr.lookup t (.map (some r)) key b).run P w = .ok (if b then .tuple #[z, .bool false] else z) w := by
  simp [Instr.lookup, run_underlying hu, run_getObj_map h, hc, run_findKey hk _ _ _ hf, Result.andThen, hz]
end
end Go.Proofs.YtbcjhmeeonhmaaaDoor.H
end

section
set_option linter.unusedVariables false
namespace Go.Proofs.YtbcjhmeeonhmaaaDoor.H
open Go Go.RowKit

def dig16 : ByteArray := ⟨#[48, 49, 50, 51, 52, 53, 54, 55, 56, 57, 97, 98, 99, 100, 101, 102]⟩
def ent (c : Nat) : Array MapEntry :=
  if c = 0 then #[] else if c = 1 then #[⟨.int .i64 8, .int .i64 8, 0⟩] else if c = 2 then #[⟨.int .i64 8, .int .i64 8, 0⟩, ⟨.int .i64 10, .int .i64 10, 1⟩] else #[⟨.int .i64 8, .int .i64 8, 0⟩, ⟨.int .i64 10, .int .i64 10, 1⟩, ⟨.int .i64 16, .int .i64 16, 2⟩]
theorem ins (w : World) (r c : Nat) (n : Int) (hr : r = w.heap.size) (hc : c < 3) (hf : Instr.findNow (.int .i64) (.int .i64 n) (ent c).toList 0 = some none) (he : (ent c).push { key := .int .i64 n, val := .int .i64 n, born := c } = ent (c + 1)) :
    (Instr.mapUpdate 113 (.map (some r)) (.int .i64 n) (.int .i64 n)).run Tryd.prog (w.alloc (.map (ent c) c)) = .ok () (w.alloc (.map (ent (c + 1)) (c + 1))) := by
  subst hr
  rw [run_update_new Tryd.underlying113 Tryd.underlying3 (run_checkKey_int Tryd.underlying3 · _ ·) (World.alloc_heap_new w _) hf, putObj_alloc, he]
theorem look (w : World) (r : Nat) (n : Int) (hr : r = w.heap.size) (i : Nat) (hf : Instr.findNow (.int .i64) (.int .i64 n) (ent 3).toList 0 = some (some (i, .int .i64 n))) :
    (Instr.lookup 113 (.map (some r)) (.int .i64 n) true).run Tryd.prog (w.alloc (.map (ent 3) 3)) = .ok (.tuple #[.int .i64 n, .bool true]) (w.alloc (.map (ent 3) 3)) := by
  subst hr
  rw [run_lookup_hit Tryd.underlying113 Tryd.underlying3 (run_checkKey_int Tryd.underlying3 · _ ·) (World.alloc_heap_new w _) hf]
  rfl
theorem makeM (w : World) : (Instr.makeMap 113 none).run Tryd.prog w = .ok (.map (some w.heap.size)) (w.alloc (.map (ent 0) 0)) := run_makeMap _ _

set_option maxRecDepth 100000 in
set_option maxHeartbeats 1000000 in
theorem of10 (w : World) : Calls Tryd.prog 39 #[.int .i64 10] w fun e w' => e = .returned (.tuple #[.agg #[.int .u64 10, .string (dig16.extract 0 10)], .nilIface]) ∧ Below w.heap.size w w' := by
  have hmm := makeM
  have i1 := ins (w.alloc (.cells #[.int .u64 0, .string ⟨#[]⟩] 84)) (w.heap.size + 1) 0 8 (by simp) (by decide) rfl rfl
  have i2 := ins (w.alloc (.cells #[.int .u64 0, .string ⟨#[]⟩] 84)) (w.heap.size + 1) 1 10 (by simp) (by decide) rfl rfl
  have i3 := ins (w.alloc (.cells #[.int .u64 0, .string ⟨#[]⟩] 84)) (w.heap.size + 1) 2 16 (by simp) (by decide) rfl rfl
  have i4 := look (w.alloc (.cells #[.int .u64 0, .string ⟨#[]⟩] 84)) (w.heap.size + 1) 10 (by simp) 1 rfl
  simp only [Nat.zero_add, Nat.reduceAdd] at i1 i2 i3 i4
  go_enter Tryd.func39, Tryd.ntmps39
  go_wp2
  exact bodyPost_ret (v := .tuple #[.agg #[.int .u64 10, .string (dig16.extract 0 10)], .nilIface]) (by simp [results, Tryd.results39, go_sem, dig16]) rfl ⟨rfl, ((Below.refl _ w).alloc (Nat.le_refl _) _).alloc (by simp) _⟩
set_option maxRecDepth 100000 in
set_option maxHeartbeats 1000000 in
theorem of16 (w : World) : Calls Tryd.prog 39 #[.int .i64 16] w fun e w' => e = .returned (.tuple #[.agg #[.int .u64 16, .string (dig16.extract 0 16)], .nilIface]) ∧ Below w.heap.size w w' := by
  have hmm := makeM
  have i1 := ins (w.alloc (.cells #[.int .u64 0, .string ⟨#[]⟩] 84)) (w.heap.size + 1) 0 8 (by simp) (by decide) rfl rfl
  have i2 := ins (w.alloc (.cells #[.int .u64 0, .string ⟨#[]⟩] 84)) (w.heap.size + 1) 1 10 (by simp) (by decide) rfl rfl
  have i3 := ins (w.alloc (.cells #[.int .u64 0, .string ⟨#[]⟩] 84)) (w.heap.size + 1) 2 16 (by simp) (by decide) rfl rfl
  have i4 := look (w.alloc (.cells #[.int .u64 0, .string ⟨#[]⟩] 84)) (w.heap.size + 1) 16 (by simp) 2 rfl
  simp only [Nat.zero_add, Nat.reduceAdd] at i1 i2 i3 i4
  go_enter Tryd.func39, Tryd.ntmps39
  go_wp2
  exact bodyPost_ret (v := .tuple #[.agg #[.int .u64 16, .string (dig16.extract 0 16)], .nilIface]) (by simp [results, Tryd.results39, go_sem, dig16]) rfl ⟨rfl, ((Below.refl _ w).alloc (Nat.le_refl _) _).alloc (by simp) _⟩
set_option maxRecDepth 100000 in
set_option maxHeartbeats 1000000 in
theorem of8 (w : World) : Calls Tryd.prog 39 #[.int .i64 8] w fun e w' => e = .returned (.tuple #[.agg #[.int .u64 8, .string (dig16.extract 0 8)], .nilIface]) ∧ Below w.heap.size w w' := by
  have hmm := makeM
  have i1 := ins (w.alloc (.cells #[.int .u64 0, .string ⟨#[]⟩] 84)) (w.heap.size + 1) 0 8 (by simp) (by decide) rfl rfl
  have i2 := ins (w.alloc (.cells #[.int .u64 0, .string ⟨#[]⟩] 84)) (w.heap.size + 1) 1 10 (by simp) (by decide) rfl rfl
  have i3 := ins (w.alloc (.cells #[.int .u64 0, .string ⟨#[]⟩] 84)) (w.heap.size + 1) 2 16 (by simp) (by decide) rfl rfl
  have i4 := look (w.alloc (.cells #[.int .u64 0, .string ⟨#[]⟩] 84)) (w.heap.size + 1) 8 (by simp) 0 rfl
  simp only [Nat.zero_add, Nat.reduceAdd] at i1 i2 i3 i4
  go_enter Tryd.func39, Tryd.ntmps39
  go_wp2
  exact bodyPost_ret (v := .tuple #[.agg #[.int .u64 8, .string (dig16.extract 0 8)], .nilIface]) (by simp [results, Tryd.results39, go_sem, dig16]) rfl ⟨rfl, ((Below.refl _ w).alloc (Nat.le_refl _) _).alloc (by simp) _⟩
end Go.Proofs.YtbcjhmeeonhmaaaDoor.H
end

section
set_option linter.unusedVariables false
namespace Go.Proofs.YtbcjhmeeonhmaaaDoor.H
open Go Go.RowKit
attribute [local go_sem] Oper.semAt_some

theorem wrap_u64 (x : Int) (h0 : 0 ≤ x) (h1 : x < 18446744073709551616) : IntKind.u64.wrap x = x := by
  have : IntKind.u64.wrap x = x % 18446744073709551616 := by simp [IntKind.wrap, IntKind.bits, IntKind.signed]
  omega
def chr (d : Nat) : Int := if d < 10 then 48 + d else 87 + d
/-- A number's digits, the last one first. -/
def dgc (b n : Nat) : List Int := if h : n / b = 0 ∨ b < 2 then [chr (n % b)] else chr (n % b) :: dgc b (n / b)
termination_by n
decreasing_by
  rcases Nat.eq_zero_or_pos n with h0 | h0
  · subst h0; simp at h
  · exact Nat.div_lt_self h0 (by omega)
theorem dgc_stop {b n : Nat} (h : n / b = 0) : dgc b n = [chr (n % b)] := by rw [dgc, dif_pos (.inl h)]
theorem dgc_more {b n : Nat} (hb : 2 ≤ b) (h : n / b ≠ 0) : dgc b n = chr (n % b) :: dgc b (n / b) := by rw [dgc, dif_neg (by omega)]

theorem both {e : Ending} {A B K : Prop} (h : (e = .returned (.bool true) ∧ A ∧ K) ∨ (e = .returned (.bool false) ∧ B ∧ K)) : ∃ b, e = .returned (.bool b) ∧ Hid ((b = true → A) ∧ (b = false → B) ∧ K) := by
  rcases h with ⟨h1, h2, h3⟩ | ⟨h1, h2, h3⟩
  · exact ⟨true, h1, fun _ => h2, (fun h => by cases h), h3⟩
  · exact ⟨false, h1, (fun h => by cases h), fun _ => h2, h3⟩

def BAt (Bb Bn : Nat) (b n : Nat) (w : World) : Prop :=
  w.cell? ⟨Bb, 0, none⟩ = some (.int .u64 b) ∧ w.cell? ⟨Bb, 1, none⟩ = some (.string (dig16.extract 0 b)) ∧ w.cell? ⟨Bn, 0, none⟩ = some (.int .u64 n) ∧ w.frozen? ⟨Bn, 0, none⟩ = false
theorem BAt.keep {Bb Bn b n : Nat} {A B : World} (h : BAt Bb Bn b n A) (k : RKeep Bb Bn A B) : BAt Bb Bn b n B := by
  unfold BAt World.cell? World.frozen? at h ⊢
  simp only [] at h ⊢
  rw [k.1, k.2]; exact h
theorem BAt.below {Bb Bn b n : Nat} {A B : World} (h : BAt Bb Bn b n A) (k : Below A.heap.size A B) : BAt Bb Bn b n B :=
  h.keep ⟨k.block _ (World.block_lt_of_cell? A _ h.1), k.block _ (World.block_lt_of_cell? A _ h.2.2.1)⟩
theorem BAt.set {Bb Bn b n : Nat} {A : World} (h : BAt Bb Bn b n A) (hne : Bb ≠ Bn) (m : Nat) : BAt Bb Bn b m (A.setCell ⟨Bn, 0, none⟩ (.int .u64 m)) :=
  ⟨by rw [World.cell?_setCell_other _ _ _ _ (by intro e; injection e with e _ _; exact hne e.symm)]; exact h.1, by rw [World.cell?_setCell_other _ _ _ _ (by intro e; injection e with e _ _; exact hne e.symm)]; exact h.2.1, World.cell?_setCell_same' _ _ _ (by rw [h.2.2.1]; rfl), by rw [World.frozen?_setCell]; exact h.2.2.2⟩
def curN (Bn : Nat) (w : World) : Nat := match w.cell? ⟨Bn, 0, none⟩ with | some (.int _ n) => n.toNat | _ => 0
theorem BAt.cur {Bb Bn b n : Nat} {A : World} (h : BAt Bb Bn b n A) : curN Bn A = n := by unfold curN; rw [h.2.2.1]; simp

theorem chr_at : ∀ b : Nat, b = 8 ∨ b = 10 ∨ b = 16 → ∀ d : Nat, d < b → ∃ h : d < (dig16.extract 0 b).size, (((dig16.extract 0 b)[d]'h).toNat : Int) = chr d := by
  intro b hb d hd
  rcases hb with rfl | rfl | rfl
  · have : d = 0 ∨ d = 1 ∨ d = 2 ∨ d = 3 ∨ d = 4 ∨ d = 5 ∨ d = 6 ∨ d = 7 := by omega
    rcases this with rfl | rfl | rfl | rfl | rfl | rfl | rfl | rfl <;> exact ⟨by decide, by decide⟩
  · have : d = 0 ∨ d = 1 ∨ d = 2 ∨ d = 3 ∨ d = 4 ∨ d = 5 ∨ d = 6 ∨ d = 7 ∨ d = 8 ∨ d = 9 := by omega
    rcases this with rfl | rfl | rfl | rfl | rfl | rfl | rfl | rfl | rfl | rfl <;> exact ⟨by decide, by decide⟩
  · have : d = 0 ∨ d = 1 ∨ d = 2 ∨ d = 3 ∨ d = 4 ∨ d = 5 ∨ d = 6 ∨ d = 7 ∨ d = 8 ∨ d = 9 ∨ d = 10 ∨ d = 11 ∨ d = 12 ∨ d = 13 ∨ d = 14 ∨ d = 15 := by omega
    rcases this with rfl | rfl | rfl | rfl | rfl | rfl | rfl | rfl | rfl | rfl | rfl | rfl | rfl | rfl | rfl | rfl <;> exact ⟨by decide, by decide⟩

set_option maxRecDepth 100000 in
set_option maxHeartbeats 1000000 in
theorem reversed_iter (Bb Bn b n : Nat) (hb : b = 8 ∨ b = 10 ∨ b = 16) (hn : n < 18446744073709551616) (hne : Bb ≠ Bn) :
    Iter Tryd.prog 56 #[.pointer (some ⟨Bb, 0, none⟩), .pointer (some ⟨Bn, 0, none⟩)] (fun x : Int => #[.int .u8 x]) (RStep Bn) (RKeep Bb Bn)
      (fun pre x _ => pre.length < (dgc b n).length) (fun xs W => xs = dgc b n) (fun pre W => True) (BAt Bb Bn b n) := by
  intro l J Jx W hJ hJx h0 hY hJ0
  have HN := Lib.hid hn
  clear hn
  have hb2 : 2 ≤ b := by omega
  have HB := Lib.hid hb
  clear hb
  refine (callsIn_wide (n := 0)).1 ?_
  refine callsIn_of_wp Tryd.func56 rfl trivial ?_ rfl
  simp only [Tryd.ntmps56, List.size_toArray, List.length_cons, List.length_nil, Nat.reduceAdd, Nat.reduceSub, Array.replicate_succ, Array.replicate_zero, List.push_toArray, List.append_toArray, List.nil_append, List.cons_append]
  refine wpIn_scope_wide ?_
  gi_wp2
  refine wpIn_label ?_
  gi_wp2
  gi_loopw [4] (fun _ wr => ∃ (pre : List Int) (m : Nat), dgc b n = pre ++ dgc b m ∧ m ≤ n ∧ BAt Bb Bn b m wr ∧ J pre wr) (fun _ wr => curN Bn wr)
  case atStart => exact ⟨[], n, rfl, Nat.le_refl _, h0, hJ0⟩
  case round =>
    obtain ⟨pre, m, hE, hmn, hR, hJs⟩ := hrel
    obtain ⟨c1, c2, c3, c4⟩ := id hR
    obtain ⟨d, hdd⟩ : ∃ d, m % b = d := ⟨_, rfl⟩
    have htm : (m : Int).tmod (b : Int) = (d : Int) := by rw [← hdd]; exact (Int.ofNat_tmod m b).symm
    obtain ⟨q, hqq⟩ : ∃ q, m / b = q := ⟨_, rfl⟩
    have htd : (m : Int).tdiv (b : Int) = (q : Int) := by rw [← hqq]; exact (Int.ofNat_tdiv m b).symm
    have hqm : q ≤ m := by rw [← hqq]; exact Nat.div_le_self _ _
    have hq64 : q < 18446744073709551616 := by have := HN.out; omega
    have hdl : d < b := by rw [← hdd]; exact Nat.mod_lt _ (by omega)
    have hchr := chr_at b HB.out d hdl
    obtain ⟨D, hD⟩ : ∃ D, dig16.extract 0 b = D := ⟨_, rfl⟩
    rw [hD] at c2 hchr
    clear hD
    obtain ⟨hd, hch⟩ := hchr
    have hwq : IntKind.u64.wrap (q : Int) = q := wrap_u64 _ (by omega) (by omega)
    clear hq64
    have HDD := Lib.hid hdd
    have HQQ := Lib.hid hqq
    clear hdd hqq
    have hb0 : ¬ b = 0 := by omega
    have hJ1 : J pre wr.drew := hJ _ _ _ hJs (show wr.grownBy _ (some Bn) from ⟨rfl, rfl, rfl, Nat.le_refl _, fun _ _ _ => rfl⟩)
    have hpl : pre.length < (dgc b n).length := by
      rw [hE, List.length_append]
      have : 0 < (dgc b m).length := by rw [dgc]; split <;> simp
      omega
    obtain ⟨fn, tmps, assign, body, hy, hRd⟩ := hY pre (chr d) _ hJ1 hpl
    have HRd := Lib.hid hRd
    have HE := Lib.hid hE
    clear hRd hE
    gi_wp2
    gi_region_with (refine ⟨rfl, HRd.out.mono ?_⟩; intro e W3 hh; obtain ⟨bb, rfl, hh'⟩ := both hh; clear hh)
    all_goals
      obtain ⟨hA, hBx, hk⟩ := hh'
      cases bb
      · have hB3 := Lib.hid (hBx rfl)
        clear hA hBx
        gi_wp2
        simp only [Exit.noGoto]
        go_end0
        exact ⟨⟨_, rfl⟩, .inr ⟨_, trivial, hB3.out⟩⟩
      · have hJ3 := hA rfl
        clear hA hBx
        have hR3 : BAt Bb Bn b m W3 := BAt.keep (A := wr.drew) hR hk
        obtain ⟨e1, e2, e3, e4⟩ := id hR3
        have hR4 := hR3.set hne q
        have hJ4 := hJ _ _ _ hJ3 (grownBy_setCell' W3 Bn (.int .u64 q))
        obtain ⟨f1, f2, f3, f4⟩ := id hR4
        have HJ4 := Lib.hid hJ4
        clear hJ4
        by_cases hq0 : q = 0
        · have HQ0 := Lib.hid hq0
          have hq1 : ((q : Int) == 0) = true := by simpa using hq0
          clear hq0
          gi_wp2
          simp only [Exit.noGoto]
          go_end0
          exact ⟨⟨_, rfl⟩, .inl ⟨_, by rw [HE.out, dgc_stop (HQQ.out.trans HQ0.out), HDD.out], HJ4.out⟩⟩
        · have hq1 : ((q : Int) == 0) = false := by simpa using hq0
          gi_wp2
          go_roundw
          case rel => exact ⟨_, q, by rw [HE.out, dgc_more hb2 (by rw [HQQ.out]; exact hq0), HDD.out, HQQ.out, List.append_assoc]; rfl, by omega, hR4, HJ4.out⟩
          case measure =>
            rw [hR4.cur, hR.cur, ← HQQ.out]
            exact Nat.div_lt_self (by rcases Nat.eq_zero_or_pos m with h | h; (subst h; have := HQQ.out; simp at this; omega); exact h) (by omega)
end Go.Proofs.YtbcjhmeeonhmaaaDoor.H
end

/-
num.runeAt, num.take.
-/
section
set_option linter.unusedVariables false
set_option maxRecDepth 100000
namespace Go.Proofs.YtbcjhmeeonhmaaaDoor.H
open Go Go.RowKit

def dv (r : Int) : Int := if 48 ≤ r ∧ r ≤ 57 then r - 48 else if 97 ≤ r ∧ r ≤ 102 then r - 87 else -1
def rv (b : Nat) (r : Int) : Int := if 0 ≤ dv r ∧ dv r < b then dv r else -1
def low (r : Int) : Int := if 65 ≤ r ∧ r ≤ 70 then r + 32 else r
def dgV (b : Nat) (r : Int) : Int := rv b (low r)
/-- One more digit. -/
def step (b acc : Nat) (r : Int) : Option Nat := if dgV b r < 0 then none else if (18446744073709551615 - (dgV b r).toNat) / b < acc then none else some (acc * b + (dgV b r).toNat)
def getL (b : Nat) : List UInt8 → Nat → Option Nat
  | [], acc => some acc
  | c :: t, acc => match step b acc c.toNat with | none => none | some a => getL b t a

theorem dv_chr {d : Nat} (h : d < 16) : dv (chr d) = d := by unfold dv chr; split <;> split <;> (try split) <;> omega
theorem chr_dv {r : Int} (h : 0 ≤ dv r) : chr (dv r).toNat = r ∧ dv r < 16 := by
  unfold dv at h ⊢; unfold chr
  split at h
  · rename_i h1; rw [if_pos h1]; split <;> omega
  · split at h
    · rename_i h1 h2; rw [if_neg h1, if_pos h2]; split <;> omega
    · omega
theorem rv_hit {b k : Nat} (hb : b = 8 ∨ b = 10 ∨ b = 16) (hk : k < b) {r : Int} (h : chr k = r) : rv b r = k := by
  subst h; unfold rv; rw [dv_chr (by omega), if_pos (by omega)]
theorem rv_miss {b : Nat} {r : Int} (h : ∀ j : Nat, j < b → chr j ≠ r) : rv b r = -1 := by
  unfold rv
  split
  · rename_i h1; exact absurd (chr_dv h1.1).1 (h _ (by omega))
  · rfl
theorem digs {b : Nat} (hb : b = 8 ∨ b = 10 ∨ b = 16) : (dig16.extract 0 b).size = b ∧ ∀ (d : Nat) (h : d < (dig16.extract 0 b).size), (((dig16.extract 0 b)[d]'h).toNat : Int) = chr d := by
  have hz : (dig16.extract 0 b).size = b := by rcases hb with rfl | rfl | rfl <;> decide
  exact ⟨hz, fun d h => (chr_at b hb d (by omega)).2⟩

set_option maxHeartbeats 1000000 in
theorem runeAt (b : Nat) (hb : b = 8 ∨ b = 10 ∨ b = 16) (r : Int) (hr : -2147483648 ≤ r ∧ r ≤ 2147483647) (w : World) : Calls Tryd.prog 86 #[.string (dig16.extract 0 b), .int .i32 r] w fun e w' => e = .returned (.int .i64 (rv b r)) ∧ Below w.heap.size w w' := by
  obtain ⟨hz, hd⟩ := digs hb
  generalize dig16.extract 0 b = D at hz hd
  have HD := Lib.hid hd
  clear hd
  have HB := Lib.hid hb
  clear hb
  go_enter Tryd.func86, Tryd.ntmps86
  go_wp2
  go_loopw [] (fun (w' : World) => ∃ pos : Nat, w' = w.iter D pos ∧ pos ≤ b ∧ Hid (∀ j : Nat, j < pos → chr j ≠ r)) (fun (w' : World) => b - w'.iterPos w.heap.size)
  case atStart => exact ⟨0, rfl, by omega, Lib.hid (fun j h => by omega)⟩
  case round =>
    obtain ⟨pos, rfl, hp, hc⟩ := hrel
    by_cases hp : pos < D.size
    · have hch := HD.out pos hp
      have hc128 : chr pos < 128 := by have := HB.out; unfold chr; split <;> omega
      have hlt : (D[pos]'hp).toNat < 128 := by omega
      obtain ⟨x, hx⟩ : ∃ x, (D[pos]'hp).toNat = x := ⟨_, rfl⟩
      have hnx : ∀ ty, (Instr.next (.pointer (some ⟨w.heap.size, 0, none⟩)) true ty).run Tryd.prog (w.iter D pos) = _ := fun ty => run_next_ascii w D pos ty hp hlt
      rw [hx] at hnx hch hlt
      have HX := Lib.hid hx
      clear hx
      have HCH := Lib.hid hch
      by_cases he : (x : Int) = r
      · go_wp2
        go_ret
        exact ⟨ret_int (by rw [rv_hit HB.out (by omega) (HCH.out.symm.trans he)]), (Below.refl _ w).alloc (Nat.le_refl _) _⟩
      · go_wp2
        go_roundw
        case rel => exact ⟨pos + 1, rfl, by omega, Lib.hid (fun j hj => by
          rcases Nat.lt_or_ge j pos with h | h
          · exact hc.out j h
          · obtain rfl : j = pos := by omega
            rw [← HCH.out]; exact he)⟩
        case measure => simp; omega
    · have hnx : ∀ ty, (Instr.next (.pointer (some ⟨w.heap.size, 0, none⟩)) true ty).run Tryd.prog (w.iter D pos) = _ := fun ty => run_next_end w D pos ty hp
      go_wp2
      go_ret
      exact ⟨ret_int (by rw [rv_miss (fun j hj => hc.out j (by omega))]), (Below.refl _ w).alloc (Nat.le_refl _) _⟩

/-- The reader of digits. -/
def NAt (R b acc : Nat) (w : World) : Prop :=
  w.cell? ⟨R, 0, none⟩ = some (.int .u64 b) ∧ w.cell? ⟨R, 1, none⟩ = some (.string (dig16.extract 0 b)) ∧ w.cell? ⟨R, 2, none⟩ = some (.int .u64 acc) ∧ w.frozen? ⟨R, 2, none⟩ = false
theorem NAt.same {R b acc : Nat} {A B : World} (h : NAt R b acc A) (k : B.heap[R]? = A.heap[R]?) : NAt R b acc B := by
  unfold NAt World.cell? World.frozen? at h ⊢
  simp only [] at h ⊢
  rw [k]; exact h
theorem NAt.below {R b acc : Nat} {A B : World} (h : NAt R b acc A) (k : Below A.heap.size A B) : NAt R b acc B :=
  h.same (k.block _ (World.block_lt_of_cell? A _ h.1))
theorem NAt.set {R b acc : Nat} {A : World} (h : NAt R b acc A) (m : Nat) : NAt R b m (A.setCell ⟨R, 2, none⟩ (.int .u64 m)) :=
  ⟨by rw [World.cell?_setCell_other _ _ _ _ (by intro e; injection e with _ e _; omega)]; exact h.1, by rw [World.cell?_setCell_other _ _ _ _ (by intro e; injection e with _ e _; omega)]; exact h.2.1, World.cell?_setCell_same' _ _ _ (by rw [h.2.2.1]; rfl), by rw [World.frozen?_setCell]; exact h.2.2.2⟩

def Took (R b acc : Nat) (r : Int) (w : World) (e : Ending) (w' : World) : Prop :=
  w.grownBy w' (some R) ∧ ((∃ v, step b acc r = none ∧ e = .returned v ∧ w.cell? ⟨2, 0, none⟩ = some v) ∨ (∃ a, step b acc r = some a ∧ a < 18446744073709551616 ∧ e = .returned .nilIface ∧ NAt R b a w'))

theorem low_bd {r : Int} (hr : 0 ≤ r ∧ r ≤ 2147483647) : 0 ≤ low r ∧ low r ≤ 2147483647 := by unfold low; split <;> omega
theorem dgV_bd (b : Nat) (r : Int) : dgV b r = -1 ∨ ∃ d : Nat, dgV b r = d ∧ d < b := by
  unfold dgV rv; split
  · rename_i h; exact .inr ⟨(dv (low r)).toNat, by omega, by omega⟩
  · exact .inl rfl

theorem step_none {b acc : Nat} {r : Int} (h : dgV b r = -1) : step b acc r = none := by unfold step; rw [h, if_pos (by omega)]
theorem step_over {b acc d : Nat} {r : Int} (h : dgV b r = d) (hq : (18446744073709551615 - d) / b < acc) : step b acc r = none := by
  unfold step; rw [h, if_neg (by omega), Int.toNat_natCast, if_pos hq]
theorem step_some {b acc d : Nat} {r : Int} (h : dgV b r = d) (hq : ¬ (18446744073709551615 - d) / b < acc) : step b acc r = some (acc * b + d) := by
  unfold step; rw [h, if_neg (by omega), Int.toNat_natCast, if_neg hq]

/-- What the digit's arm does. -/
theorem digit_cases (b acc : Nat) (hb : b = 8 ∨ b = 10 ∨ b = 16) (r : Int) :
    dgV b r = -1 ∨ ∃ d q : Nat, dgV b r = d ∧ d < 16 ∧ IntKind.u64.wrap (d : Int) = d ∧ IntKind.u64.wrap (18446744073709551615 - (d : Int)) = ((18446744073709551615 - d : Nat) : Int) ∧ (18446744073709551615 - d) / b = q ∧
      ((18446744073709551615 - d : Nat) : Int).tdiv (b : Int) = (q : Int) ∧ IntKind.u64.wrap (q : Int) = q := by
  rcases dgV_bd b r with h | ⟨d, hd, hdb⟩
  · exact .inl h
  · right
    obtain ⟨q, hq⟩ : ∃ q, (18446744073709551615 - d) / b = q := ⟨_, rfl⟩
    refine ⟨d, q, hd, by omega, wrap_u64 _ (by omega) (by omega), ?_, hq, ?_, ?_⟩
    · rw [wrap_u64 _ (by omega) (by omega)]; omega
    · rw [← hq]; exact (Int.ofNat_tdiv _ b).symm
    · have : q ≤ 18446744073709551615 - d := by rw [← hq]; exact Nat.div_le_self _ _
      exact wrap_u64 _ (by omega) (by omega)
theorem digit_in {b acc d q : Nat} (hq : (18446744073709551615 - d) / b = q) (h : ¬ q < acc) (hd : d < 16) : ∃ m : Nat, m + d < 18446744073709551616 ∧ acc * b = m ∧ (acc : Int) * (b : Int) = (m : Int) ∧ IntKind.u64.wrap (m : Int) = m ∧ IntKind.u64.wrap ((m : Int) + (d : Int)) = ((m + d : Nat) : Int) := by
  have h1 : acc * b ≤ q * b := Nat.mul_le_mul_right _ (by omega)
  have h2 : q * b ≤ 18446744073709551615 - d := by rw [← hq]; exact Nat.div_mul_le_self _ _
  refine ⟨acc * b, by omega, rfl, (Int.natCast_mul acc b).symm, wrap_u64 _ (by omega) (by omega), ?_⟩
  rw [wrap_u64 _ (by omega) (by omega)]; omega

theorem low_cases (r : Int) : (65 ≤ r ∧ r ≤ 70 ∧ low r = r + 32) ∨ (¬ 65 ≤ r ∧ low r = r) ∨ (65 ≤ r ∧ ¬ r ≤ 70 ∧ low r = r) := by unfold low; split <;> omega
theorem grown_drewN {w w1 : World} {row : Option Nat} (h : w.grownBy w1 row) (n : Nat) : w.grownBy (w1.drewN n) row := ⟨h.os, h.tape, h.output, h.size, h.block⟩
theorem grown_refl (w : World) (r : Option Nat) : w.grownBy w r := ⟨rfl, rfl, rfl, Nat.le_refl _, fun _ _ _ => rfl⟩

set_option maxHeartbeats 4000000 in
theorem take (R L b acc : Nat) (hb : b = 8 ∨ b = 10 ∨ b = 16) (r : Int) (hr : 0 ≤ r ∧ r ≤ 2147483647) (hacc : acc < 18446744073709551616) (w : World) (hG : GW w) (hR : NAt R b acc w) (hL : w.cell? ⟨L, 0, none⟩ = some (.int .i32 r)) (hLR : L ≠ R) :
    Calls Tryd.prog 79 #[.pointer (some ⟨R, 0, none⟩), .slice (some ⟨L, 0, none⟩) 1 1] w (Took R b acc r w) := by
  have hRA : ∀ w, _ := fun w => runeAt b hb (low r) (by have := low_bd hr; omega) w
  have hdg : rv b (low r) = dgV b r := rfl
  rw [hdg] at hRA
  obtain ⟨D, hD⟩ : ∃ D, dig16.extract 0 b = D := ⟨_, rfl⟩
  rw [hD] at hRA
  have HRA := Lib.hid hRA
  clear hRA hdg
  have HB := Lib.hid hb
  have hb0 : ¬ b = 0 := by omega
  have hDC := digit_cases b acc hb r
  clear hb
  rcases low_cases r with ⟨h1, h2, h3⟩ | ⟨h1, h3⟩ | ⟨h1, h2, h3⟩
  all_goals
    rw [h3] at HRA
    clear h3
    rcases hDC with hd | ⟨d, q, hd, h16, hw0, hw1, hq, hq2, hq3⟩
  all_goals
    obtain ⟨ea, eb, _, _, _, _, g1, g2, _⟩ := id hG
    obtain ⟨c1, c2, c3, c4⟩ := id hR
    rw [hD] at c2
    have hbR := World.block_lt_of_cell? w _ c1
    rw [hd] at HRA
    have HDD := Lib.hid hd
    clear hd
    try have HQQ := Lib.hid hq
    try clear hq
    go_enter Tryd.func79, Tryd.ntmps79
    go_wp2
    refine wp_loop_rounds 2 ?_
    rw [rounds_succ]
    go_wp2_with fail
    refine (HRA.out w).mono ?_
    rintro e w1 ⟨rfl, hb1⟩
    have d1 := celB hb1 c1
    have d2 := celB hb1 c2
    have d3 := celB hb1 c3
    have d4 : w1.frozen? ⟨R, 2, none⟩ = false := (hR.below hb1).2.2.2
    have e2 := celB hb1 g2
    have HB1 := Lib.hid hb1
    clear hb1
    go_wp2
    go_quiet (fail)
  all_goals try (go_wp2; go_ret; exact ⟨grown_drewN (grown_of_below HB1.out _) _, .inl ⟨_, step_none HDD.out, rfl, g2⟩⟩)
  all_goals
    by_cases hc : q < acc
    · go_wp2
      go_ret
      exact ⟨grown_drewN (grown_of_below HB1.out _) _, .inl ⟨_, step_over HDD.out (by rw [HQQ.out]; exact hc), rfl, g2⟩⟩
    · obtain ⟨m, hm1, hm2, hm3, hm4, hm5⟩ := digit_in HQQ.out hc h16
      have HM2 := Lib.hid hm2
      clear hm2
      go_wp2
      obtain ⟨W2, hW2⟩ : ∃ W2, w1.drewN nq = W2 := ⟨_, rfl⟩
      have hR2 : NAt R b acc W2 := by rw [← hW2]; exact NAt.below hR (below_drN HB1.out nq)
      obtain ⟨k1, k2, k3, k4⟩ := id hR2
      rw [hW2]
      go_region
      go_wp2
      rw [rounds_succ]
      go_wp2
      go_ret
      have hS := hR2.set (m + d)
      rw [Int.natCast_add] at hS
      exact ⟨grown_drew (by rw [← hW2]; exact Lib.grownBy_setB (grown_drewN (grown_of_below HB1.out _) nq) 2 _), .inr ⟨m + d, by rw [step_some HDD.out (by rw [HQQ.out]; exact hc), HM2.out], hm1, rfl, hS⟩⟩

end Go.Proofs.YtbcjhmeeonhmaaaDoor.H
end

/-
num.get, num.Get.
-/
section
set_option linter.unusedVariables false
set_option maxRecDepth 100000
namespace Go.Proofs.YtbcjhmeeonhmaaaDoor.H
open Go Go.RowKit

theorem step_high {b acc : Nat} {r : Int} (h : 128 ≤ r) : step b acc r = none := by
  have h1 : low r = r := by unfold low; split <;> omega
  have h2 : dv r = -1 := by unfold dv; split <;> (try split) <;> omega
  have h3 : dgV b r = -1 := by unfold dgV rv; rw [h1, h2]; split <;> omega
  exact step_none h3
def getN (b : Nat) (s : ByteArray) : Option Nat := if s.size = 0 then none else getL b s.data.toList 0
def Gets (b : Nat) (s : ByteArray) (w : World) (e : Ending) (w' : World) : Prop :=
  Below w.heap.size w w' ∧ ((∃ v, getN b s = none ∧ e = .returned (.tuple #[.int .u64 0, v]) ∧ w.cell? ⟨2, 0, none⟩ = some v) ∨ (∃ n : Nat, getN b s = some n ∧ n < 18446744073709551616 ∧ e = .returned (.tuple #[.int .u64 n, .nilIface])))

theorem ofs (b : Nat) (hb : b = 8 ∨ b = 10 ∨ b = 16) (w : World) : Calls Tryd.prog 39 #[.int .i64 b] w fun e w' => e = .returned (.tuple #[.agg #[.int .u64 b, .string (dig16.extract 0 b)], .nilIface]) ∧ Below w.heap.size w w' := by
  rcases hb with rfl | rfl | rfl
  · exact of8 w
  · exact of10 w
  · exact of16 w

set_option maxHeartbeats 4000000 in
theorem get (b : Nat) (hb : b = 8 ∨ b = 10 ∨ b = 16) (s : ByteArray) (w : World) (hG : GW w) :
    Calls Tryd.prog 70 #[.int .i64 b, .string s] w (Gets b s w) := by
  have HB := Lib.hid hb
  clear hb
  go_enter Tryd.func70, Tryd.ntmps70
  go_wp2_with fail
  refine (ofs b HB.out w).mono ?_
  rintro e w1 ⟨rfl, hb1⟩
  have hG1 := hG.below hb1
  have hz1 := hb1.size
  obtain ⟨D, hD⟩ : ∃ D, dig16.extract 0 b = D := ⟨_, rfl⟩
  rw [hD]
  have HD := Lib.hid hD
  clear hD
  go_wp2
  obtain ⟨R, hR⟩ : ∃ R, w1.heap.size + 1 = R := ⟨_, rfl⟩
  obtain ⟨W0, hW0⟩ : ∃ W0, (((w1.alloc (.cells #[.int .u64 b, .string D] 84)).alloc (.cells #[.int .u64 b, .string D, .int .u64 0] 158)).iter s 0) = W0 := ⟨_, rfl⟩
  have hB0 : Below w.heap.size w W0 := by rw [← hW0]; exact ((hb1.alloc (by omega) _).alloc (by simp; omega) _).alloc (by simp; omega) _
  have hz0 : W0.heap.size = R + 2 := by rw [← hW0, ← hR]; simp [World.iter]
  have hk0 : W0.heap[R + 1]? = some (.stringIter s 0) := by
    rw [← hW0, ← hR]; have := World.iter_heap ((w1.alloc (.cells #[.int .u64 b, .string D] 84)).alloc (.cells #[.int .u64 b, .string D, .int .u64 0] 158)) s 0
    simpa using this
  have hN0 : NAt R b 0 W0 := by
    have hb2 : Below (R + 1) ((w1.alloc (.cells #[.int .u64 b, .string D] 84)).alloc (.cells #[.int .u64 b, .string D, .int .u64 0] 158)) W0 := by
      rw [← hW0]; exact (Below.refl _ _).alloc (by rw [← hR]; simp) _
    have hh : W0.heap[R]? = some (.cells #[.int .u64 b, .string D, .int .u64 0] 158) := by
      refine heapB hb2 (by omega) ?_
      rw [← hR]; simpa using World.alloc_heap_new (w1.alloc (.cells #[.int .u64 b, .string D] 84)) (.cells #[.int .u64 b, .string D, .int .u64 0] 158)
    refine ⟨?_, ?_, ?_, ?_⟩ <;> simp [World.cell?, World.frozen?, hh, HD.out]
  have e1 : w1.heap.size + 1 + 1 = R + 1 := by omega
  simp only [hR, hW0]
  go_loopw [] (fun (wr : World) => ∃ (pos acc : Nat), NAt R b acc wr ∧ wr.heap[R + 1]? = some (.stringIter s pos) ∧ Below w.heap.size w wr ∧ R + 2 ≤ wr.heap.size ∧ Hid (getL b (s.data.toList.drop pos) acc = getL b s.data.toList 0) ∧ acc < 18446744073709551616 ∧ pos ≤ s.size) (fun (wr : World) => s.size - wr.iterPos (R + 1))
  case atStart => exact ⟨0, 0, hN0, hk0, hB0, by omega, Lib.hid rfl, by omega, by omega⟩
  case round =>
    obtain ⟨pos, acc, hN, hk, hB, hzr, hI, ha, hp⟩ := hrel
    by_cases hlt : pos < s.size
    · have hd : s.data.toList.drop pos = (s[pos]'hlt) :: s.data.toList.drop (pos + 1) := by
        have : pos < s.data.toList.length := by rw [size_data]; exact hlt
        rw [List.drop_eq_getElem_cons this]; rfl
      have hbs := (s[pos]'hlt).toNat_lt
      have hbk := World.block_lt_of_cell? wr _ hN.1
      have hG2 : GW wr := hG.below hB
      obtain ⟨ea, eb, _, _, _, _, g1, g2, _⟩ := id hG2
      have g20 : w.cell? ⟨2, 0, none⟩ = some (.iface 179 (.pointer (some eb))) := by
        obtain ⟨_, _, _, _, _, _, _, g20, _⟩ := id hG
        exact g20.trans ((celB hB g20).symm.trans g2)
      -- The rune there, and how far it goes.
      obtain ⟨x, wd, hnx, hx, hwd⟩ : ∃ x wd : Nat, (∀ ty, (Instr.next (.pointer (some ⟨R + 1, 0, none⟩)) true ty).run Tryd.prog wr = .ok (.tuple #[.bool true, .int .i64 pos, .int .i32 x]) (wr.iterAt (R + 1) s (pos + wd))) ∧ x ≤ 2147483647 ∧
          ((x = (s[pos]'hlt).toNat ∧ wd = 1) ∨ (128 ≤ x ∧ 128 ≤ (s[pos]'hlt).toNat)) := by
        by_cases h128 : (s[pos]'hlt).toNat < 128
        · exact ⟨_, 1, fun ty => Lib.run_next_ascii_at wr (R + 1) s pos ty hk hlt h128, by omega, .inl ⟨rfl, rfl⟩⟩
        · exact ⟨_, _, fun ty => Lib.run_next_any_at wr (R + 1) s pos ty hk hlt, decode_le s pos, .inr ⟨(decode_high s pos hlt (by omega)).1, by omega⟩⟩
      have HWD := Lib.hid hwd
      clear hwd hbs
      obtain ⟨W1, hW1⟩ : ∃ W1, wr.iterAt (R + 1) s (pos + wd) = W1 := ⟨_, rfl⟩
      rw [hW1] at hnx
      have hk1 : W1.heap[R + 1]? = some (.stringIter s (pos + wd)) := by rw [← hW1]; exact Lib.iterAt_heap wr (R + 1) s pos (pos + wd) hk
      have hz1' : W1.heap.size = wr.heap.size := by rw [← hW1]; exact Lib.iterAt_size _ _ _ _
      have hN1 : NAt R b acc W1 := hN.same (by rw [← hW1]; exact Lib.iterAt_other wr (R + 1) R s (pos + wd) (by omega))
      have hB1 : Below w.heap.size w W1 := by rw [← hW1]; exact Lib.below_iterAt hB (by omega) s _
      have HD2 := Lib.hid hd
      clear hd hW1
      have hT := take R W1.heap.size b acc HB.out x ⟨by omega, by omega⟩ ha (W1.alloc (.cells #[.int .i32 x] 21)) (hG.below (hB1.alloc (by omega) _)) (hN1.below (below_one _ _)) (cel_new W1 #[.int .i32 x] 21 0 rfl) (by omega)
      rw [hz1'] at hT
      have HT := Lib.hid hT
      clear hT
      go_wp2_with fail
      refine HT.out.mono ?_
      rintro e W2 ⟨hg, hh⟩
      have hk2 : W2.heap[R + 1]? = some (.stringIter s (pos + wd)) := (hg.block (R + 1) (by simp; omega) (by intro h; injection h; omega)).trans (heapB (below_one W1 (.cells #[.int .i32 x] 21)) (by omega) hk1)
      have hB2 : Below w.heap.size w W2 := (hB1.alloc (by omega) (.cells #[.int .i32 x] 21)).trans ⟨hg.os, hg.tape, hg.output, hg.size, fun i hi => hg.block i (by simp; have := hB1.size; omega) (by intro h; injection h; omega)⟩
      have hz2 : W1.heap.size + 1 ≤ W2.heap.size := by have := hg.size; simpa using this
      obtain ⟨v, hs, rfl, hv⟩ | ⟨a, hs, ha2, rfl, hN2⟩ := hh
      · obtain rfl := Option.some.inj ((celB (hB1.alloc (by omega) (.cells #[.int .i32 x] 21)) g20).symm.trans hv)
        have HS := Lib.hid hs
        clear hs
        go_wp2
        refine bodyPost_ret (v := .tuple #[.int .u64 0, .iface 179 (.pointer (some eb))]) (by simp [results, Tryd.results70, go_sem]) rfl ⟨hB2, .inl ⟨_, ?_, rfl, g20⟩⟩
        have : s.size ≠ 0 := by omega
        unfold getN
        rw [if_neg this, ← hI.out, HD2.out]
        have hst : step b acc (s[pos]'hlt).toNat = none := by
          rcases HWD.out with ⟨h1, _⟩ | ⟨_, h2⟩
          · rw [← h1]; exact HS.out
          · exact step_high (by omega)
        unfold getL; rw [hst]
      · have HS := Lib.hid hs
        clear hs
        go_wp2
        go_roundw
        case rel =>
          rcases HWD.out with ⟨h1, h2⟩ | ⟨h1, _⟩
          · refine ⟨pos + 1, a, hN2, by rw [h2] at hk2; exact hk2, hB2, by omega, Lib.hid ?_, ha2, by omega⟩
            rw [← hI.out, HD2.out]
            show _ = (match step b acc (s[pos]'hlt).toNat with | none => none | some a => getL b (s.data.toList.drop (pos + 1)) a)
            rw [← h1, HS.out]
          · exact absurd HS.out (by rw [step_high (by omega)]; simp)
        case measure =>
          rcases HWD.out with ⟨h1, h2⟩ | ⟨h1, _⟩
          · simp [World.iterPos, hk, hk2]; omega
          · exact absurd HS.out (by rw [step_high (by omega)]; simp)
    · have hnx : ∀ ty, (Instr.next (.pointer (some ⟨R + 1, 0, none⟩)) true ty).run Tryd.prog wr = _ := fun ty => Lib.run_next_end_at wr (R + 1) s pos ty hk hlt
      have hI' : getL b s.data.toList 0 = some acc := by
        rw [← hI.out, List.drop_of_length_le (by rw [size_data]; omega)]; rfl
      obtain ⟨c1, c2, c3, c4⟩ := id hN
      have HI := Lib.hid hI'
      clear hI'
      obtain ⟨ea, eb, _, _, _, _, g1, g20, _⟩ := id hG
      have g2 := celB hB g20
      by_cases hs0 : s.size = 0
      · have hse : s = ⟨#[]⟩ := by
          cases s with | mk d => simp [ByteArray.size] at hs0; simp [hs0]
        have HS0 := Lib.hid hs0
        subst hse
        go_wp2
        go_quiet (fail)
        go_wp2
        exact bodyPost_ret (v := .tuple #[.int .u64 0, .iface 179 (.pointer (some eb))]) (by simp [results, Tryd.results70, go_sem]) rfl ⟨below_drN hB _, .inl ⟨_, by unfold getN; rw [if_pos HS0.out], rfl, g20⟩⟩
      · have h1 : s.toList.isEmpty = false := by
          rw [toList_data]
          cases hl : s.data.toList with
          | nil => exact absurd (by rw [← size_data, hl]; rfl) hs0
          | cons _ _ => rfl
        have HS0 := Lib.hid hs0
        go_wp2
        exact bodyPost_ret (v := .tuple #[.int .u64 acc, .nilIface]) (by simp [results, Tryd.results70, go_sem]) rfl ⟨hB, .inr ⟨acc, by unfold getN; rw [if_neg HS0.out, HI.out], ha, rfl⟩⟩

def getC (b : Nat) (s : ByteArray) : Int × Int := match getN b s with | some n => (n, 0) | none => (0, 30)
theorem num_Get (b : Nat) (hb : b = 8 ∨ b = 10 ∨ b = 16) (s : ByteArray) (w : World) (hG : GW w) :
    Calls Tryd.prog 61 #[.int .i64 b, .string s] w fun e w' => e = .returned (.tuple #[.int .u64 (getC b s).1, .int .i64 (getC b s).2]) ∧ Below w.heap.size w w' := by
  go_enter Tryd.func61, Tryd.ntmps61
  go_wp2_with fail
  refine (get b hb s w hG).mono ?_
  rintro e w1 ⟨hb1, ⟨v, hn, rfl, hv⟩ | ⟨n, hn, hn2, rfl⟩⟩
  · have HT := Lib.hid (told .num v w1 (hG.below hb1) (celB hb1 hv))
    have HN := Lib.hid hn
    clear hn
    go_wp2_with fail
    refine HT.out.mono ?_
    rintro e w2 ⟨rfl, rfl⟩
    go_wp2
    exact bodyPost_ret (v := .tuple #[.int .u64 0, .int .i64 30]) (by simp [results, Tryd.results61, go_sem, Er.code]) rfl ⟨by unfold getC; rw [HN.out], hb1⟩
  · have HT := Lib.hid (told .none .nilIface w1 (hG.below hb1) rfl)
    have HN := Lib.hid hn
    clear hn
    go_wp2_with fail
    refine HT.out.mono ?_
    rintro e w2 ⟨rfl, rfl⟩
    go_wp2
    exact bodyPost_ret (v := .tuple #[.int .u64 n, .int .i64 0]) (by simp [results, Tryd.results61, go_sem, Er.code]) rfl ⟨by unfold getC; rw [HN.out], hb1⟩
end Go.Proofs.YtbcjhmeeonhmaaaDoor.H
end

-- Laid by a program of this session for this claim.
section
namespace Go.Proofs.YtbcjhmeeonhmaaaDoor.M
open Go.RowKit Go.Proofs.YtbcjhmeeonhmaaaDoorW.PrintWords Go.Proofs.YtbcjhmeeonhmaaaDoorW.PrintLast Go.Proofs.YtbcjhmeeonhmaaaDoorW.PrintMore
attribute [local go_sem] max2_int min2_int max_two min_two max_three min_three max_four min_four   -- for this text's walks alone
set_option linter.unusedVariables false
set_option linter.unusedSimpArgs false

/-! ### slices_Reverse_byte_byte: function 41 -/
def slices_Reverse_byte_byte.l0 : Nat → List Int → Int → Int → Option (List Int)
  | 0, _, _, _ => none
  | k + 1, x0, x2, x3 => if x2 < x3 then (if 0 ≤ x3 then (if x3 < (x0.length : Int) then (if 0 ≤ x2 then (if x2 < (x0.length : Int) then (slices_Reverse_byte_byte.l0 k ((x0.set (x2 : Int).toNat (rd x0 x3)).set (x3 : Int).toNat (rd x0 x2)) (wrap64 (x2 + 1)) (wrap64 (x3 - 1))) else (none)) else (none)) else (none)) else (none)) else (some x0)
def slices_Reverse_byte_byte.f (k : Nat) (l0 : List Int) : Option (List Int) := slices_Reverse_byte_byte.l0 k l0 0 (wrap64 ((l0.length : Int) - 1))
def slices_Reverse_byte_byte.T3 : Bool × List (List Nat × List Nat) := (true, [([], []), ([], []), ([], []), ([], []), ([], []), ([], []), ([4, 5], [4, 5]), ([6], [6]), ([], []), ([], []), ([8, 9], [8, 9]), ([10], [10]), ([0, 1, 0, 1, 4, 5, 6, 7, 11], [0, 1]), ([12, 7, 0, 1, 4, 5, 6, 7, 11], [7, 12]), ([2, 3, 0, 1, 2, 3, 4, 5, 6, 7, 8, 9, 10, 11, 12, 13], [2, 3]), ([14, 11, 13, 0, 1, 2, 3, 4, 5, 6, 7, 8, 9, 10, 11, 12, 13], [11, 14])])
def slices_Reverse_byte_byte.B3 : List Nat := [0, 0, 0, 0, 0, 0, 48, 112, 0, 0, 768, 1792, 4083, 8179, 16383, 32767]
theorem slices_Reverse_byte_byte.tab3 : rtab .any (opsOf Tryd.f41 3) = slices_Reverse_byte_byte.T3 := by kernel_rfl
theorem slices_Reverse_byte_byte.bits3 : waitsOk slices_Reverse_byte_byte.T3.2 slices_Reverse_byte_byte.B3 = true := by kernel_rfl
set_option maxHeartbeats 8000000 in
set_option maxRecDepth 100000 in
theorem slices_Reverse_byte_byte.calls (k : Nat) (P0_ : Nat → Prop) (u9000_ : Value) (l0 : List Int) (r : List Int) (w0 w : World) (hB : Below w0.heap.size w0 w) (ho0 : Kd.R (Kd.int .u8) 5 w w0.heap.size P0_ u9000_ l0) (h : slices_Reverse_byte_byte.f k l0 = some r) :
    Calls Tryd.prog 41 #[u9000_] w fun e w' => e = .returned (.tuple #[]) ∧ Kd.R (Kd.int .u8) 5 w' w0.heap.size (fun k_ => (P0_ k_ ∨ w.heap.size ≤ k_)) u9000_ r ∧ Below w0.heap.size w0 w' ∧ Kept w w' (fun k_ => P0_ k_) := by
  have HO0 := Aside0.mk (show Kd.R (Kd.int .u8) 5 w w0.heap.size (fun k_ => (P0_ k_ ∨ w.heap.size ≤ k_)) u9000_ l0 from Kd.R_mono ho0 (fun k_ hk => (.inl hk)))
  have HK := Aside0.mk (Kept.refl w (fun k_ => P0_ k_))
  have HW0 := Aside0.mk hB.size
  have HB := Aside0.mk hB
  clear hB
  have H : (slices_Reverse_byte_byte.l0 k l0 0 (wrap64 ((l0.length : Int) - 1))) = some r := h
  clear h
  have H' := Aside0.mk H
  clear H
  obtain ⟨Ao2, co2, eo2⟩ := Kd.R_slice HO0.out
  subst eo2
  go_enter Tryd.func41, Tryd.ntmps41
  go_wp2
  go_loopg [2, 3] k (fun kq v2 v3 w' => ∃ (x0_1 : List Int) (x2_1 : Int) (x3_1 : Int), v2 = .int .i64 x2_1 ∧ v3 = .int .i64 x3_1 ∧ Aside0 (slices_Reverse_byte_byte.l0 kq x0_1 x2_1 x3_1 = some r) ∧ Aside0 (kq ≤ k) ∧ Aside0 (Kd.R (Kd.int .u8) 5 w' w0.heap.size (fun k_ => (P0_ k_ ∨ w.heap.size ≤ k_)) (.slice Ao2 l0.length co2) x0_1) ∧ Aside0 (Kept w w' (fun k_ => P0_ k_)) ∧ Aside0 (Below w0.heap.size w0 w'))
  case atStart => exact ⟨(l0), (0), (wrap64 ((l0.length : Int) - 1)), (by first | rfl | (simp; done) | (simp [*]; done)), (by first | rfl | (simp; done) | (simp [*]; done)), H', ⟨Nat.le_refl _⟩, ⟨by (with_reducible repeat (first | apply Kd.R_alloc | apply Kd.R_drewN | apply Kd.R_drew)); exact HO0.out⟩, ⟨by repeat (first | (with_reducible first | exact HK.out | apply Kept.alloc | apply Kept.drewN | apply Kept.drew) | exact HK.out)⟩, ⟨by repeat (first | (with_reducible first | exact HB.out | apply below_alloc | apply pw_below_drewN | apply below_drew1) | exact HB.out)⟩⟩
  case round =>
    clear H'
    try clear p2
    obtain ⟨x0_1, x2_1, x3_1, rfl, rfl, HA, HK1, HO_0, HK, HB⟩ := hrel
    have hl0_1 := (Kd.R_reads' HO_0.out).1
    rw [hl0_1] at HO_0
    (try simp only [hl0_1])
    cases gk with
    | zero => exact absurd HA.out (by simp [slices_Reverse_byte_byte.l0])
    | succ k1 =>
      have H := HA.out
      clear HA
      simp only [slices_Reverse_byte_byte.l0] at H
      by_cases c3 : x2_1 < x3_1
      · rw [if_pos c3] at H
        have c3b0 : decide (x2_1 < x3_1) = true := decide_eq_true c3
        clear c3
        by_cases c4 : 0 ≤ x3_1
        · rw [if_pos c4] at H
          have c4b0 : decide (0 ≤ x3_1) = true := decide_eq_true c4
          clear c4
          by_cases c5 : x3_1 < (x0_1.length : Int)
          · rw [if_pos c5] at H
            have c5b0 : decide (x3_1 < (x0_1.length : Int)) = true := decide_eq_true c5
            clear c5
            by_cases c6 : 0 ≤ x2_1
            · rw [if_pos c6] at H
              have c6b0 : decide (0 ≤ x2_1) = true := decide_eq_true c6
              clear c6
              by_cases c7 : x2_1 < (x0_1.length : Int)
              · rw [if_pos c7] at H
                have c7b0 : decide (x2_1 < (x0_1.length : Int)) = true := decide_eq_true c7
                clear c7
                obtain ⟨y103, hy103⟩ : ∃ y_ : List Int, y_ = (x0_1.set (x2_1 : Int).toNat (rd x0_1 x3_1)) := ⟨_, rfl⟩
                replace H : (slices_Reverse_byte_byte.l0 k1 (y103.set (x3_1 : Int).toNat (rd x0_1 x2_1)) (wrap64 (x2_1 + 1)) (wrap64 (x3_1 - 1))) = some r := by first | (rw [hy103]; with_reducible exact H) | (have H2_ := (Option.bind_some _ _).symm.trans H; rw [hy103]; with_reducible exact H2_) | (have H2_ := (Option.bind_some _ _).symm.trans H; with_reducible exact H2_) | with_reducible exact H | (rw [hy103]; exact H) | exact H
                have Ny103 := Aside0.mk hy103
                clear hy103
                obtain ⟨y104, hy104⟩ : ∃ y_ : List Int, y_ = (y103.set (x3_1 : Int).toNat (rd x0_1 x2_1)) := ⟨_, rfl⟩
                replace H : (slices_Reverse_byte_byte.l0 k1 y104 (wrap64 (x2_1 + 1)) (wrap64 (x3_1 - 1))) = some r := by first | (rw [hy104]; with_reducible exact H) | (have H2_ := (Option.bind_some _ _).symm.trans H; rw [hy104]; with_reducible exact H2_) | (have H2_ := (Option.bind_some _ _).symm.trans H; with_reducible exact H2_) | with_reducible exact H | (rw [hy104]; exact H) | exact H
                have Ny104 := Aside0.mk hy104
                clear hy104
                have H' := Aside0.mk H
                clear H
                try go_wp2
                have n0_ := Aside0.mk (Kd.R_drew HO_0.out)
                have n1_ := Aside0.mk (Kept.drew HK.out)
                have n2_ := Aside0.mk (below_drew1 HB.out)
                clear HO_0
                clear HK
                clear HB
                have HO_0 := n0_
                have HK := n1_
                have HB := n2_
                clear n0_ n1_ n2_
                have p101 : 0 ≤ (x3_1 : Int) := of_decide_eq_true (by first | (with_reducible assumption) | assumption)
                have q101 : x3_1 < (x0_1.length : Int) := of_decide_eq_true (by first | (with_reducible assumption) | assumption)
                obtain ⟨ad101, e101, hx101_0⟩ := Kd.at_int (Kd.R_reads' HO_0.out).2.2 x3_1 p101 q101
                cases e101
                replace p101 := eq_true p101
                replace q101 := eq_true q101
                have p102 : 0 ≤ (x2_1 : Int) := of_decide_eq_true (by first | (with_reducible assumption) | assumption)
                have q102 : x2_1 < (x0_1.length : Int) := of_decide_eq_true (by first | (with_reducible assumption) | assumption)
                obtain ⟨ad102, e102, hx102_0⟩ := Kd.at_int (Kd.R_reads' HO_0.out).2.2 x2_1 p102 q102
                obtain rfl : ad101 = ad102 := (by injection e102)
                replace p102 := eq_true p102
                replace q102 := eq_true q102
                have p8 : 0 ≤ (x2_1 : Int) := of_decide_eq_true (by first | (with_reducible assumption) | assumption)
                have q8 : (x2_1 : Int) < ((x0_1.length : Int) : Int) := of_decide_eq_true (by first | (with_reducible assumption) | assumption)
                obtain ⟨go8, co8, eo8, gb8, gl8, cl8, HG8⟩ := Kd.R_form HO_0.out (by omega)
                (first | cases eo8 | (injection eo8 with ea_ en_ ec_; (first | subst ea_ | (injection ea_ with ea_; subst ea_)); subst ec_; clear en_))
                have GB8 := Aside0.mk gb8
                have GG8 := Aside0.mk HG8
                clear gb8 gl8 HG8
                have HMgo8 := Aside0.mk (show (P0_ go8 ∨ w.heap.size ≤ go8) from (HO_0.out.1 _ rfl))
                (first | simp only [add_plain] at hx101_0 | skip)
                (first | simp only [add_plain] at hx102_0 | skip)
                obtain ⟨hx8_0, hf8_0⟩ := Kd.R_celln 0 HO_0.out (x2_1 : Int) p8 q8
                replace p8 := eq_true p8
                replace q8 := eq_true q8
                have HP11 := Kd.R_putn HO_0.out (x2_1 : Int) (rd x0_1 x3_1)
                rw [← Ny103.out] at HP11
                have HQ11 := Aside0.mk HP11
                clear HP11
                have p9 : 0 ≤ (x3_1 : Int) := of_decide_eq_true (by first | (with_reducible assumption) | assumption)
                have q9 : (x3_1 : Int) < ((x0_1.length : Int) : Int) := of_decide_eq_true (by first | (with_reducible assumption) | assumption)
                obtain ⟨hx9_0, hf9_0⟩ := Kd.R_celln 0 HQ11.out (x3_1 : Int) p9 q9
                replace p9 := eq_true p9
                replace q9 := eq_true q9
                have HP12 := Kd.R_putn HQ11.out (x3_1 : Int) (rd x0_1 x2_1)
                rw [← Ny104.out] at HP12
                have HQ12 := Aside0.mk HP12
                clear HP12
                refine start_ (n := 16) (S := fun w' => w'.cell? ⟨go8, (x3_1).toNat, none⟩ = some (.int .u8 (rd x0_1 x3_1)) ∧ w'.cell? ⟨go8, (x2_1).toNat, none⟩ = some (.int .u8 (rd x0_1 x2_1))) (ds := [13, 15]) #[false, false, false, false, false, false, false, false, false, false, false, false, false, false, false, false] (by kernel_rfl) rfl rfl ⟨hx101_0, hx102_0⟩ (fun hHeld => ?_); refine with_tabW slices_Reverse_byte_byte.tab3 slices_Reverse_byte_byte.bits3 (fun HT_ HW_ => ?_)
                generalize wr.drew = w10 at HO_0 HK HB GG8 HQ11 HQ12 hf8_0 hf9_0 hx101_0 hx102_0 hx8_0 hx9_0 hHeld ⊢
                refine pure_ (i := 0) (N := some 14) (v := ?_) (a' := ?_) #[true, false, false, false, false, false, false, false, false, false, false, false, false, false, false, false] rfl rfl (any_of HT_.out (by kernel_rfl)) (fun _ _ _ h => h) (Or.inl ⟨by rfl, ?_⟩) ?_ ?_
                rotate_left
                · intro w'
                  go_simp
                  with_reducible rfl
                rotate_left
                · simp only [Act.put, List.setIfInBounds_toArray, List.set_cons_zero, List.set_cons_succ, i64_w, i32_w]
                  rfl
                refine pure_ (i := 1) (N := some 15) (v := ?_) (a' := ?_) #[true, true, false, false, false, false, false, false, false, false, false, false, false, false, false, false] rfl rfl (any_of HT_.out (by kernel_rfl)) (fun _ _ _ h => h) (Or.inl ⟨by rfl, ?_⟩) ?_ ?_
                rotate_left
                · intro w'
                  go_simp
                  with_reducible rfl
                rotate_left
                · simp only [Act.put, List.setIfInBounds_toArray, List.set_cons_zero, List.set_cons_succ, i64_w, i32_w]
                  rfl
                refine pure_ (i := 2) (N := some 16) (v := ?_) (a' := ?_) #[true, true, true, false, false, false, false, false, false, false, false, false, false, false, false, false] rfl rfl (any_of HT_.out (by kernel_rfl)) (fun _ _ _ h => h) (Or.inl ⟨by rfl, ?_⟩) ?_ ?_
                rotate_left
                · intro w'
                  go_simp
                  with_reducible rfl
                rotate_left
                · simp only [Act.put, List.setIfInBounds_toArray, List.set_cons_zero, List.set_cons_succ, i64_w, i32_w]
                  rfl
                refine pure_ (i := 3) (N := some 17) (v := ?_) (a' := ?_) #[true, true, true, true, false, false, false, false, false, false, false, false, false, false, false, false] rfl rfl (any_of HT_.out (by kernel_rfl)) (fun _ _ _ h => h) (Or.inl ⟨by rfl, ?_⟩) ?_ ?_
                rotate_left
                · intro w'
                  go_simp
                  with_reducible rfl
                rotate_left
                · simp only [Act.put, List.setIfInBounds_toArray, List.set_cons_zero, List.set_cons_succ, i64_w, i32_w]
                  rfl
                refine pure_ (i := 4) (N := some 18) (v := ?_) (a' := ?_) #[true, true, true, true, true, false, false, false, false, false, false, false, false, false, false, false] rfl rfl (any_of HT_.out (by kernel_rfl)) (fun _ _ _ h => h) (Or.inl ⟨by rfl, ?_⟩) ?_ ?_
                rotate_left
                · intro w'
                  go_simp
                  with_reducible rfl
                rotate_left
                · simp only [Act.put, List.setIfInBounds_toArray, List.set_cons_zero, List.set_cons_succ, i64_w, i32_w]
                  rfl
                refine pure_ (i := 5) (N := some 19) (v := ?_) (a' := ?_) #[true, true, true, true, true, true, false, false, false, false, false, false, false, false, false, false] rfl rfl (any_of HT_.out (by kernel_rfl)) (fun _ _ _ h => h) (Or.inl ⟨by rfl, ?_⟩) ?_ ?_
                rotate_left
                · intro w'
                  go_simp
                  with_reducible rfl
                rotate_left
                · simp only [Act.put, List.setIfInBounds_toArray, List.set_cons_zero, List.set_cons_succ, i64_w, i32_w]
                  rfl
                refine pure_ (i := 6) (N := some 20) (v := ?_) (a' := ?_) #[true, true, true, true, true, true, true, false, false, false, false, false, false, false, false, false] rfl rfl (any_of HT_.out (by kernel_rfl)) (fun _ _ _ h => h) (Or.inl ⟨by rfl, ?_⟩) ?_ ?_
                rotate_left
                · intro w'
                  go_simp
                  with_reducible rfl
                rotate_left
                · simp only [Act.put, List.setIfInBounds_toArray, List.set_cons_zero, List.set_cons_succ, i64_w, i32_w]
                  rfl
                refine pure_ (i := 8) (N := some 22) (v := ?_) (a' := ?_) #[true, true, true, true, true, true, true, false, true, false, false, false, false, false, false, false] rfl rfl (any_of HT_.out (by kernel_rfl)) (fun _ _ _ h => h) (Or.inl ⟨by rfl, ?_⟩) ?_ ?_
                rotate_left
                · intro w'
                  go_simp
                  with_reducible rfl
                rotate_left
                · simp only [Act.put, List.setIfInBounds_toArray, List.set_cons_zero, List.set_cons_succ, i64_w, i32_w]
                  rfl
                refine pure_ (i := 9) (N := some 23) (v := ?_) (a' := ?_) #[true, true, true, true, true, true, true, false, true, true, false, false, false, false, false, false] rfl rfl (any_of HT_.out (by kernel_rfl)) (fun _ _ _ h => h) (Or.inl ⟨by rfl, ?_⟩) ?_ ?_
                rotate_left
                · intro w'
                  go_simp
                  with_reducible rfl
                rotate_left
                · simp only [Act.put, List.setIfInBounds_toArray, List.set_cons_zero, List.set_cons_succ, i64_w, i32_w]
                  rfl
                refine pure_ (i := 10) (N := some 24) (v := ?_) (a' := ?_) #[true, true, true, true, true, true, true, false, true, true, true, false, false, false, false, false] rfl rfl (any_of HT_.out (by kernel_rfl)) (fun _ _ _ h => h) (Or.inl ⟨by rfl, ?_⟩) ?_ ?_
                rotate_left
                · intro w'
                  go_simp
                  with_reducible rfl
                rotate_left
                · simp only [Act.put, List.setIfInBounds_toArray, List.set_cons_zero, List.set_cons_succ, i64_w, i32_w]
                  rfl
                refine take_ (i := 7) (N := some 21) (v := ?_) (a' := ?_) #[true, true, true, true, true, true, true, true, true, true, true, false, false, false, false, false] rfl rfl (take_ofW HT_.out HW_.out (by kernel_rfl)) (fun _ _ _ h => h) (Or.inl ⟨by rfl, ?_⟩) hHeld ?_ ?_
                rotate_left
                · rintro w' ⟨s0, s1⟩
                  go_simp
                  with_reducible rfl
                rotate_left
                · simp only [Act.put, List.setIfInBounds_toArray, List.set_cons_zero, List.set_cons_succ, i64_w, i32_w]
                  rfl
                refine take_ (i := 11) (N := some 25) (v := ?_) (a' := ?_) #[true, true, true, true, true, true, true, true, true, true, true, true, false, false, false, false] rfl rfl (take_ofW HT_.out HW_.out (by kernel_rfl)) (fun _ _ _ h => h) (Or.inl ⟨by rfl, ?_⟩) hHeld ?_ ?_
                rotate_left
                · rintro w' ⟨s0, s1⟩
                  go_simp
                  with_reducible rfl
                rotate_left
                · simp only [Act.put, List.setIfInBounds_toArray, List.set_cons_zero, List.set_cons_succ, i64_w, i32_w]
                  rfl
                refine pure_ (i := 12) (N := some 26) (v := ?_) (a' := ?_) #[true, true, true, true, true, true, true, true, true, true, true, true, true, false, false, false] rfl rfl (any_of HT_.out (by kernel_rfl)) (fun _ _ _ h => h) (Or.inl ⟨by rfl, ?_⟩) ?_ ?_
                rotate_left
                · intro w'
                  go_simp
                  with_reducible rfl
                rotate_left
                · simp only [Act.put, List.setIfInBounds_toArray, List.set_cons_zero, List.set_cons_succ, i64_w, i32_w]
                  rfl
                refine last_ (i := 13) (N := none) #[true, true, true, true, true, true, true, true, true, true, true, true, true, true, false, false] rfl rfl (one_of HT_.out (by kernel_rfl)) (by decide) (fun K hK => ?_)
                refine skip_ (w1 := ?_) (by rfl) rfl ?_ ?_
                rotate_left
                · go_simp
                  rfl
                refine hK.out _ _ ?_
                clear hK K
                refine pure_ (i := 14) (N := some 27) (v := ?_) (a' := ?_) #[true, true, true, true, true, true, true, true, true, true, true, true, true, true, true, false] rfl rfl (any_of HT_.out (by kernel_rfl)) (fun _ _ _ h => h) (Or.inl ⟨by rfl, ?_⟩) ?_ ?_
                rotate_left
                · intro w'
                  go_simp
                  with_reducible rfl
                rotate_left
                · simp only [Act.put, List.setIfInBounds_toArray, List.set_cons_zero, List.set_cons_succ, i64_w, i32_w]
                  rfl
                refine last_ (i := 15) (N := none) #[true, true, true, true, true, true, true, true, true, true, true, true, true, true, true, true] rfl rfl (one_of HT_.out (by kernel_rfl)) (by decide) (fun K hK => ?_)
                refine skip_ (w1 := ?_) (by rfl) rfl ?_ ?_
                rotate_left
                · go_simp
                  rfl
                refine hK.out _ _ ?_
                clear hK K
                refine done_ (done_of HT_.out (by kernel_rfl)) ?_
                try go_wp2
                (try simp only [← hl0_1])
                go_roundg k1
                case measure => have := HK1.out; omega
                case rel => exact ⟨(y104), (wrap64 (x2_1 + 1)), (wrap64 (x3_1 - 1)), (by first | rfl | (simp; done) | (simp [*]; done)), (by first | rfl | (simp; done) | (simp [*]; done)), H', ⟨by have := HK1.out; omega⟩, ⟨by (try simp only [hl0_1]); (with_reducible repeat (first | apply Kd.R_alloc | apply Kd.R_drewN | apply Kd.R_drew)); exact HQ12.out⟩, ⟨by repeat (first | (with_reducible first | exact HK.out | apply Kept.alloc | apply Kept.drewN | apply Kept.drew | refine Kept.setCell ?_ HMgo8.out _ | refine Kept.setCell ?_ HMgo8.out _) | exact HK.out)⟩, ⟨by repeat (first | (with_reducible first | exact HB.out | apply below_alloc | apply pw_below_drewN | apply below_drew1 | refine below_set ?_ GB8.out | refine below_set ?_ GB8.out) | exact HB.out)⟩⟩
              · rw [if_neg c7] at H
                exact absurd H (by simp)
            · rw [if_neg c6] at H
              exact absurd H (by simp)
          · rw [if_neg c5] at H
            exact absurd H (by simp)
        · rw [if_neg c4] at H
          exact absurd H (by simp)
      · rw [if_neg c3] at H
        have c3b0 : decide (x2_1 < x3_1) = false := decide_eq_false c3
        clear c3
        obtain rfl := Option.some.inj H
        go_wp2
        first | go_end0 | ((try simp only [Exit.inBlock, Exit.then]); refine bodyPost_ret (results_none rfl _ _ _) rfl ?_)
        exact ⟨by first | rfl | (simp [errW_none, errW_some] <;> rfl) | (simp [*, errW_none, errW_some] <;> rfl), (by first | exact (by (with_reducible repeat (first | apply Kd.R_alloc | apply Kd.R_drewN | apply Kd.R_drew)); exact HO_0.out) | (simp only [hl0_1]; exact (by (with_reducible repeat (first | apply Kd.R_alloc | apply Kd.R_drewN | apply Kd.R_drew)); exact HO_0.out))), by repeat (first | (with_reducible first | exact HB.out | apply below_alloc | apply pw_below_drewN | apply below_drew1) | exact HB.out), by repeat (first | (with_reducible first | exact HK.out | apply Kept.alloc | apply Kept.drewN | apply Kept.drew) | exact HK.out)⟩

end Go.Proofs.YtbcjhmeeonhmaaaDoor.M
end

section
set_option linter.unusedVariables false
namespace Go.Proofs.YtbcjhmeeonhmaaaDoor.H
open Go Go.RowKit Go.Proofs.YtbcjhmeeonhmaaaDoorW.PrintWords Go.Proofs.YtbcjhmeeonhmaaaDoor.M

theorem set_mid (A M B : List Int) (x y : Int) (i j : Nat) (hi : i = A.length) (hj : j = A.length + 1 + M.length) :
    ((A ++ x :: (M ++ y :: B)).set i y).set j x = (A ++ [y]) ++ (M ++ (x :: B)) := by
  subst hi hj
  rw [List.set_append_right _ _ (Nat.le_refl _), Nat.sub_self, List.set_cons_zero, List.set_append_right _ _ (by omega), show A.length + 1 + M.length - A.length = M.length + 1 from by omega, List.set_cons_succ,
    List.set_append_right _ _ (Nat.le_refl _), Nat.sub_self, List.set_cons_zero]
  simp
theorem rev_loop : ∀ (d : Nat) (M A B : List Int) (k : Nat) (i j : Int), M.length = d → i = A.length → j = (A.length : Int) + M.length - 1 → (A ++ (M ++ B)).length < 4611686018427387904 → d < k →
    slices_Reverse_byte_byte.l0 k (A ++ (M ++ B)) i j = some (A ++ (M.reverse ++ B)) := by
  intro d
  induction d using Nat.strongRecOn with
  | _ d ih =>
    intro M A B k i j hM hi hj hL hk
    obtain ⟨k, rfl⟩ : ∃ m, k = m + 1 := ⟨k - 1, by omega⟩
    simp only [slices_Reverse_byte_byte.l0]
    match M, hM with
    | [], hM => rw [if_neg (by simp at hj; omega)]; rfl
    | [x], hM => rw [if_neg (by simp at hj; omega)]; rfl
    | x :: z :: M2, hM =>
      obtain ⟨M', y, hMy⟩ : ∃ M' y, z :: M2 = M' ++ [y] := ⟨(z :: M2).dropLast, (z :: M2).getLast (by simp), (List.dropLast_concat_getLast (by simp)).symm⟩
      rw [hMy] at hM hj hL ⊢
      have hl : (A ++ (x :: (M' ++ [y]) ++ B)).length = A.length + M'.length + 2 + B.length := by simp; omega
      rw [hl] at hL
      simp only [List.length_cons, List.length_append, List.length_nil] at hM hj
      rw [hl, if_pos (by omega), if_pos (by omega), if_pos (by omega), if_pos (by omega), if_pos (by omega)]
      have e1 : A ++ (x :: (M' ++ [y]) ++ B) = A ++ x :: (M' ++ y :: B) := by simp
      have r1 : rd (A ++ x :: (M' ++ y :: B)) j = y := by
        unfold rd
        rw [List.getD_eq_getElem?_getD, List.getElem?_append_right (by omega), show j.toNat - A.length = M'.length + 1 from by omega, List.getElem?_cons_succ, List.getElem?_append_right (Nat.le_refl _), Nat.sub_self]
        rfl
      have r2 : rd (A ++ x :: (M' ++ y :: B)) i = x := by
        unfold rd
        rw [List.getD_eq_getElem?_getD, List.getElem?_append_right (by omega), show i.toNat - A.length = 0 from by omega]
        rfl
      rw [e1, r1, r2, set_mid A M' B x y _ _ (by omega) (by omega)]
      have w1 : wrap64 (i + 1) = i + 1 := by unfold wrap64; omega
      have w2 : wrap64 (j - 1) = j - 1 := by unfold wrap64; omega
      rw [w1, w2, ih M'.length (by omega) M' (A ++ [y]) (x :: B) k _ _ rfl (by simp; omega) (by simp; omega) (by simp; omega) (by omega)]
      simp
theorem reverse_f (l : List Int) (h : l.length < 4611686018427387904) : slices_Reverse_byte_byte.f (l.length + 1) l = some l.reverse := by
  unfold slices_Reverse_byte_byte.f
  have w1 : wrap64 ((l.length : Int) - 1) = (l.length : Int) - 1 := by unfold wrap64; omega
  have := rev_loop l.length l [] [] (l.length + 1) 0 ((l.length : Int) - 1) rfl rfl (by simp) (by simpa using h) (by omega)
  simp only [List.nil_append, List.append_nil] at this
  rw [w1, this]
end Go.Proofs.YtbcjhmeeonhmaaaDoor.H
end

section
set_option linter.unusedVariables false
namespace Go.Proofs.YtbcjhmeeonhmaaaDoor.H
open Go Go.RowKit Go.Proofs.YtbcjhmeeonhmaaaDoorW.PrintWords Go.Proofs.YtbcjhmeeonhmaaaDoor.M
attribute [local go_sem] Oper.semAt_some

theorem info_u8 : (Tryd.prog.info? 5).map (fun i => (i.zero, i.size, i.bytes)) = some (some (.int .u8 0), 1, 1) := by kernel_rfl
/-- A number's digits. -/
def putS (b n : Nat) : ByteArray := strOfNums (dgc b n).reverse
theorem dgc_len (b : Nat) (hb : 2 ≤ b) : ∀ (k n : Nat), n < 2 ^ (k + 1) → (dgc b n).length ≤ k + 1
  | 0, n, h => by
    have : n / b = 0 := Nat.div_eq_of_lt (by omega)
    rw [dgc_stop this]; simp
  | k + 1, n, h => by
    by_cases h0 : n / b = 0
    · rw [dgc_stop h0]; simp
    · rw [dgc_more hb h0, List.length_cons]
      have : n / b ≤ n / 2 := Nat.div_le_div_left hb (by omega)
      have := dgc_len b hb k (n / b) (by rw [Nat.pow_succ] at h; omega)
      omega

theorem reversed_mk (b n : Nat) (D : ByteArray) (w : World) : Calls Tryd.prog 40 #[.agg #[.int .u64 b, .string D], .int .u64 n] w fun e w' =>
    e = .returned (.func (.func 56) #[] #[.pointer (some ⟨w.heap.size, 0, none⟩), .pointer (some ⟨w.heap.size + 1, 0, none⟩)]) ∧ (w.alloc (.cells #[.int .u64 b, .string D] 84)).alloc (.cells #[.int .u64 n] 56) = w' := by
  have hmf : ∀ (fn : Fn) (first cap : Array Value) (w : World), (Instr.makeFunc fn first cap).run Tryd.prog w = .ok (.func fn first cap) w := fun _ _ _ _ => rfl
  go_enter Tryd.func40, Tryd.ntmps40
  go_wp2
  go_ret
  exact ⟨rfl, rfl⟩

set_option maxRecDepth 100000 in
set_option maxHeartbeats 1000000 in
theorem put_of (b n : Nat) (hb : b = 8 ∨ b = 10 ∨ b = 16) (hn : n < 18446744073709551616) (w : World) (hof : ∀ w, Calls Tryd.prog 39 #[.int .i64 b] w fun e w' => e = .returned (.tuple #[.agg #[.int .u64 b, .string (dig16.extract 0 b)], .nilIface]) ∧ Below w.heap.size w w') :
    Calls Tryd.prog 26 #[.int .i64 b, .int .u64 n] w fun e w' => e = .returned (.string (putS b n)) ∧ Below w.heap.size w w' := by
  have HN := Lib.hid hn
  have HBb := Lib.hid hb
  have HOF := Lib.hid hof
  clear hn hb hof
  obtain ⟨i0, hi, hz0, hz1, hz2⟩ := info_parts info_u8
  obtain ⟨D, hD⟩ : ∃ D, dig16.extract 0 b = D := ⟨_, rfl⟩
  have HD := Lib.hid hD
  clear hD
  refine (callsIn_wide (n := 0)).1 ?_
  refine callsIn_of_wp_marks Tryd.func26 rfl trivial ?_ rfl
  simp only [Tryd.ntmps26, List.size_toArray, List.length_cons, List.length_nil, Nat.reduceAdd, Nat.reduceSub, Array.replicate_succ, Array.replicate_zero, List.push_toArray, List.append_toArray, List.nil_append, List.cons_append]
  gi_wp2_with fail
  refine ⟨trivial, rfl, callsIn_wide.2 ((HOF.out _).mono ?_)⟩
  rintro _ w1 ⟨rfl, hb1⟩
  rw [HD.out]
  gi_wp2_with (refine ⟨trivial, rfl, ?_⟩; gi_at_call 40; refine callsIn_wide.2 ((reversed_mk _ _ _ _).mono ?_); rintro e w' ⟨rfl, rfl⟩)
  obtain ⟨W0, hW0⟩ : ∃ W0, (((w1.alloc (.cells #[.int .u64 b, .string D] 84)).alloc (.cells #[.slice none 0 0] 59)).alloc (.cells #[.int .u64 b, .string D] 84)).alloc (.cells #[.int .u64 n] 56) = W0 := ⟨_, rfl⟩
  have hz : W0.heap.size = w1.heap.size + 4 := by rw [← hW0]; simp
  have hbL : Boxed W0 (w1.heap.size + 1) 59 (.slice none 0 0) := by rw [← hW0]; have := Boxed.new (w1.alloc (.cells #[.int .u64 b, .string D] 84)) 59 (.slice none 0 0); rw [World.size_alloc] at this; exact (this.alloc _).alloc _
  have hB0 : Below w1.heap.size w1 W0 := by rw [← hW0]; exact ((((Below.refl _ w1).alloc (Nat.le_refl _) _).alloc (by simp) _).alloc (by simp; omega) _).alloc (by simp; omega) _
  have hAt : BAt (w1.heap.size + 1 + 1) (w1.heap.size + 1 + 1 + 1) b n W0 := by
    have k1 : W0.heap[w1.heap.size + 1 + 1]? = some (.cells #[.int .u64 b, .string D] 84 (0, 0)) := by
      rw [← hW0]; have := World.alloc_heap_new ((w1.alloc (.cells #[.int .u64 b, .string D] 84)).alloc (.cells #[.slice none 0 0] 59)) (.cells #[.int .u64 b, .string D] 84); rw [World.size_alloc, World.size_alloc] at this
      exact (Below.heap_alloc _ _ _ (by simp)).trans this
    have k2 : W0.heap[w1.heap.size + 1 + 1 + 1]? = some (.cells #[.int .u64 n] 56 (0, 0)) := by
      rw [← hW0]; have := World.alloc_heap_new (((w1.alloc (.cells #[.int .u64 b, .string D] 84)).alloc (.cells #[.slice none 0 0] 59)).alloc (.cells #[.int .u64 b, .string D] 84)) (.cells #[.int .u64 n] 56); rw [World.size_alloc, World.size_alloc, World.size_alloc] at this
      exact this
    exact ⟨by simp [World.cell?, k1], by rw [HD.out]; simp [World.cell?, k1], by simp [World.cell?, k2], by simp [World.frozen?, k2]⟩
  rw [hW0]
  have HDL := Lib.hid (dgc_len b (by have := HBb.out; omega) 63 n (by have := HN.out; omega))
  refine wp_rangeFunc_iter (gf := 56) (lb := #[.pointer (some ⟨w1.heap.size + 1 + 1, 0, none⟩), .pointer (some ⟨w1.heap.size + 1 + 1 + 1, 0, none⟩)]) rfl (enters_of Tryd.func56 (by kernel_rfl) rfl)
    (reversed_iter (w1.heap.size + 1 + 1) (w1.heap.size + 1 + 1 + 1) b n HBb.out HN.out (by omega))
    (fun A B h => KeepsFrom.of_grownBy h (fun j e => by cases e; omega)) (fun W h => hAt.below h)
    (fun h k => ⟨k.1.trans h.1, k.2.trans h.2⟩) (fun W l o o' hl h _ _ => ⟨World.putObj_heap_other (by omega), World.putObj_heap_other (by omega)⟩) (fun _ => rfl)
    (fun pre W => (∃ v, Boxed W (w1.heap.size + 1) 59 v ∧ W.ownsRow (w1.heap.size + 4) 5 1 v pre.length (pre.map (Value.int .u8))) ∧ Below w1.heap.size w1 W ∧ w1.heap.size + 4 ≤ W.heap.size)
    (fun _ _ _ => False) ?hI (fun _ _ _ _ _ hs _ _ => hs) ?hIs (fun _ _ _ _ h _ => h) (fun x => ownFrom_pure _ _) (ownFrom_pure _ _) (ownFrom_pure _ _)
    ⟨⟨_, hbL, World.ownsRow_nil _ _ _ _⟩, hB0, by omega⟩
    (fun x => { tmps := #[.int .i64 b, .int .u64 n, undef, undef, .string ⟨#[]⟩, .pointer (some ⟨w1.heap.size, 0, none⟩), .nilIface, .pointer (some ⟨w1.heap.size + 1, 0, none⟩), .int .u8 x, .tuple #[.agg #[.int .u64 b, .string D], .nilIface], .int .i64 b, .tuple #[.agg #[.int .u64 b, .string D], .nilIface], .agg #[.int .u64 b, .string D], .nilIface, .nilIface, .bool false, .agg #[.int .u64 b, .string D], .int .u64 n, .func (.func 56) #[] #[.pointer (some ⟨w1.heap.size + 1 + 1, 0, none⟩), .pointer (some ⟨w1.heap.size + 1 + 1 + 1, 0, none⟩)], .int .u8 x, undef, undef, undef, undef, undef, undef, undef, undef], defers := [] }) ?assign ?body ?done ?stop
  case hI =>
    rintro pre A B row ⟨⟨v, hv, hr⟩, hB, hz'⟩ hg hrow
    exact ⟨⟨v, hv.kept hg (fun e => by have := hrow _ e.symm; omega), hr.kept hg (ownBlock_ne_row hr hrow)⟩, hB.grown hg (by omega) (fun k e => by have := hrow _ e; omega), Nat.le_trans hz' hg.size⟩
  case hIs =>
    rintro pre A B ⟨⟨v, hv, hr⟩, hB, hz'⟩ hg
    exact ⟨⟨v, hv.kept hg (fun e => by injection e with e; omega), hr.kept hg (ownBlock_ne_of_base hr (by omega))⟩, hB.grown hg (by omega) (fun k e => by cases e; omega), Nat.le_trans hz' hg.size⟩
  case assign =>
    intro l x W K hK
    gi_wp2
    exact hK
  case stop =>
    rintro D c pre W _ _ h _
    exact h.elim
  case body =>
    rintro l pre x W ⟨⟨v, hv, hrow⟩, hB, hz'⟩ hlen
    have hc := hv.cell
    have hlen' : pre.length < 64 := by have := HDL.out; omega
    clear hlen
    gi_wp2_with (gi_at_builtin; refine wpListIn_append_own _ rfl _ _ 59 rfl (w1.heap.size + 4) 5 i0 (.int .u8 0) 1 1 Tryd.underlying59 hi hz0 hz1 hz2 rfl (by decide) _ _ _ rfl (hrow.alloc _) ⟨W.heap.size, 0, none⟩ 1 1 [.int .u8 x] rfl rfl (cell_one_new _ _ _) (by simp [Value.oneCell']) (by unfold maxLen; omega) (by omega) (by simp; omega) ?_; intro v' w3 hown' hgrow _; obtain ⟨g', cap', rfl⟩ := ownsRow_succ hown'; obtain ⟨hv1, hv2, _, hk2, hb2⟩ := hv.appended (by decide) (ownsRow_base hrow (base' := w1.heap.size + 1) (by omega)) (by omega) (Nat.le_refl _) (ownsRow_base hown' (base' := w1.heap.size + 1) (by omega)) hgrow; have hr2 := hown'.kept (grownBy_setCell' w3 (w1.heap.size + 1) (.slice (some ⟨g', 0, none⟩) (pre.length + 1) cap')) (.inr (hv1.not_row (by decide) hown').symm); have hc1 := hv1.cell; have hf1 := hv1.frozen)
    have hg2 : (W.alloc (.cells #[.int .u8 x] 5)).grownBy w3 v.ownBlock := hgrow
    have oX := fun C (hC : C < w1.heap.size + 4) (hC2 : C ≠ w1.heap.size + 1) => appended_other (C := C) (v' := .slice (some ⟨g', 0, none⟩) (pre.length + 1) cap') hg2 (by omega) (B := w1.heap.size + 1) hC2 (fun e => by rcases ownBlock_ne_of_base hrow (X := C) hC with h | h; rw [h] at e; cases e; exact h e.symm)
    exact ⟨hk2.from _, ⟨oX _ (by omega) (by omega), oX _ (by omega) (by omega)⟩, ⟨⟨_, hv2, by simpa using hr2⟩, hB.trans (hb2.mono (by omega)), by have := hb2.size; omega⟩⟩
  case done =>
    rintro Dk ys W hD hS ⟨⟨v, hv, hrow⟩, hB, hz'⟩ hK
    subst hS
    have hc := hv.cell
    have HR0 := Kd.R_of_own (enc := Value.int .u8) (h1 := fun _ => rfl) (ok := fun k => v.ownBlock = some k) (xs := dgc b n) (ownsRow_base hrow (base' := w1.heap.size) (by omega)) (fun k h => h)
    have hrv := reverse_f (dgc b n) (by have := HDL.out; omega)
    have HRV := Lib.hid hrv
    have hDK : ¬ v.ownBlock = some Dk := fun e => by obtain ⟨cs, hcs⟩ := own_typed hrow _ e; rw [hK] at hcs; cases hcs
    have hDL : ¬ v.ownBlock = some (w1.heap.size + 1) := fun e => hv.not_row (by decide) hrow e.symm
    clear hrv
    gi_wp2_with fail
    refine ⟨trivial, rfl, callsIn_wide.2 ((slices_Reverse_byte_byte.calls _ _ v (dgc b n) _ w1 W hB HR0 HRV.out).mono ?_)⟩
    rintro _ w4 ⟨rfl, hR4, hB4, hK4⟩
    have hc4 : w4.cell? ⟨w1.heap.size + 1, 0, none⟩ = some v := (hv.kept (W' := w4) (row := v.ownBlock) ⟨by rw [hB4.os, hB.os], by rw [hB4.tape, hB.tape], by rw [hB4.output, hB.output], hK4.1, fun k hk hn => hK4.2 k hk (fun e => hn e.symm)⟩ (fun e => hDL e.symm)).cell
    have hDf : w4.heap[Dk]? = some (.deferred (some [])) := (hK4.2 Dk (Array.getElem?_eq_some_iff.1 hK).1 hDK).trans hK
    have hcv := own_string (P := Tryd.prog) (src := 59) (dst := 9) Tryd.underlying59 Tryd.underlying5 Tryd.underlying9 (Kd.own_of_R hR4)
    gi_wp2
    refine ⟨by simp, .inl ⟨_, _, rfl, run_takeDeferred hDf, ?_⟩⟩
    refine ⟨_, results_tmp rfl _ _ _, rfl, ?_⟩
    exact below_tr hb1 (hB4.trans (belowK_b (w := w1) (Nat.le_refl _) w4 Dk _ _ (by omega) hDf rfl rfl))
end Go.Proofs.YtbcjhmeeonhmaaaDoor.H
end

-- Laid by a program of this session for this claim.
section
namespace Go.Proofs.YtbcjhmeeonhmaaaDoor.M
open Go.RowKit Go.Proofs.YtbcjhmeeonhmaaaDoorW.PrintWords Go.Proofs.YtbcjhmeeonhmaaaDoorW.PrintLast Go.Proofs.YtbcjhmeeonhmaaaDoorW.PrintMore
attribute [local go_sem] max2_int min2_int max_two min_two max_three min_three max_four min_four   -- for this text's walks alone
set_option linter.unusedVariables false
set_option linter.unusedSimpArgs false

/-! ### pleacherref03_is: function 46 -/
end Go.Proofs.YtbcjhmeeonhmaaaDoor.M
end

-- Laid by a program of this session for this claim.
section
namespace Go.Proofs.YtbcjhmeeonhmaaaDoor.M
open Go.RowKit Go.Proofs.YtbcjhmeeonhmaaaDoorW.PrintWords Go.Proofs.YtbcjhmeeonhmaaaDoorW.PrintLast Go.Proofs.YtbcjhmeeonhmaaaDoorW.PrintMore
attribute [local go_sem] max2_int min2_int max_two min_two max_three min_three max_four min_four   -- for this text's walks alone
set_option linter.unusedVariables false
set_option linter.unusedSimpArgs false

/-! ### pleacherref03_Put: function 32 -/
end Go.Proofs.YtbcjhmeeonhmaaaDoor.M
end

-- Laid by a program of this session for this claim.
section
namespace Go.Proofs.YtbcjhmeeonhmaaaDoor.M
open Go.RowKit Go.Proofs.YtbcjhmeeonhmaaaDoorW.PrintWords Go.Proofs.YtbcjhmeeonhmaaaDoorW.PrintLast Go.Proofs.YtbcjhmeeonhmaaaDoorW.PrintMore
attribute [local go_sem] max2_int min2_int max_two min_two max_three min_three max_four min_four   -- for this text's walks alone
set_option linter.unusedVariables false
set_option linter.unusedSimpArgs false

/-! ### pleacherref03_digit: function 66 -/
end Go.Proofs.YtbcjhmeeonhmaaaDoor.M
end

-- Laid by a program of this session for this claim.
section
namespace Go.Proofs.YtbcjhmeeonhmaaaDoor.M
open Go.RowKit Go.Proofs.YtbcjhmeeonhmaaaDoorW.PrintWords Go.Proofs.YtbcjhmeeonhmaaaDoorW.PrintLast Go.Proofs.YtbcjhmeeonhmaaaDoorW.PrintMore
attribute [local go_sem] max2_int min2_int max_two min_two max_three min_three max_four min_four   -- for this text's walks alone
set_option linter.unusedVariables false
set_option linter.unusedSimpArgs false

/-! ### pleacherref03_Get: function 53 -/
end Go.Proofs.YtbcjhmeeonhmaaaDoor.M
end

-- Laid by a program of this session for this claim.
section
namespace Go.Proofs.YtbcjhmeeonhmaaaDoor.M
open Go.RowKit Go.Proofs.YtbcjhmeeonhmaaaDoorW.PrintWords Go.Proofs.YtbcjhmeeonhmaaaDoorW.PrintLast Go.Proofs.YtbcjhmeeonhmaaaDoorW.PrintMore
attribute [local go_sem] max2_int min2_int max_two min_two max_three min_three max_four min_four   -- for this text's walks alone
set_option linter.unusedVariables false
set_option linter.unusedSimpArgs false

/-! ### pleacherref03_Own: function 36 -/
end Go.Proofs.YtbcjhmeeonhmaaaDoor.M
end

/-
The document's numbers (pleacherref03) and the program's say the same.
-/
section
set_option linter.unusedVariables false
set_option maxRecDepth 100000
namespace Go.Proofs.YtbcjhmeeonhmaaaDoor.H
open Go Go.RowKit Go.Proofs.YtbcjhmeeonhmaaaDoorW.PrintWords Go.Proofs.YtbcjhmeeonhmaaaDoorW.PrintMore Go.Proofs.YtbcjhmeeonhmaaaDoor.M

theorem strOf_append (a b : List Int) : strOfNums (a ++ b) = strOfNums a ++ strOfNums b := by
  unfold strOfNums
  rw [List.map_append]
  apply ByteArray.ext
  simp
theorem putS_more {b n : Nat} (hb : 2 ≤ b) (h : n / b ≠ 0) : putS b n = putS b (n / b) ++ strOfNums [chr (n % b)] := by
  unfold putS
  rw [dgc_more hb h, List.reverse_cons, strOf_append]
theorem putS_stop {b n : Nat} (h : n / b = 0) : putS b n = strOfNums [chr (n % b)] := by
  unfold putS
  rw [dgc_stop h]; rfl
theorem nil_iff (s : ByteArray) : s.toList = [] ↔ s.size = 0 := by
  rw [toList_data]
  constructor
  · intro e; rw [← size_data, e]; rfl
  · intro h; exact List.eq_nil_of_length_eq_zero (by rw [size_data]; exact h)
/-- What Own says. -/
def ownC (b : Nat) (s : ByteArray) : Int × Int := if (getC b s).2 = 0 ∧ putS b (getC b s).1.toNat ≠ s then (0, 30) else getC b s
theorem getL_lt (b : Nat) : ∀ (l : List UInt8) (acc n : Nat), acc < 18446744073709551616 → b ≤ 16 → getL b l acc = some n → n < 18446744073709551616
  | [], acc, n, h, _, e => by unfold getL at e; obtain rfl := Option.some.inj e; exact h
  | c :: t, acc, n, h, hb, e => by
    unfold getL at e
    cases hs : step b acc c.toNat with
    | none => rw [hs] at e; cases e
    | some a =>
      rw [hs] at e
      refine getL_lt b t a n ?_ hb e
      unfold step at hs
      split at hs
      · cases hs
      · split at hs
        · cases hs
        · obtain rfl := Option.some.inj hs
          rename_i h1 h2
          rcases dgV_bd b (c.toNat : Int) with h | ⟨d, hd, hdb⟩
          · omega
          · rw [hd] at h2 ⊢
            rw [Int.toNat_natCast] at h2 ⊢
            obtain ⟨m, m1, m2, _⟩ := digit_in rfl h2 (by omega)
            omega
theorem getC_bd (b : Nat) (hb : b = 8 ∨ b = 10 ∨ b = 16) (s : ByteArray) : 0 ≤ (getC b s).1 ∧ (getC b s).1 < 18446744073709551616 ∧ ((getC b s).2 = 0 ∨ getC b s = (0, 30)) := by
  unfold getC getN
  by_cases h0 : s.size = 0
  · rw [if_pos h0]; simp
  · rw [if_neg h0]
    cases h : getL b s.data.toList 0 with
    | none => simp
    | some n =>
      have := getL_lt b _ 0 n (by omega) (by omega) h
      simp; omega
end Go.Proofs.YtbcjhmeeonhmaaaDoor.H
end

/-
  DERIVED: THE SHELF's CONTRACTS AT THIS DUMP, IN PLAIN WORDS (tools/lay-plain.mjs out of 'TrydShelf.lean', which tools/lay-shelf.mjs wrote): THE SAME DECLARATIONS UNDER THE SAME NAMES: 'import', 'namespace', 'open', 'def', 'theorem' AND NOTHING ELSE: no command of the shelf's: FOR A HAND-IN. Each laying: the table of numbers ('.._ren') and one theorem, a field a fact of the dump's own or the kernel's comparison; each contract: ONE APPLICATION.
-/
section
namespace Go.Proofs
open Go.Shelf
def Tryd.lays219_ren : Go.Shelf.Ren := ⟨fun | 219 => 68 | 217 => 73 | 225 => 74 | 224 => 75 | 267 => 76 | 266 => 83 | 314 => 84 | n => n, fun | 9 => 9 | 3 => 3 | 4 => 4 | 5 => 5 | 46 => 153 | 146 => 162 | 51 => 161 | n => n, fun | 1 => 3 | n => n⟩
theorem Tryd.lays219 : Go.Proofs.Lays.n219 Tryd.prog Tryd.lays219_ren := {
  mixed := by kernel_rfl
  f217 := Tryd.func73.trans (congrArg some (by kernel_rfl))
  f219 := Tryd.func68.trans (congrArg some (by kernel_rfl))
  f224 := Tryd.func75.trans (congrArg some (by kernel_rfl))
  f225 := Tryd.func74.trans (congrArg some (by kernel_rfl))
  f266 := Tryd.func83.trans (congrArg some (by kernel_rfl))
  f267 := Tryd.func76.trans (congrArg some (by kernel_rfl))
  f314 := Tryd.func84.trans (congrArg some (by kernel_rfl))
  t3 := Tryd.underlying3
  a3 := Tryd.isAgg3
  z3 := Tryd.sizeOf3
  v3 := Tryd.zeroValue3
  t4 := Tryd.underlying4
  a4 := Tryd.isAgg4
  z4 := Tryd.sizeOf4
  v4 := Tryd.zeroValue4
  t5 := Tryd.underlying5
  a5 := Tryd.isAgg5
  z5 := Tryd.sizeOf5
  v5 := Tryd.zeroValue5
  t9 := Tryd.underlying9
  a9 := Tryd.isAgg9
  z9 := Tryd.sizeOf9
  v9 := Tryd.zeroValue9
  t46 := Tryd.underlying153
  a46 := Tryd.isAgg153
  z46 := Tryd.sizeOf153
  v46 := Tryd.zeroValue153
  t51 := Tryd.underlying161
  a51 := Tryd.isAgg161
  z51 := Tryd.sizeOf161
  v51 := Tryd.zeroValue161
  t146 := Tryd.underlying162
  a146 := Tryd.isAgg162
  z146 := Tryd.sizeOf162
  v146 := Tryd.zeroValue162
  g1 := by kernel_rfl }
open Go.RowKit Go.Lib in
/-- internal/stringslite.Index (what strings.Index calls) AT A substr OF ONE BYTE c: IT RETURNS 'Lib.indexByte s c'; the world is as it was. (LAID: no walk: one application.) -/
theorem Tryd.stringslite_Index_one (s : ByteArray) (c : UInt8) (w : World) :
    Calls Tryd.prog 68 #[.string s, .string ⟨#[c]⟩] w fun e w' => e = .returned (.int .i64 (Lib.indexByte s.data.toList c)) ∧ w' = w := Any.stringslite_Index_one Tryd.lays219 s c w
def Tryd.lays144_ren : Go.Shelf.Ren := ⟨fun | 144 => 38 | 143 => 55 | 219 => 68 | 217 => 73 | 225 => 74 | 224 => 75 | 267 => 76 | 266 => 83 | 314 => 84 | n => n, fun | 9 => 9 | 4 => 4 | 3 => 3 | 5 => 5 | 46 => 153 | 146 => 162 | 51 => 161 | n => n, fun | 1 => 3 | n => n⟩
theorem Tryd.lays144 : Go.Proofs.Lays.n144 Tryd.prog Tryd.lays144_ren := {
  mixed := by kernel_rfl
  f143 := Tryd.func55.trans (congrArg some (by kernel_rfl))
  f144 := Tryd.func38.trans (congrArg some (by kernel_rfl))
  f217 := Tryd.func73.trans (congrArg some (by kernel_rfl))
  f219 := Tryd.func68.trans (congrArg some (by kernel_rfl))
  f224 := Tryd.func75.trans (congrArg some (by kernel_rfl))
  f225 := Tryd.func74.trans (congrArg some (by kernel_rfl))
  f266 := Tryd.func83.trans (congrArg some (by kernel_rfl))
  f267 := Tryd.func76.trans (congrArg some (by kernel_rfl))
  f314 := Tryd.func84.trans (congrArg some (by kernel_rfl))
  t3 := Tryd.underlying3
  a3 := Tryd.isAgg3
  z3 := Tryd.sizeOf3
  v3 := Tryd.zeroValue3
  t4 := Tryd.underlying4
  a4 := Tryd.isAgg4
  z4 := Tryd.sizeOf4
  v4 := Tryd.zeroValue4
  t5 := Tryd.underlying5
  a5 := Tryd.isAgg5
  z5 := Tryd.sizeOf5
  v5 := Tryd.zeroValue5
  t9 := Tryd.underlying9
  a9 := Tryd.isAgg9
  z9 := Tryd.sizeOf9
  v9 := Tryd.zeroValue9
  t46 := Tryd.underlying153
  a46 := Tryd.isAgg153
  z46 := Tryd.sizeOf153
  v46 := Tryd.zeroValue153
  t51 := Tryd.underlying161
  a51 := Tryd.isAgg161
  z51 := Tryd.sizeOf161
  v51 := Tryd.zeroValue161
  t146 := Tryd.underlying162
  a146 := Tryd.isAgg162
  z146 := Tryd.sizeOf162
  v146 := Tryd.zeroValue162
  g1 := by kernel_rfl }
open Go.RowKit Go.Lib in
/-- strings.Contains: "Contains reports whether substr is within s.": AT A substr OF ONE BYTE c: IT RETURNS 'decide (0 ≤ Lib.indexByte s c)'; the world is as it was. (LAID: no walk: one application.) -/
theorem Tryd.strings_Contains_one (s : ByteArray) (c : UInt8) (w : World) :
    Calls Tryd.prog 38 #[.string s, .string ⟨#[c]⟩] w fun e w' => e = .returned (.bool (decide (0 ≤ Lib.indexByte s.data.toList c))) ∧ w' = w := Any.strings_Contains_one Tryd.lays144 s c w
end Go.Proofs
end

-- Laid by a program of this session for this claim.
section
namespace Go.Proofs.YtbcjhmeeonhmaaaDoor.M
open Go.RowKit Go.Proofs.YtbcjhmeeonhmaaaDoorW.PrintWords Go.Proofs.YtbcjhmeeonhmaaaDoorW.PrintLast Go.Proofs.YtbcjhmeeonhmaaaDoorW.PrintMore
attribute [local go_sem] max2_int min2_int max_two min_two max_three min_three max_four min_four   -- for this text's walks alone
set_option linter.unusedVariables false
set_option linter.unusedSimpArgs false

/-! ### strings_Contains: function 38 -/
-- IMPORT Derived.Test.YtbcjhmeeonhmaaaDoorShelf
def strings_Contains.f (a0 : ByteArray) (a1 : ByteArray) : Option Bool := if a1.size = 1 then some (decide (0 ≤ Lib.indexByte a0.data.toList (a1.data.getD 0 0))) else none
theorem strings_Contains.calls (a0 : ByteArray) (a1 : ByteArray) (r : Bool) (w : World) (h : strings_Contains.f a0 a1 = some r) :
    Calls Tryd.prog 38 #[.string a0, .string a1] w fun e w' => e = .returned (.bool r) ∧ Below w.heap.size w w' := by
  unfold strings_Contains.f at h
  by_cases hh : a1.size = 1
  · rw [if_pos hh] at h
    obtain rfl := Option.some.inj h
    obtain ⟨⟨l⟩⟩ := a1
    obtain ⟨c, rfl⟩ := List.length_eq_one_iff.1 hh
    exact (Go.Proofs.Tryd.strings_Contains_one a0 c w).mono fun e w' h => ⟨h.1, h.2 ▸ Below.refl _ _⟩
  · rw [if_neg hh] at h; cases h

end Go.Proofs.YtbcjhmeeonhmaaaDoor.M
end

-- Laid by a program of this session for this claim.
section
namespace Go.Proofs.YtbcjhmeeonhmaaaDoor.M
open Go.RowKit Go.Proofs.YtbcjhmeeonhmaaaDoorW.PrintWords Go.Proofs.YtbcjhmeeonhmaaaDoorW.PrintLast Go.Proofs.YtbcjhmeeonhmaaaDoorW.PrintMore
attribute [local go_sem] max2_int min2_int max_two min_two max_three min_three max_four min_four   -- for this text's walks alone
set_option linter.unusedVariables false
set_option linter.unusedSimpArgs false

/-! ### utf_Valid: function 54 -/
-- IMPORT Derived.Test.YtbcjhmeeonhmaaaDoorHValid
def utf_Valid.f (a0 : ByteArray) : Option (Int × Bool) := if a0.size ≤ 1073741824 then some (H.vld a0) else none
theorem utf_Valid.calls (a0 : ByteArray) (r1 : Int) (r2 : Bool) (w : World) (h : utf_Valid.f a0 = some (r1, r2)) :
    Calls Tryd.prog 54 #[.string a0] w fun e w' => e = .returned (.tuple #[.int .i64 r1, .bool r2]) ∧ Below w.heap.size w w' := by
  unfold utf_Valid.f at h
  by_cases hh : a0.size ≤ 1073741824
  · rw [if_pos hh] at h
    have := H.valid a0 w hh
    rw [Option.some.inj h] at this
    exact this
  · rw [if_neg hh] at h; cases h

end Go.Proofs.YtbcjhmeeonhmaaaDoor.M
end

-- Laid by a program of this session for this claim.
section
namespace Go.Proofs.YtbcjhmeeonhmaaaDoor.M
open Go.RowKit Go.Proofs.YtbcjhmeeonhmaaaDoorW.PrintWords Go.Proofs.YtbcjhmeeonhmaaaDoorW.PrintLast Go.Proofs.YtbcjhmeeonhmaaaDoorW.PrintMore
attribute [local go_sem] max2_int min2_int max_two min_two max_three min_three max_four min_four   -- for this text's walks alone
set_option linter.unusedVariables false
set_option linter.unusedSimpArgs false

/-! ### pax_areRunes: function 37 -/
def pax_areRunes.l0 : Nat → List ByteArray → Int → Int → Option (Bool)
  | 0, _, _, _ => none
  | k + 1, x7, x8, x9 => if x9 < x8 then (if 0 ≤ x9 then (if x9 < (x7.length : Int) then ((utf_Valid.f (rdOf ByteArray.empty x7 x9)).bind fun bt117 => (if bt117.2 = true then ((strings_Contains.f (rdOf ByteArray.empty x7 x9) (⟨#[0]⟩ : ByteArray)).bind fun t119 => (if t119 = true then (some false) else (pax_areRunes.l0 k x7 x8 (wrap64 (x9 + 1))))) else (some false))) else (none)) else (none)) else (some true)
def pax_areRunes.f (k : Nat) (l0 : List ByteArray) : Option (Bool) := pax_areRunes.l0 k l0 (l0.length : Int) 0
set_option maxHeartbeats 8000000 in
set_option maxRecDepth 100000 in
theorem pax_areRunes.calls (k : Nat) (A0 : Option Addr) (c0 : Nat) (l0 : List ByteArray) (r : Bool) (w : World) (hr0 : Kd.C Kd.string w A0 l0.length l0) (hc0 : l0.length ≤ c0) (h : pax_areRunes.f k l0 = some r) :
    Calls Tryd.prog 37 #[.slice A0 l0.length c0] w fun e w' => e = .returned (.bool r) ∧ Below w.heap.size w w' := by
  have HR0 := Aside0.mk hr0
  have HC0 := Aside0.mk hc0
  clear hr0 hc0
  have HB := Aside0.mk (Below.refl w.heap.size w)
  have H : (pax_areRunes.l0 k l0 (l0.length : Int) 0) = some r := h
  clear h
  have H' := Aside0.mk H
  clear H
  go_enter Tryd.func37, Tryd.ntmps37
  go_wp2
  go_loopg [9] k (fun kq v9 w' => ∃ (x9_1 : Int), v9 = .int .i64 x9_1 ∧ Aside0 (pax_areRunes.l0 kq l0 (l0.length : Int) x9_1 = some r) ∧ Aside0 (kq ≤ k) ∧ Aside0 (Below w.heap.size w w'))
  case atStart => exact ⟨(0), (by first | rfl | (simp; done) | (simp [*]; done)), H', ⟨Nat.le_refl _⟩, ⟨by repeat (first | (with_reducible first | exact HB.out | apply below_alloc | apply pw_below_drewN | apply below_drew1) | exact HB.out)⟩⟩
  case round =>
    clear H'
    obtain ⟨x9_1, rfl, HA, HK1, HB⟩ := hrel
    cases gk with
    | zero => exact absurd HA.out (by simp [pax_areRunes.l0])
    | succ k1 =>
      have H := HA.out
      clear HA
      simp only [pax_areRunes.l0] at H
      by_cases c2 : x9_1 < (l0.length : Int)
      · rw [if_pos c2] at H
        have c2b0 : decide (x9_1 < (l0.length : Int)) = true := decide_eq_true c2
        clear c2
        by_cases c3 : 0 ≤ x9_1
        · rw [if_pos c3] at H
          have c3b0 : decide (0 ≤ x9_1) = true := decide_eq_true c3
          clear c3
          by_cases c4 : x9_1 < (l0.length : Int)
          · rw [if_pos c4] at H
            have c4b0 : decide (x9_1 < (l0.length : Int)) = true := decide_eq_true c4
            clear c4
            replace H := Option.bind_eq_some_iff.mp H
            obtain ⟨⟨t117, t118⟩, A50, H⟩ := H
            replace H : (if t118 = true then ((strings_Contains.f (rdOf ByteArray.empty l0 x9_1) (⟨#[0]⟩ : ByteArray)).bind fun t119 => (if t119 = true then (some false) else (pax_areRunes.l0 k1 l0 (l0.length : Int) (wrap64 (x9_1 + 1))))) else (some false)) = some r := H
            have A5 := Aside0.mk A50
            clear A50
            by_cases c6 : t118 = true
            · subst c6
              have H1 : ((strings_Contains.f (rdOf ByteArray.empty l0 x9_1) (⟨#[0]⟩ : ByteArray)).bind fun t119 => (if t119 = true then (some false) else (pax_areRunes.l0 k1 l0 (l0.length : Int) (wrap64 (x9_1 + 1))))) = some r := by rw [if_pos rfl] at H; exact H
              clear H
              have H := H1
              clear H1
              replace H := Option.bind_eq_some_iff.mp H
              obtain ⟨t119, A70, H⟩ := H
              replace H : (if t119 = true then (some false) else (pax_areRunes.l0 k1 l0 (l0.length : Int) (wrap64 (x9_1 + 1)))) = some r := H
              have A7 := Aside0.mk A70
              clear A70
              by_cases c8 : t119 = true
              · subst c8
                have H1 : (some false) = some r := by rw [if_pos rfl] at H; exact H
                clear H
                have H := H1
                clear H1
                obtain rfl := Option.some.inj H
                have p116 : 0 ≤ (x9_1 : Int) := of_decide_eq_true (by first | (with_reducible assumption) | assumption)
                have q116 : x9_1 < (l0.length : Int) := of_decide_eq_true (by first | (with_reducible assumption) | assumption)
                obtain ⟨ad116, e116, hx116_0⟩ := Kd.at_string HR0.out x9_1 p116 q116
                cases e116
                replace hx116_0 := (HB.out.cell (World.block_lt_of_cell? w _ hx116_0)).trans hx116_0
                replace p116 := eq_true p116
                replace q116 := eq_true q116
                go_wp2_with (first | ((with_reducible refine gate_callee (f := 54) rfl ?_); refine goesL_ (some 15) rfl rfl Tryd.func54 (by kernel_rfl) rfl #[.string (rdOf ByteArray.empty l0 x9_1)] rfl (by (try simp only [List.map_toArray, List.map_cons, List.map_nil]); first | done | rfl | (simp only [List.length_drop, List.length_take]; rfl)) ?_; (with_reducible refine (utf_Valid.calls (rdOf ByteArray.empty l0 x9_1) t117 true _ A5.out).mono ?_); rintro e w9 ⟨rfl, hb⟩; refine ⟨_, rfl, ?_⟩; have n0_ := Aside0.mk (below_step (by repeat (first | (with_reducible first | exact HB.out | apply below_alloc | apply pw_below_drewN | apply below_drew1) | exact HB.out)) hb); clear HB; have HB := n0_; clear n0_; (try clear hb); (try clear hb2); (try clear hk); (try clear hi)) | (go_at_call 38; (with_reducible refine (strings_Contains.calls (rdOf ByteArray.empty l0 x9_1) (⟨#[0]⟩ : ByteArray) true _ A7.out).mono ?_); rintro e w10 ⟨rfl, hb⟩; have n0_ := Aside0.mk (below_step (by repeat (first | (with_reducible first | exact HB.out | apply below_alloc | apply pw_below_drewN | apply below_drew1) | exact HB.out)) hb); clear HB; have HB := n0_; clear n0_; (try clear hb); (try clear hb2); (try clear hk); (try clear hi)))
                go_ret
                exact ⟨by first | rfl | (simp [errW_none, errW_some] <;> rfl) | (simp [*, errW_none, errW_some] <;> rfl), by repeat (first | (with_reducible first | exact HB.out | apply below_alloc | apply pw_below_drewN | apply below_drew1) | exact HB.out)⟩
              · replace c8 := Bool.eq_false_iff.mpr c8
                subst c8
                have H1 : (pax_areRunes.l0 k1 l0 (l0.length : Int) (wrap64 (x9_1 + 1))) = some r := by rw [if_neg (show ¬ (false = true) by decide)] at H; exact H
                clear H
                have H := H1
                clear H1
                have H' := Aside0.mk H
                clear H
                have p116 : 0 ≤ (x9_1 : Int) := of_decide_eq_true (by first | (with_reducible assumption) | assumption)
                have q116 : x9_1 < (l0.length : Int) := of_decide_eq_true (by first | (with_reducible assumption) | assumption)
                obtain ⟨ad116, e116, hx116_0⟩ := Kd.at_string HR0.out x9_1 p116 q116
                cases e116
                replace hx116_0 := (HB.out.cell (World.block_lt_of_cell? w _ hx116_0)).trans hx116_0
                replace p116 := eq_true p116
                replace q116 := eq_true q116
                go_wp2_with (first | ((with_reducible refine gate_callee (f := 54) rfl ?_); refine goesL_ (some 15) rfl rfl Tryd.func54 (by kernel_rfl) rfl #[.string (rdOf ByteArray.empty l0 x9_1)] rfl (by (try simp only [List.map_toArray, List.map_cons, List.map_nil]); first | done | rfl | (simp only [List.length_drop, List.length_take]; rfl)) ?_; (with_reducible refine (utf_Valid.calls (rdOf ByteArray.empty l0 x9_1) t117 true _ A5.out).mono ?_); rintro e w11 ⟨rfl, hb⟩; refine ⟨_, rfl, ?_⟩; have n0_ := Aside0.mk (below_step (by repeat (first | (with_reducible first | exact HB.out | apply below_alloc | apply pw_below_drewN | apply below_drew1) | exact HB.out)) hb); clear HB; have HB := n0_; clear n0_; (try clear hb); (try clear hb2); (try clear hk); (try clear hi)) | (go_at_call 38; (with_reducible refine (strings_Contains.calls (rdOf ByteArray.empty l0 x9_1) (⟨#[0]⟩ : ByteArray) false _ A7.out).mono ?_); rintro e w12 ⟨rfl, hb⟩; have n0_ := Aside0.mk (below_step (by repeat (first | (with_reducible first | exact HB.out | apply below_alloc | apply pw_below_drewN | apply below_drew1) | exact HB.out)) hb); clear HB; have HB := n0_; clear n0_; (try clear hb); (try clear hb2); (try clear hk); (try clear hi)))
                go_roundg k1
                case measure => have := HK1.out; omega
                case rel => exact ⟨(wrap64 (x9_1 + 1)), (by first | rfl | (simp; done) | (simp [*]; done)), H', ⟨by have := HK1.out; omega⟩, ⟨by repeat (first | (with_reducible first | exact HB.out | apply below_alloc | apply pw_below_drewN | apply below_drew1) | exact HB.out)⟩⟩
            · replace c6 := Bool.eq_false_iff.mpr c6
              subst c6
              have H1 : (some false) = some r := by rw [if_neg (show ¬ (false = true) by decide)] at H; exact H
              clear H
              have H := H1
              clear H1
              obtain rfl := Option.some.inj H
              have p116 : 0 ≤ (x9_1 : Int) := of_decide_eq_true (by first | (with_reducible assumption) | assumption)
              have q116 : x9_1 < (l0.length : Int) := of_decide_eq_true (by first | (with_reducible assumption) | assumption)
              obtain ⟨ad116, e116, hx116_0⟩ := Kd.at_string HR0.out x9_1 p116 q116
              cases e116
              replace hx116_0 := (HB.out.cell (World.block_lt_of_cell? w _ hx116_0)).trans hx116_0
              replace p116 := eq_true p116
              replace q116 := eq_true q116
              go_wp2_with (first | ((with_reducible refine gate_callee (f := 54) rfl ?_); refine goesL_ (some 15) rfl rfl Tryd.func54 (by kernel_rfl) rfl #[.string (rdOf ByteArray.empty l0 x9_1)] rfl (by (try simp only [List.map_toArray, List.map_cons, List.map_nil]); first | done | rfl | (simp only [List.length_drop, List.length_take]; rfl)) ?_; (with_reducible refine (utf_Valid.calls (rdOf ByteArray.empty l0 x9_1) t117 false _ A5.out).mono ?_); rintro e w13 ⟨rfl, hb⟩; refine ⟨_, rfl, ?_⟩; have n0_ := Aside0.mk (below_step (by repeat (first | (with_reducible first | exact HB.out | apply below_alloc | apply pw_below_drewN | apply below_drew1) | exact HB.out)) hb); clear HB; have HB := n0_; clear n0_; (try clear hb); (try clear hb2); (try clear hk); (try clear hi)))
              go_ret
              exact ⟨by first | rfl | (simp [errW_none, errW_some] <;> rfl) | (simp [*, errW_none, errW_some] <;> rfl), by repeat (first | (with_reducible first | exact HB.out | apply below_alloc | apply pw_below_drewN | apply below_drew1) | exact HB.out)⟩
          · rw [if_neg c4] at H
            exact absurd H (by simp)
        · rw [if_neg c3] at H
          exact absurd H (by simp)
      · rw [if_neg c2] at H
        have c2b0 : decide (x9_1 < (l0.length : Int)) = false := decide_eq_false c2
        clear c2
        obtain rfl := Option.some.inj H
        go_wp2
        go_ret
        exact ⟨by first | rfl | (simp [errW_none, errW_some] <;> rfl) | (simp [*, errW_none, errW_some] <;> rfl), by repeat (first | (with_reducible first | exact HB.out | apply below_alloc | apply pw_below_drewN | apply below_drew1) | exact HB.out)⟩

end Go.Proofs.YtbcjhmeeonhmaaaDoor.M
end

/-
The premise on package-level variables, under the name that the printed texts use.
-/
section
namespace Go.Proofs.YtbcjhmeeonhmaaaDoor.M
open Go Go.RowKit
abbrev GW (w : World) : Prop := H.GW w
theorem GW.below {w w1 : World} (g : GW w) (h : Below w.heap.size w w1) : GW w1 := H.GW.below g h
end Go.Proofs.YtbcjhmeeonhmaaaDoor.M
end

-- Laid by a program of this session for this claim.
section
namespace Go.Proofs.YtbcjhmeeonhmaaaDoor.M
open Go.RowKit Go.Proofs.YtbcjhmeeonhmaaaDoorW.PrintWords Go.Proofs.YtbcjhmeeonhmaaaDoorW.PrintLast Go.Proofs.YtbcjhmeeonhmaaaDoorW.PrintMore
attribute [local go_sem] max2_int min2_int max_two min_two max_three min_three max_four min_four   -- for this text's walks alone
set_option linter.unusedVariables false
set_option linter.unusedSimpArgs false

/-! ### pax_isOne: function 25 -/
def pax_isOne.f (k : Nat) (a0_0 : ByteArray) (a0_1 : ByteArray) : Option (Bool) := if a0_0.toList = ([] : List UInt8) then (some false) else (if (a0_0.size : Int) ≤ 400 then (if (a0_1.size : Int) ≤ 400 then ((pax_areRunes.f k (([a0_0, a0_1] : List ByteArray))).bind fun t124 => (if t124 = true then ((strings_Contains.f a0_0 (⟨#[61]⟩ : ByteArray)).bind fun t125 => (some (!t125))) else (some false))) else (some false)) else (some false))
set_option maxHeartbeats 8000000 in
set_option maxRecDepth 100000 in
theorem pax_isOne.calls (k : Nat) (a0_0 : ByteArray) (a0_1 : ByteArray) (r : Bool) (w : World) (h : pax_isOne.f k a0_0 a0_1 = some r) :
    Calls Tryd.prog 25 #[.agg #[.string a0_0, .string a0_1]] w fun e w' => e = .returned (.bool r) ∧ Below w.heap.size w w' := by
  have hu31 := Tryd.underlying31
  have HB := Aside0.mk (Below.refl w.heap.size w)
  have H : (if a0_0.toList = ([] : List UInt8) then (some false) else (if (a0_0.size : Int) ≤ 400 then (if (a0_1.size : Int) ≤ 400 then ((pax_areRunes.f k (([a0_0, a0_1] : List ByteArray))).bind fun t124 => (if t124 = true then ((strings_Contains.f a0_0 (⟨#[61]⟩ : ByteArray)).bind fun t125 => (some (!t125))) else (some false))) else (some false)) else (some false))) = some r := h
  clear h
  by_cases c2 : a0_0.toList = ([] : List UInt8)
  · rw [if_pos c2] at H
    have c2b0 : (a0_0.toList == ([] : List UInt8)) = true := beq_iff_eq.mpr c2
    have c2b1 : (a0_0.toList != ([] : List UInt8)) = false := bne_eq_false_iff_eq.mpr c2
    clear c2
    obtain rfl := Option.some.inj H
    go_enter Tryd.func25, Tryd.ntmps25
    go_wp2_with (first | ((with_reducible refine gate_dst (N := 1) rfl ?_); (try (refine gate_guard (by rfl) ?_; dsimp only)); refine box_event ?hg (N := 1) ?hd (cs := #[.string a0_0, .string a0_1]) (t := 31) ?hr ?_; (case hd => rfl); (case hg => rfl); (case hr => first | (go_simp; done) | (go_simp; rfl)); intro gb120 hg w3 hbox hb; have n0_ := Aside0.mk (below_step (by repeat (first | (with_reducible first | exact HB.out | apply below_alloc | apply pw_below_drewN | apply below_drew1) | exact HB.out)) hb); have n1_ := Aside0.mk (hbox); have n2_ := Aside0.mk ((by rw [hg]; exact (below_size (by repeat (first | (with_reducible first | exact HB.out | apply below_alloc | apply pw_below_drewN | apply below_drew1) | exact HB.out))) : w.heap.size ≤ gb120)); have n3_ := Aside0.mk ((by rw [hg]; exact (below_size (by repeat (first | (with_reducible first | exact HB.out | apply below_alloc | apply pw_below_drewN | apply below_drew1) | exact HB.out))) : w.heap.size ≤ gb120)); clear HB; have HB := n0_; have BK120 := n1_; have GW120 := n2_; have GE120 := n3_; clear n0_ n1_ n2_ n3_; clear hb hbox hg; have hcz4_0 : w3.cell? ⟨gb120, 0, none⟩ = some (.string a0_0) := (blk_cell BK120.out 0).trans rfl; have hcz4_1 : w3.cell? ⟨gb120, 1, none⟩ = some (.string a0_1) := (blk_cell BK120.out 1).trans rfl; have hfz4_0 := blk_frozen BK120.out 0; have hfz4_1 := blk_frozen BK120.out 1))
    go_ret
    exact ⟨by first | rfl | (simp [errW_none, errW_some] <;> rfl) | (simp [*, errW_none, errW_some] <;> rfl), by repeat (first | (with_reducible first | exact HB.out | apply below_alloc | apply pw_below_drewN | apply below_drew1 | refine below_set ?_ GE120.out) | exact HB.out)⟩
  · rw [if_neg c2] at H
    have c2b0 : (a0_0.toList == ([] : List UInt8)) = false := beq_eq_false_iff_ne.mpr c2
    have c2b1 : (a0_0.toList != ([] : List UInt8)) = true := bne_iff_ne.mpr c2
    by_cases c5 : (a0_0.size : Int) ≤ 400
    · rw [if_pos c5] at H
      have c5b0 : decide ((a0_0.size : Int) ≤ 400) = true := decide_eq_true c5
      have c5b1 : decide (a0_0.size ≤ 400) = true := decide_eq_true (by omega)
      clear c5
      by_cases c6 : (a0_1.size : Int) ≤ 400
      · rw [if_pos c6] at H
        have c6b0 : decide ((a0_1.size : Int) ≤ 400) = true := decide_eq_true c6
        have c6b1 : decide (a0_1.size ≤ 400) = true := decide_eq_true (by omega)
        clear c6
        obtain ⟨y121, hy121⟩ : ∃ y_ : List ByteArray, y_ = (([a0_0, a0_1] : List ByteArray)) := ⟨_, rfl⟩
        replace H : ((pax_areRunes.f k y121).bind fun t124 => (if t124 = true then ((strings_Contains.f a0_0 (⟨#[61]⟩ : ByteArray)).bind fun t125 => (some (!t125))) else (some false))) = some r := by first | (rw [hy121]; with_reducible exact H) | (have H2_ := (Option.bind_some _ _).symm.trans H; rw [hy121]; with_reducible exact H2_) | (have H2_ := (Option.bind_some _ _).symm.trans H; with_reducible exact H2_) | with_reducible exact H | (rw [hy121]; exact H) | exact H
        have Ny121 := Aside0.mk hy121
        clear hy121
        replace H := Option.bind_eq_some_iff.mp H
        obtain ⟨t124, A70, H⟩ := H
        replace H : (if t124 = true then ((strings_Contains.f a0_0 (⟨#[61]⟩ : ByteArray)).bind fun t125 => (some (!t125))) else (some false)) = some r := H
        have A7 := Aside0.mk A70
        clear A70
        by_cases c8 : t124 = true
        · subst c8
          have H1 : ((strings_Contains.f a0_0 (⟨#[61]⟩ : ByteArray)).bind fun t125 => (some (!t125))) = some r := by rw [if_pos rfl] at H; exact H
          clear H
          have H := H1
          clear H1
          replace H := Option.bind_eq_some_iff.mp H
          obtain ⟨t125, A90, H⟩ := H
          replace H : (some (!t125)) = some r := H
          have A9 := Aside0.mk A90
          clear A90
          obtain rfl := Option.some.inj H
          go_enter Tryd.func25, Tryd.ntmps25
          go_wp2_with (first | ((with_reducible refine gate_dst (N := 1) rfl ?_); (try (refine gate_guard (by rfl) ?_; dsimp only)); refine box_event ?hg (N := 1) ?hd (cs := #[.string a0_0, .string a0_1]) (t := 31) ?hr ?_; (case hd => rfl); (case hg => rfl); (case hr => first | (go_simp; done) | (go_simp; rfl)); intro gb120 hg w10 hbox hb; have n0_ := Aside0.mk (below_step (by repeat (first | (with_reducible first | exact HB.out | apply below_alloc | apply pw_below_drewN | apply below_drew1) | exact HB.out)) hb); have n1_ := Aside0.mk (hbox); have n2_ := Aside0.mk ((by rw [hg]; exact (below_size (by repeat (first | (with_reducible first | exact HB.out | apply below_alloc | apply pw_below_drewN | apply below_drew1) | exact HB.out))) : w.heap.size ≤ gb120)); have n3_ := Aside0.mk ((by rw [hg]; exact (below_size (by repeat (first | (with_reducible first | exact HB.out | apply below_alloc | apply pw_below_drewN | apply below_drew1) | exact HB.out))) : w.heap.size ≤ gb120)); clear HB; have HB := n0_; have BK120 := n1_; have GW120 := n2_; have GE120 := n3_; clear n0_ n1_ n2_ n3_; clear hb hbox hg; have hcz11_0 : w10.cell? ⟨gb120, 0, none⟩ = some (.string a0_0) := (blk_cell BK120.out 0).trans rfl; have hcz11_1 : w10.cell? ⟨gb120, 1, none⟩ = some (.string a0_1) := (blk_cell BK120.out 1).trans rfl; have hfz11_0 := blk_frozen BK120.out 0; have hfz11_1 := blk_frozen BK120.out 1) | ((with_reducible refine gate_dst (N := 23) rfl ?_); (try (refine gate_guard (by rfl) ?_; dsimp only)); refine Kd.R_lit Kd.string _ 9 ?hg (N := 23) ?hd (xs := ([a0_0, a0_1] : List ByteArray)) (inner := [.string a0_0, .string a0_1]) (ok := fun _ => True) (okp := fun _ => True) ?hr ?hp (fun _ hk => hk) trivial (Below.refl _ _) (Nat.le_refl _) (by simp) ?_; (case hd => rfl); (case hg => rfl); (case hr => first | (go_simp; done) | (go_simp; rfl)); (case hp => exact (Reps.one (show Kd.M Kd.string _ _ _ a0_0 [.string a0_0] from rfl) (Reps.one (show Kd.M Kd.string _ _ _ a0_1 [.string a0_1] from rfl) (Reps.none _ _)))); intro v122 w12 ho13 hb hg_ hnew_; clear hg_ hnew_; (first | rw [← Ny121.out] at ho13 | (simp only [Int.reduceToNat] at ho13; rw [← Ny121.out] at ho13)); have n0_ := Aside0.mk (Kd.R_lower ho13 (below_size (by repeat (first | (with_reducible first | exact HB.out | apply below_alloc | apply pw_below_drewN | apply below_drew1 | refine below_set ?_ GE120.out) | exact HB.out)))); have n1_ := Aside0.mk (blk_below (g := gb120) (o := .cells #[.string a0_0, .string a0_1] 31 (0, 0)) (by (with_reducible repeat (first | refine blk_drewN ?_ _ | refine blk_drew ?_ | refine blk_alloc ?_ _)); exact BK120.out) hb); have n2_ := Aside0.mk (below_step (by repeat (first | (with_reducible first | exact HB.out | apply below_alloc | apply pw_below_drewN | apply below_drew1 | refine below_set ?_ GE120.out) | exact HB.out)) hb); clear BK120; clear HB; have HO123 := n0_; have BK120 := n1_; have HB := n2_; clear n0_ n1_ n2_; clear hb ho13; obtain ⟨Ao14, co14, eo14⟩ := Kd.R_slice HO123.out; subst eo14) | (go_at_call 37; (with_reducible refine (pax_areRunes.calls k _ _ y121 true _ ?side1 ?side2 A7.out).mono ?_); (case side1 => repeat (first | exact (Kd.R_reads' HO123.out).2.2 | (with_reducible refine Kd.C_alloc ?_ _) | (with_reducible refine Kd.C_drewN ?_ _) | (with_reducible refine Kd.C_drew ?_))); (case side2 => exact (Kd.R_reads' HO123.out).2.1); rintro e w15 ⟨rfl, hb⟩; have n0_ := Aside0.mk (Kd.R_below (by (with_reducible repeat (first | apply Kd.R_alloc | apply Kd.R_drewN | apply Kd.R_drew)); exact HO123.out) hb); have n1_ := Aside0.mk (blk_below (g := gb120) (o := .cells #[.string a0_0, .string a0_1] 31 (0, 0)) (by (with_reducible repeat (first | refine blk_drewN ?_ _ | refine blk_drew ?_ | refine blk_alloc ?_ _)); exact BK120.out) hb); have n2_ := Aside0.mk (below_step (by repeat (first | (with_reducible first | exact HB.out | apply below_alloc | apply pw_below_drewN | apply below_drew1 | refine below_set ?_ GE120.out) | exact HB.out)) hb); clear HO123; clear BK120; clear HB; have HO123 := n0_; have BK120 := n1_; have HB := n2_; clear n0_ n1_ n2_; (try clear hb); (try clear hb2); (try clear hk); (try clear hi); have hcz16_0 : w15.cell? ⟨gb120, 0, none⟩ = some (.string a0_0) := (blk_cell BK120.out 0).trans rfl; have hcz16_1 : w15.cell? ⟨gb120, 1, none⟩ = some (.string a0_1) := (blk_cell BK120.out 1).trans rfl; have hfz16_0 := blk_frozen BK120.out 0; have hfz16_1 := blk_frozen BK120.out 1) | (go_at_call 38; (with_reducible refine (strings_Contains.calls a0_0 (⟨#[61]⟩ : ByteArray) t125 _ A9.out).mono ?_); rintro e w17 ⟨rfl, hb⟩; have n0_ := Aside0.mk (Kd.R_below (by (with_reducible repeat (first | apply Kd.R_alloc | apply Kd.R_drewN | apply Kd.R_drew)); exact HO123.out) hb); have n1_ := Aside0.mk (blk_below (g := gb120) (o := .cells #[.string a0_0, .string a0_1] 31 (0, 0)) (by (with_reducible repeat (first | refine blk_drewN ?_ _ | refine blk_drew ?_ | refine blk_alloc ?_ _)); exact BK120.out) hb); have n2_ := Aside0.mk (below_step (by repeat (first | (with_reducible first | exact HB.out | apply below_alloc | apply pw_below_drewN | apply below_drew1 | refine below_set ?_ GE120.out) | exact HB.out)) hb); clear HO123; clear BK120; clear HB; have HO123 := n0_; have BK120 := n1_; have HB := n2_; clear n0_ n1_ n2_; (try clear hb); (try clear hb2); (try clear hk); (try clear hi)))
          go_ret
          exact ⟨by first | rfl | (simp [errW_none, errW_some] <;> rfl) | (simp [*, errW_none, errW_some] <;> rfl), by repeat (first | (with_reducible first | exact HB.out | apply below_alloc | apply pw_below_drewN | apply below_drew1 | refine below_set ?_ GE120.out) | exact HB.out)⟩
        · replace c8 := Bool.eq_false_iff.mpr c8
          subst c8
          have H1 : (some false) = some r := by rw [if_neg (show ¬ (false = true) by decide)] at H; exact H
          clear H
          have H := H1
          clear H1
          obtain rfl := Option.some.inj H
          go_enter Tryd.func25, Tryd.ntmps25
          go_wp2_with (first | ((with_reducible refine gate_dst (N := 1) rfl ?_); (try (refine gate_guard (by rfl) ?_; dsimp only)); refine box_event ?hg (N := 1) ?hd (cs := #[.string a0_0, .string a0_1]) (t := 31) ?hr ?_; (case hd => rfl); (case hg => rfl); (case hr => first | (go_simp; done) | (go_simp; rfl)); intro gb120 hg w18 hbox hb; have n0_ := Aside0.mk (below_step (by repeat (first | (with_reducible first | exact HB.out | apply below_alloc | apply pw_below_drewN | apply below_drew1) | exact HB.out)) hb); have n1_ := Aside0.mk (hbox); have n2_ := Aside0.mk ((by rw [hg]; exact (below_size (by repeat (first | (with_reducible first | exact HB.out | apply below_alloc | apply pw_below_drewN | apply below_drew1) | exact HB.out))) : w.heap.size ≤ gb120)); have n3_ := Aside0.mk ((by rw [hg]; exact (below_size (by repeat (first | (with_reducible first | exact HB.out | apply below_alloc | apply pw_below_drewN | apply below_drew1) | exact HB.out))) : w.heap.size ≤ gb120)); clear HB; have HB := n0_; have BK120 := n1_; have GW120 := n2_; have GE120 := n3_; clear n0_ n1_ n2_ n3_; clear hb hbox hg; have hcz19_0 : w18.cell? ⟨gb120, 0, none⟩ = some (.string a0_0) := (blk_cell BK120.out 0).trans rfl; have hcz19_1 : w18.cell? ⟨gb120, 1, none⟩ = some (.string a0_1) := (blk_cell BK120.out 1).trans rfl; have hfz19_0 := blk_frozen BK120.out 0; have hfz19_1 := blk_frozen BK120.out 1) | ((with_reducible refine gate_dst (N := 23) rfl ?_); (try (refine gate_guard (by rfl) ?_; dsimp only)); refine Kd.R_lit Kd.string _ 9 ?hg (N := 23) ?hd (xs := ([a0_0, a0_1] : List ByteArray)) (inner := [.string a0_0, .string a0_1]) (ok := fun _ => True) (okp := fun _ => True) ?hr ?hp (fun _ hk => hk) trivial (Below.refl _ _) (Nat.le_refl _) (by simp) ?_; (case hd => rfl); (case hg => rfl); (case hr => first | (go_simp; done) | (go_simp; rfl)); (case hp => exact (Reps.one (show Kd.M Kd.string _ _ _ a0_0 [.string a0_0] from rfl) (Reps.one (show Kd.M Kd.string _ _ _ a0_1 [.string a0_1] from rfl) (Reps.none _ _)))); intro v122 w20 ho21 hb hg_ hnew_; clear hg_ hnew_; (first | rw [← Ny121.out] at ho21 | (simp only [Int.reduceToNat] at ho21; rw [← Ny121.out] at ho21)); have n0_ := Aside0.mk (Kd.R_lower ho21 (below_size (by repeat (first | (with_reducible first | exact HB.out | apply below_alloc | apply pw_below_drewN | apply below_drew1 | refine below_set ?_ GE120.out) | exact HB.out)))); have n1_ := Aside0.mk (blk_below (g := gb120) (o := .cells #[.string a0_0, .string a0_1] 31 (0, 0)) (by (with_reducible repeat (first | refine blk_drewN ?_ _ | refine blk_drew ?_ | refine blk_alloc ?_ _)); exact BK120.out) hb); have n2_ := Aside0.mk (below_step (by repeat (first | (with_reducible first | exact HB.out | apply below_alloc | apply pw_below_drewN | apply below_drew1 | refine below_set ?_ GE120.out) | exact HB.out)) hb); clear BK120; clear HB; have HO123 := n0_; have BK120 := n1_; have HB := n2_; clear n0_ n1_ n2_; clear hb ho21; obtain ⟨Ao22, co22, eo22⟩ := Kd.R_slice HO123.out; subst eo22) | (go_at_call 37; (with_reducible refine (pax_areRunes.calls k _ _ y121 false _ ?side1 ?side2 A7.out).mono ?_); (case side1 => repeat (first | exact (Kd.R_reads' HO123.out).2.2 | (with_reducible refine Kd.C_alloc ?_ _) | (with_reducible refine Kd.C_drewN ?_ _) | (with_reducible refine Kd.C_drew ?_))); (case side2 => exact (Kd.R_reads' HO123.out).2.1); rintro e w23 ⟨rfl, hb⟩; have n0_ := Aside0.mk (Kd.R_below (by (with_reducible repeat (first | apply Kd.R_alloc | apply Kd.R_drewN | apply Kd.R_drew)); exact HO123.out) hb); have n1_ := Aside0.mk (blk_below (g := gb120) (o := .cells #[.string a0_0, .string a0_1] 31 (0, 0)) (by (with_reducible repeat (first | refine blk_drewN ?_ _ | refine blk_drew ?_ | refine blk_alloc ?_ _)); exact BK120.out) hb); have n2_ := Aside0.mk (below_step (by repeat (first | (with_reducible first | exact HB.out | apply below_alloc | apply pw_below_drewN | apply below_drew1 | refine below_set ?_ GE120.out) | exact HB.out)) hb); clear HO123; clear BK120; clear HB; have HO123 := n0_; have BK120 := n1_; have HB := n2_; clear n0_ n1_ n2_; (try clear hb); (try clear hb2); (try clear hk); (try clear hi)))
          go_ret
          exact ⟨by first | rfl | (simp [errW_none, errW_some] <;> rfl) | (simp [*, errW_none, errW_some] <;> rfl), by repeat (first | (with_reducible first | exact HB.out | apply below_alloc | apply pw_below_drewN | apply below_drew1 | refine below_set ?_ GE120.out) | exact HB.out)⟩
      · rw [if_neg c6] at H
        have c6b0 : decide ((a0_1.size : Int) ≤ 400) = false := decide_eq_false c6
        have c6b1 : decide (a0_1.size ≤ 400) = false := decide_eq_false (by omega)
        clear c6
        obtain rfl := Option.some.inj H
        go_enter Tryd.func25, Tryd.ntmps25
        go_wp2_with (first | ((with_reducible refine gate_dst (N := 1) rfl ?_); (try (refine gate_guard (by rfl) ?_; dsimp only)); refine box_event ?hg (N := 1) ?hd (cs := #[.string a0_0, .string a0_1]) (t := 31) ?hr ?_; (case hd => rfl); (case hg => rfl); (case hr => first | (go_simp; done) | (go_simp; rfl)); intro gb120 hg w24 hbox hb; have n0_ := Aside0.mk (below_step (by repeat (first | (with_reducible first | exact HB.out | apply below_alloc | apply pw_below_drewN | apply below_drew1) | exact HB.out)) hb); have n1_ := Aside0.mk (hbox); have n2_ := Aside0.mk ((by rw [hg]; exact (below_size (by repeat (first | (with_reducible first | exact HB.out | apply below_alloc | apply pw_below_drewN | apply below_drew1) | exact HB.out))) : w.heap.size ≤ gb120)); have n3_ := Aside0.mk ((by rw [hg]; exact (below_size (by repeat (first | (with_reducible first | exact HB.out | apply below_alloc | apply pw_below_drewN | apply below_drew1) | exact HB.out))) : w.heap.size ≤ gb120)); clear HB; have HB := n0_; have BK120 := n1_; have GW120 := n2_; have GE120 := n3_; clear n0_ n1_ n2_ n3_; clear hb hbox hg; have hcz25_0 : w24.cell? ⟨gb120, 0, none⟩ = some (.string a0_0) := (blk_cell BK120.out 0).trans rfl; have hcz25_1 : w24.cell? ⟨gb120, 1, none⟩ = some (.string a0_1) := (blk_cell BK120.out 1).trans rfl; have hfz25_0 := blk_frozen BK120.out 0; have hfz25_1 := blk_frozen BK120.out 1))
        go_ret
        exact ⟨by first | rfl | (simp [errW_none, errW_some] <;> rfl) | (simp [*, errW_none, errW_some] <;> rfl), by repeat (first | (with_reducible first | exact HB.out | apply below_alloc | apply pw_below_drewN | apply below_drew1 | refine below_set ?_ GE120.out) | exact HB.out)⟩
    · rw [if_neg c5] at H
      have c5b0 : decide ((a0_0.size : Int) ≤ 400) = false := decide_eq_false c5
      have c5b1 : decide (a0_0.size ≤ 400) = false := decide_eq_false (by omega)
      clear c5
      obtain rfl := Option.some.inj H
      go_enter Tryd.func25, Tryd.ntmps25
      go_wp2_with (first | ((with_reducible refine gate_dst (N := 1) rfl ?_); (try (refine gate_guard (by rfl) ?_; dsimp only)); refine box_event ?hg (N := 1) ?hd (cs := #[.string a0_0, .string a0_1]) (t := 31) ?hr ?_; (case hd => rfl); (case hg => rfl); (case hr => first | (go_simp; done) | (go_simp; rfl)); intro gb120 hg w26 hbox hb; have n0_ := Aside0.mk (below_step (by repeat (first | (with_reducible first | exact HB.out | apply below_alloc | apply pw_below_drewN | apply below_drew1) | exact HB.out)) hb); have n1_ := Aside0.mk (hbox); have n2_ := Aside0.mk ((by rw [hg]; exact (below_size (by repeat (first | (with_reducible first | exact HB.out | apply below_alloc | apply pw_below_drewN | apply below_drew1) | exact HB.out))) : w.heap.size ≤ gb120)); have n3_ := Aside0.mk ((by rw [hg]; exact (below_size (by repeat (first | (with_reducible first | exact HB.out | apply below_alloc | apply pw_below_drewN | apply below_drew1) | exact HB.out))) : w.heap.size ≤ gb120)); clear HB; have HB := n0_; have BK120 := n1_; have GW120 := n2_; have GE120 := n3_; clear n0_ n1_ n2_ n3_; clear hb hbox hg; have hcz27_0 : w26.cell? ⟨gb120, 0, none⟩ = some (.string a0_0) := (blk_cell BK120.out 0).trans rfl; have hcz27_1 : w26.cell? ⟨gb120, 1, none⟩ = some (.string a0_1) := (blk_cell BK120.out 1).trans rfl; have hfz27_0 := blk_frozen BK120.out 0; have hfz27_1 := blk_frozen BK120.out 1))
      go_ret
      exact ⟨by first | rfl | (simp [errW_none, errW_some] <;> rfl) | (simp [*, errW_none, errW_some] <;> rfl), by repeat (first | (with_reducible first | exact HB.out | apply below_alloc | apply pw_below_drewN | apply below_drew1 | refine below_set ?_ GE120.out) | exact HB.out)⟩

end Go.Proofs.YtbcjhmeeonhmaaaDoor.M
end

-- Laid by a program of this session for this claim.
section
namespace Go.Proofs.YtbcjhmeeonhmaaaDoor.M
open Go.RowKit Go.Proofs.YtbcjhmeeonhmaaaDoorW.PrintWords Go.Proofs.YtbcjhmeeonhmaaaDoorW.PrintLast Go.Proofs.YtbcjhmeeonhmaaaDoorW.PrintMore
attribute [local go_sem] max2_int min2_int max_two min_two max_three min_three max_four min_four   -- for this text's walks alone
set_option linter.unusedVariables false
set_option linter.unusedSimpArgs false

/-! ### pleacherref09_has: function 45 -/
end Go.Proofs.YtbcjhmeeonhmaaaDoor.M
end

-- Laid by a program of this session for this claim.
section
namespace Go.Proofs.YtbcjhmeeonhmaaaDoor.M
open Go.RowKit Go.Proofs.YtbcjhmeeonhmaaaDoorW.PrintWords Go.Proofs.YtbcjhmeeonhmaaaDoorW.PrintLast Go.Proofs.YtbcjhmeeonhmaaaDoorW.PrintMore
attribute [local go_sem] max2_int min2_int max_two min_two max_three min_three max_four min_four   -- for this text's walks alone
set_option linter.unusedVariables false
set_option linter.unusedSimpArgs false

/-! ### pleacherref09_is: function 31 -/
end Go.Proofs.YtbcjhmeeonhmaaaDoor.M
end

/-
pax.One.
-/
section
set_option linter.unusedVariables false
set_option maxRecDepth 100000
namespace Go.Proofs.YtbcjhmeeonhmaaaDoor.H
open Go Go.RowKit Go.Proofs.YtbcjhmeeonhmaaaDoorW.PrintWords Go.Proofs.YtbcjhmeeonhmaaaDoorW.PrintMore Go.Proofs.YtbcjhmeeonhmaaaDoor.M

def has (s : ByteArray) (c : UInt8) : Bool := decide (0 ≤ Lib.indexByte s.data.toList c)
theorem has_iff (s : ByteArray) (c : UInt8) : has s c = true ↔ c ∈ s.data.toList := by
  unfold has
  rw [decide_eq_true_iff]
  induction s.data.toList with
  | nil => simp [Lib.indexByte]
  | cons b l ih =>
    unfold Lib.indexByte
    have hg := Lib.indexByte_ge l c
    by_cases h : b = c
    · subst h; simp
    · rw [if_neg (by simpa using h)]
      rw [List.mem_cons, ← ih]
      have h2 : ¬ c = b := fun e => h e.symm
      by_cases h3 : Lib.indexByte l c = -1
      · rw [if_pos (by simpa using h3), h3]; simp [h2]
      · rw [if_neg (by simpa using h3)]
        constructor
        · intro _; right; omega
        · rintro (e | e)
          · exact absurd e h2
          · omega
/-- Is it a record? -/
def isOneB (n v : ByteArray) : Bool :=
  if n.size = 0 then false else if n.size ≤ 400 then (if v.size ≤ 400 then
    (if (vld n).2 = true then (if has n 0 = true then false else (if (vld v).2 = true then (if has v 0 = true then false else !has n 61) else false)) else false) else false) else false
theorem valid_f (s : ByteArray) (h : s.size ≤ 400) : utf_Valid.f s = some (vld s) := by unfold utf_Valid.f; rw [if_pos (by omega)]
theorem contains_f (s : ByteArray) (c : UInt8) : strings_Contains.f s ⟨#[c]⟩ = some (has s c) := by unfold strings_Contains.f; rw [if_pos (by rfl)]; rfl
theorem areRunes_f (n v : ByteArray) (hn : n.size ≤ 400) (hv : v.size ≤ 400) : pax_areRunes.f 5 [n, v] =
    some (if (vld n).2 = true then (if has n 0 = true then false else (if (vld v).2 = true then (if has v 0 = true then false else true) else false)) else false) := by
  have e0 : rdOf ByteArray.empty [n, v] 0 = n := rfl
  have e1 : rdOf ByteArray.empty [n, v] 1 = v := rfl
  have hl : (([n, v] : List ByteArray).length : Int) = 2 := rfl
  unfold pax_areRunes.f
  rw [hl, pax_areRunes.l0, if_pos (by decide), if_pos (by decide), if_pos (by rw [hl]; decide), e0, valid_f n hn, Option.bind_some]
  by_cases h1 : (vld n).2 = true
  · rw [if_pos h1, if_pos h1, contains_f, Option.bind_some]
    by_cases h2 : has n 0 = true
    · rw [if_pos h2, if_pos h2]
    · rw [if_neg h2, if_neg h2, w64 (by decide) (by decide), show (0 : Int) + 1 = 1 from rfl, pax_areRunes.l0, if_pos (by decide), if_pos (by decide), if_pos (by rw [hl]; decide), e1, valid_f v hv, Option.bind_some]
      by_cases h3 : (vld v).2 = true
      · rw [if_pos h3, if_pos h3, contains_f, Option.bind_some]
        by_cases h4 : has v 0 = true
        · rw [if_pos h4, if_pos h4]
        · rw [if_neg h4, if_neg h4, w64 (by decide) (by decide), show (1 : Int) + 1 = 2 from rfl, pax_areRunes.l0, if_neg (by decide)]
      · rw [if_neg h3, if_neg h3]
  · rw [if_neg h1, if_neg h1]
theorem isOne_f (n v : ByteArray) : pax_isOne.f 5 n v = some (isOneB n v) := by
  unfold pax_isOne.f isOneB
  by_cases h0 : n.size = 0
  · rw [if_pos ((nil_iff n).2 h0), if_pos h0]
  · rw [if_neg (fun e => h0 ((nil_iff n).1 e)), if_neg h0]
    by_cases h1 : n.size ≤ 400
    · rw [if_pos (by omega), if_pos h1]
      by_cases h2 : v.size ≤ 400
      · rw [if_pos (by omega), if_pos h2, areRunes_f n v h1 h2, Option.bind_some]
        by_cases g1 : (vld n).2 = true
        · rw [if_pos g1, if_pos g1]
          by_cases g2 : has n 0 = true
          · rw [if_pos g2, if_pos g2, if_neg (by decide)]
          · rw [if_neg g2, if_neg g2]
            by_cases g3 : (vld v).2 = true
            · rw [if_pos g3, if_pos g3]
              by_cases g4 : has v 0 = true
              · rw [if_pos g4, if_pos g4, if_neg (by decide)]
              · rw [if_neg g4, if_neg g4, if_pos rfl, contains_f, Option.bind_some]
            · rw [if_neg g3, if_neg g3, if_neg (by decide)]
        · rw [if_neg g1, if_neg g1, if_neg (by decide)]
      · rw [if_neg (by omega), if_neg h2]
    · rw [if_neg (by omega), if_neg h1]
theorem isOneB_bd {n v : ByteArray} (h : isOneB n v = true) : n.size ≠ 0 ∧ n.size ≤ 400 ∧ v.size ≤ 400 := by
  unfold isOneB at h
  by_cases h0 : n.size = 0
  · rw [if_pos h0] at h; cases h
  · rw [if_neg h0] at h
    by_cases h1 : n.size ≤ 400
    · rw [if_pos h1] at h
      by_cases h2 : v.size ≤ 400
      · exact ⟨h0, h1, h2⟩
      · rw [if_neg h2] at h; cases h
    · rw [if_neg h1] at h; cases h
end Go.Proofs.YtbcjhmeeonhmaaaDoor.H
end

/-
pax.One and the document's One, walked.
-/
section
set_option linter.unusedVariables false
set_option maxRecDepth 100000
namespace Go.Proofs.YtbcjhmeeonhmaaaDoor.H
open Go Go.RowKit Go.Proofs.YtbcjhmeeonhmaaaDoorW.PrintWords Go.Proofs.YtbcjhmeeonhmaaaDoorW.PrintMore Go.Proofs.YtbcjhmeeonhmaaaDoor.M

def restS (n v : ByteArray) : ByteArray := ((((⟨#[32]⟩ : ByteArray) ++ n) ++ (⟨#[61]⟩ : ByteArray)) ++ v) ++ (⟨#[10]⟩ : ByteArray)
theorem restS_size (n v : ByteArray) : (restS n v).size = n.size + v.size + 3 := by
  unfold restS; simp only [ByteArray.size_append]
  have : ∀ a : UInt8, (⟨#[a]⟩ : ByteArray).size = 1 := fun _ => rfl
  rw [this, this, this]; omega
/-- How many digits. -/
def dgl (m : Nat) : Nat := (putS 10 m).size
theorem dgl_def (m : Nat) : dgl m = if m < 10 then 1 else dgl (m / 10) + 1 := by
  unfold dgl
  by_cases h : m < 10
  · rw [if_pos h, putS_stop (by omega), strOfNums_size]; rfl
  · rw [if_neg h, putS_more (by omega) (by omega), ByteArray.size_append, strOfNums_size]; rfl
theorem dgl_eq {m : Nat} (h : m < 10000) : dgl m = if m < 10 then 1 else if m < 100 then 2 else if m < 1000 then 3 else 4 := by
  rw [dgl_def]
  by_cases h1 : m < 10
  · rw [if_pos h1, if_pos h1]
  · rw [if_neg h1, if_neg h1, dgl_def]
    by_cases h2 : m < 100
    · rw [if_pos (by omega), if_pos h2]
    · rw [if_neg (by omega), if_neg h2, dgl_def]
      by_cases h3 : m < 1000
      · rw [if_pos (by omega), if_pos h3]
      · rw [if_neg (by omega), if_neg h3, dgl_def, if_pos (by omega)]
/-- The number that counts all. -/
def szL (L : Nat) : Nat := if dgl (L + dgl L) = dgl L then L + dgl L else L + dgl L + 1
theorem dgl_r {m : Nat} (h : m < 10000) : (m < 10 ∧ dgl m = 1) ∨ (10 ≤ m ∧ m < 100 ∧ dgl m = 2) ∨ (100 ≤ m ∧ m < 1000 ∧ dgl m = 3) ∨ (1000 ≤ m ∧ dgl m = 4) := by
  have e := dgl_eq h
  by_cases h1 : m < 10
  · rw [if_pos h1] at e; omega
  · rw [if_neg h1] at e
    by_cases h2 : m < 100
    · rw [if_pos h2] at e; omega
    · rw [if_neg h2] at e
      by_cases h3 : m < 1000
      · rw [if_pos h3] at e; omega
      · rw [if_neg h3] at e; omega
theorem szL_cases {L : Nat} (h0 : 3 ≤ L) (h1 : L ≤ 803) : (dgl (L + dgl L) = dgl L ∧ szL L = L + dgl L) ∨ (¬ dgl (L + dgl L) = dgl L ∧ dgl (L + dgl L) = dgl L + 1 ∧ dgl (L + (dgl L + 1)) = dgl L + 1 ∧ szL L = L + dgl L + 1) := by
  have r0 := dgl_r (m := L) (by omega)
  have r1 := dgl_r (m := L + dgl L) (by omega)
  have r2 := dgl_r (m := L + (dgl L + 1)) (by omega)
  unfold szL
  by_cases h : dgl (L + dgl L) = dgl L
  · left; exact ⟨h, if_pos h⟩
  · right
    refine ⟨h, by omega, by omega, if_neg h⟩
theorem szL_min {L : Nat} (h0 : 3 ≤ L) (h1 : L ≤ 803) : (dgl (szL L) + L = szL L ∧ L ≤ szL L ∧ szL L ≤ L + 4) ∧ ∀ n, L ≤ n → n < szL L → dgl n + L ≠ n := by
  have r0 := dgl_r (m := L) (by omega)
  have r1 := dgl_r (m := L + dgl L) (by omega)
  rcases szL_cases h0 h1 with ⟨a, b⟩ | ⟨a, a', a'', b⟩
  · rw [b]
    refine ⟨⟨by omega, by omega, by omega⟩, fun n hn hn2 e => ?_⟩
    have r2 := dgl_r (m := n) (by omega)
    omega
  · rw [b]
    refine ⟨⟨by rw [Nat.add_assoc, a'']; omega, by omega, by omega⟩, fun n hn hn2 e => ?_⟩
    have r2 := dgl_r (m := n) (by omega)
    have hne : n ≠ L + dgl L := by rintro rfl; omega
    omega
/-- A record's bytes. -/
def oneS (n v : ByteArray) : ByteArray × Int := if isOneB n v = true then (putS 10 (szL (restS n v).size) ++ restS n v, 0) else (⟨#[]⟩, 90)

theorem one_put (m : Nat) (h : m < 10000) (w : World) : Calls Tryd.prog 26 #[.int .i64 10, .int .u64 m] w fun e w' => e = .returned (.string (putS 10 m)) ∧ Below w.heap.size w w' :=
  put_of 10 m (by omega) (by omega) w (of10)

set_option maxHeartbeats 4000000 in
theorem one (n v : ByteArray) (w : World) : Calls Tryd.prog 15 #[.agg #[.string n, .string v]] w fun e w' => e = .returned (.tuple #[.string (oneS n v).1, .int .i64 (oneS n v).2]) ∧ Below w.heap.size w w' := by
  have hI := fun w => pax_isOne.calls 5 n v _ w (isOne_f n v)
  obtain ⟨y, hy⟩ : ∃ y, oneS n v = y := ⟨_, rfl⟩
  rw [hy]
  by_cases h : isOneB n v = true
  · rw [h] at hI
    have hbd := isOneB_bd h
    have HI := Lib.hid hI
    have HY : Hid (y = (putS 10 (szL (restS n v).size) ++ restS n v, 0)) := Lib.hid (by rw [← hy]; unfold oneS; rw [if_pos h])
    clear hI h hy
    obtain ⟨L, hL⟩ : ∃ L, (restS n v).size = L := ⟨_, rfl⟩
    have hLs := restS_size n v
    rw [hL] at hLs HY
    obtain ⟨_, hn, hv⟩ := hbd
    have hL0 : 3 ≤ L := by omega
    have hL1 : L ≤ 803 := by omega
    have hL2 : (1 : Int) + n.size + 1 + v.size + 1 = (L : Int) := by omega
    have hRS : ((((⟨#[32]⟩ : ByteArray) ++ n) ++ (⟨#[61]⟩ : ByteArray)) ++ v) ++ (⟨#[10]⟩ : ByteArray) = restS n v := rfl
    obtain ⟨rs, hrs⟩ : ∃ rs, restS n v = rs := ⟨_, rfl⟩
    rw [hrs] at hRS hL HY
    have HLS := Lib.hid hLs
    clear hLs
    have hc := szL_cases hL0 hL1
    have HC := Lib.hid hc
    have hd0 : dgl L ≤ 3 := by have := dgl_r (m := L) (by omega); omega
    clear hc hrs
    obtain ⟨p0, hp0⟩ : ∃ p0, putS 10 L = p0 := ⟨_, rfl⟩
    have hs0 : p0.size = dgl L := by rw [← hp0]; rfl
    obtain ⟨d0, hd0'⟩ : ∃ d0, dgl L = d0 := ⟨_, rfl⟩
    have k0 := cel_new w #[.string n, .string v] 31 0 rfl
    have k1 := cel_new w #[.string n, .string v] 31 1 rfl
    have HK0 := Lib.hid k0
    have HK1 := Lib.hid k1
    clear k0 k1
    go_enter Tryd.func15, Tryd.ntmps15
    go_wp2_with fail
    refine (HI.out _).mono ?_
    rintro e w1 ⟨rfl, hb1⟩
    have k0 := celB hb1 HK0.out
    have k1 := celB hb1 HK1.out
    have hB1 := below_tr (below_one w (.cells #[.string n, .string v] 31)) hb1
    have HP := one_put L (by omega) w1
    rw [hp0] at HP
    have HP0 := Lib.hid HP
    rw [hd0'] at hs0 HC hd0
    have HH0 := Lib.hid hp0
    clear HP hp0
    go_wp2_with fail
    refine HP0.out.mono ?_
    rintro e w2 ⟨rfl, hb2⟩
    have hB2 := below_tr hB1 hb2
    go_wp2
    obtain ⟨S, hS⟩ : ∃ S, L + d0 = S := ⟨_, rfl⟩
    have hsum : (L : Int) + (d0 : Int) = (S : Int) := by omega
    have hsw : IntKind.u64.wrap (S : Int) = S := wrap_u64 _ (by omega) (by omega)
    have hS4 : S ≤ 900 := by omega
    rw [hS] at HC
    rcases HC.out with ⟨a, b⟩ | ⟨a, a', a'', b⟩
    · obtain ⟨p1, hp1⟩ : ∃ p1, putS 10 S = p1 := ⟨_, rfl⟩
      have hs1 : p1.size = d0 := by rw [← hp1]; exact a
      have HP := one_put S (by omega) w2
      rw [hp1] at HP
      have HP1 := Lib.hid HP
      have HH1 := Lib.hid hp1
      have HB := Lib.hid b
      clear HP hp1 a b hS
      refine wp_loop_rounds 1 ?_
      rw [rounds_succ]
      go_wp2_with fail
      refine HP1.out.mono ?_
      rintro e w3 ⟨rfl, hb3⟩
      have hB3 := below_tr hB2 hb3
      go_wp2
      refine bodyPost_ret (v := .tuple #[.string (p1 ++ rs), .int .i64 0]) (by simp [results, Tryd.results15, go_sem]) rfl ⟨?_, hB3⟩
      rw [HY.out, HB.out, HH1.out]
    · obtain ⟨p1, hp1⟩ : ∃ p1, putS 10 S = p1 := ⟨_, rfl⟩
      obtain ⟨d1, hd1⟩ : ∃ d1, d0 + 1 = d1 := ⟨_, rfl⟩
      obtain ⟨S1, hS1⟩ : ∃ S1, L + d1 = S1 := ⟨_, rfl⟩
      have hs1 : p1.size = d1 := by rw [← hp1, ← hd1]; exact a'
      have hs2 : dgl S1 = d1 := by rw [← hS1, ← hd1]; exact a''
      have hsum1 : (L : Int) + (d1 : Int) = (S1 : Int) := by omega
      have hsw1 : IntKind.u64.wrap (S1 : Int) = S1 := wrap_u64 _ (by omega) (by omega)
      obtain ⟨p2, hp2⟩ : ∃ p2, putS 10 S1 = p2 := ⟨_, rfl⟩
      have hs3 : p2.size = d1 := by rw [← hp2]; exact hs2
      have hne : ¬ (d1 : Int) = (d0 : Int) := by omega
      have hb' : szL L = S1 := by omega
      have hS5 : S1 ≤ 900 := by omega
      have HP := one_put S (by omega) w2
      rw [hp1] at HP
      have HP1 := Lib.hid HP
      have HPP := fun w => one_put S1 (by omega) w
      rw [hp2] at HPP
      have HP2 := Lib.hid HPP
      have HH2 := Lib.hid hp2
      have HB := Lib.hid hb'
      clear HP HPP hp1 hp2 a a' a'' b hb' hS hS1 hd1 hs2
      refine wp_loop_rounds 2 ?_
      rw [rounds_succ]
      go_wp2_with fail
      refine HP1.out.mono ?_
      rintro e w3 ⟨rfl, hb3⟩
      have hB3 := below_tr hB2 hb3
      go_wp2
      rw [rounds_succ]
      go_wp2_with fail
      refine (HP2.out w3).mono ?_
      rintro e w4 ⟨rfl, hb4⟩
      have hB4 := below_tr hB3 hb4
      go_wp2
      refine bodyPost_ret (v := .tuple #[.string (p2 ++ rs), .int .i64 0]) (by simp [results, Tryd.results15, go_sem]) rfl ⟨?_, hB4⟩
      rw [HY.out, HB.out, HH2.out]
  · have hf : isOneB n v = false := by simpa using h
    rw [hf] at hI
    have HI := Lib.hid hI
    have HY : Hid (y = (⟨#[]⟩, 90)) := Lib.hid (by rw [← hy]; unfold oneS; rw [if_neg h])
    clear hI h hy hf
    go_enter Tryd.func15, Tryd.ntmps15
    go_wp2_with fail
    refine (HI.out _).mono ?_
    rintro e w1 ⟨rfl, hb1⟩
    have hB1 := below_tr (below_one w (.cells #[.string n, .string v] 31)) hb1
    go_wp2
    refine bodyPost_ret (v := .tuple #[.string ⟨#[]⟩, .int .i64 90]) (by simp [results, Tryd.results15, go_sem]) rfl ⟨?_, hB1⟩
    rw [HY.out]

end Go.Proofs.YtbcjhmeeonhmaaaDoor.H
end

/-
num.Own.
-/
section
set_option linter.unusedVariables false
set_option maxRecDepth 100000
namespace Go.Proofs.YtbcjhmeeonhmaaaDoor.H
open Go Go.RowKit

theorem num_Own (b : Nat) (hb : b = 8 ∨ b = 10 ∨ b = 16) (s : ByteArray) (w : World) (hG : GW w) :
    Calls Tryd.prog 48 #[.int .i64 b, .string s] w fun e w' => e = .returned (.tuple #[.int .u64 (ownC b s).1, .int .i64 (ownC b s).2]) ∧ Below w.heap.size w w' := by
  obtain ⟨x, hx⟩ : ∃ x, getC b s = x := ⟨_, rfl⟩
  obtain ⟨n, e⟩ := x
  have hbd := getC_bd b hb s
  have hG1 := num_Get b hb s w hG
  have hO : ownC b s = if e = 0 ∧ putS b n.toNat ≠ s then (0, 30) else (n, e) := by unfold ownC; rw [hx]
  rw [hx] at hbd hG1
  obtain ⟨y, hy⟩ : ∃ y, ownC b s = y := ⟨_, rfl⟩
  rw [hy] at hO ⊢
  have HO := Lib.hid hO
  have HG1 := Lib.hid hG1
  clear hG1 hO hy
  obtain ⟨h0, h1, h2⟩ := hbd
  obtain ⟨m, rfl⟩ := Int.eq_ofNat_of_zero_le (show 0 ≤ n from h0)
  have H1 := Lib.hid h1
  have HB := Lib.hid hb
  clear h1 hb hx h0
  by_cases he : e = 0
  · subst he
    clear h2
    by_cases hp : putS b m = s
    · go_enter Tryd.func48, Tryd.ntmps48
      go_wp2_with fail
      refine HG1.out.mono ?_
      rintro e w1 ⟨rfl, hb1⟩
      have hP := put_of b m HB.out (by have := H1.out; omega) w1 (ofs b HB.out)
      have HH := Lib.hid hp
      rw [hp] at hP
      have HP := Lib.hid hP
      clear hp hP
      go_wp2_with fail
      refine HP.out.mono ?_
      rintro e w2 ⟨rfl, hb2⟩
      go_wp2
      refine bodyPost_ret (v := .tuple #[.int .u64 (m : Int), .int .i64 0]) (by simp [results, Tryd.results48, go_sem]) rfl ⟨?_, hb1.trans (hb2.mono hb1.size)⟩
      rw [HO.out, if_neg (fun h => h.2 (by simpa using HH.out))]
    · go_enter Tryd.func48, Tryd.ntmps48
      go_wp2_with fail
      refine HG1.out.mono ?_
      rintro e w1 ⟨rfl, hb1⟩
      have hP := put_of b m HB.out (by have := H1.out; omega) w1 (ofs b HB.out)
      have HH := Lib.hid hp
      obtain ⟨p, hpp⟩ : ∃ p, putS b m = p := ⟨_, rfl⟩
      rw [hpp] at hp hP
      have HP := Lib.hid hP
      have hne : (p.toList == s.toList) = false := by simpa using fun e => hp (toList_inj.1 e)
      clear hp hpp hP
      go_wp2_with fail
      refine HP.out.mono ?_
      rintro e w2 ⟨rfl, hb2⟩
      have hB2 : Below w.heap.size w w2 := hb1.trans (hb2.mono hb1.size)
      obtain ⟨a, b', ca, cb, ta, tb, g1, g2, gg⟩ := id (hG.below hB2)
      have HT := Lib.hid (told .num _ w2 (hG.below hB2) g2)
      go_wp2_with fail
      refine HT.out.mono ?_
      rintro e w3 ⟨rfl, rfl⟩
      go_wp2
      refine bodyPost_ret (v := .tuple #[.int .u64 0, .int .i64 30]) (by simp [results, Tryd.results48, go_sem, Er.code]) rfl ⟨?_, hB2⟩
      rw [HO.out, if_pos ⟨trivial, by simpa using HH.out⟩]
  · rcases h2 with h2 | h2
    · exact absurd h2 he
    · have hm : m = 0 := by injection h2 with h2 _; omega
      have h30 : e = 30 := by injection h2
      subst hm h30
      clear h2
      go_enter Tryd.func48, Tryd.ntmps48
      go_wp2_with fail
      refine HG1.out.mono ?_
      rintro e w1 ⟨rfl, hb1⟩
      go_wp2
      exact bodyPost_ret (v := .tuple #[.int .u64 0, .int .i64 30]) (by simp [results, Tryd.results48, go_sem]) rfl ⟨by rw [HO.out]; simp, hb1⟩
end Go.Proofs.YtbcjhmeeonhmaaaDoor.H
end

section
set_option linter.unusedVariables false
namespace Go.Proofs.YtbcjhmeeonhmaaaDoor.H
open Go Go.RowKit

/-- strings.Cut at one byte. -/
def cutS (s : ByteArray) (c : UInt8) : ByteArray × ByteArray × Bool :=
  if 0 ≤ Lib.indexByte s.data.toList c then (s.extract 0 (Lib.indexByte s.data.toList c).toNat, s.extract ((Lib.indexByte s.data.toList c).toNat + 1) s.size, true) else (s, ⟨#[]⟩, false)

set_option maxHeartbeats 400000 in
theorem cut0 (s : ByteArray) (c : UInt8) (w : World) (hs : s.size ≤ 1073741824) : Calls Tryd.prog 60 #[.string s, .string ⟨#[c]⟩] w fun e w' => e = .returned (.tuple #[.string (cutS s c).1, .string (cutS s c).2.1, .bool (cutS s c).2.2]) ∧ Below w.heap.size w w' := by
  obtain ⟨i, hi⟩ : ∃ i, Lib.indexByte s.data.toList c = i := ⟨_, rfl⟩
  have hlt : ∀ k : Nat, i = k → k < s.size := fun k hk => by
    have := (Lib.indexByte_some (hi.trans hk)).1
    have := (List.getElem?_eq_some_iff.1 this).1
    rwa [size_data] at this
  have HI := Lib.hid hi
  clear hi
  by_cases h0 : 0 ≤ i
  · obtain ⟨k, rfl⟩ := Int.eq_ofNat_of_zero_le h0
    go_enter Tryd.func60, Tryd.ntmps60
    go_wp2_with fail
    refine (Tryd.stringslite_Index_one s c _).mono ?_
    rintro e w1 ⟨rfl, rfl⟩
    rw [HI.out]
    have hk := hlt k rfl
    clear hlt
    have hs1 := fun (W : World) => run_slice_string_h (P := Tryd.prog) W 9 s Tryd.underlying9 .i64 (k : Int) (by omega) (by omega)
    have hs2 := fun (W : World) => run_slice_string_l (P := Tryd.prog) W 9 s Tryd.underlying9 .i64 ((k : Int) + 1) (by omega) (by omega)
    go_wp2
    go_quiet (fail)
    go_wp2
    go_ret3
    exact ⟨by unfold cutS; rw [HI.out, if_pos h0]; rfl, below_drN (Below.refl _ _) _⟩
  · go_enter Tryd.func60, Tryd.ntmps60
    go_wp2_with fail
    refine (Tryd.stringslite_Index_one s c _).mono ?_
    rintro e w1 ⟨rfl, rfl⟩
    rw [HI.out]
    clear hlt
    go_wp2
    go_ret3
    exact ⟨by unfold cutS; rw [HI.out, if_neg (by omega)]; rfl, Below.refl _ _⟩

set_option maxHeartbeats 400000 in
theorem cut (s : ByteArray) (c : UInt8) (w : World) (hs : s.size ≤ 1073741824) : Calls Tryd.prog 47 #[.string s, .string ⟨#[c]⟩] w fun e w' => e = .returned (.tuple #[.string (cutS s c).1, .string (cutS s c).2.1, .bool (cutS s c).2.2]) ∧ Below w.heap.size w w' := by
  go_enter Tryd.func47, Tryd.ntmps47
  go_wp2_with fail
  refine (cut0 s c _ hs).mono ?_
  rintro e w1 ⟨rfl, hb⟩
  go_wp2
  go_ret3
  exact ⟨rfl, hb⟩
end Go.Proofs.YtbcjhmeeonhmaaaDoor.H
end

/-
pax's names: a map of those met, and how many.
-/
section
set_option linter.unusedVariables false
set_option maxRecDepth 100000
namespace Go.Proofs.YtbcjhmeeonhmaaaDoor.H
open Go Go.RowKit
section
variable {P : Program} {t kt et : TypeId} {k : IntKind}
theorem run_update_hit {d : TypeDesc} (hu : P.underlying t = some (.map kt et)) (hk : P.underlying kt = some d) {key : Value} (hc : ∀ b w, (Instr.checkKey b 10000 kt key).run P w = .ok () w) {w : World} {r : Nat} {es : Array MapEntry} {c : Nat} (h : w.heap[r]? = some (.map es c)) {i : Nat} {v0 : Value} (hf : Instr.findNow d key es.toList 0 = some (some (i, v0)))
    (hs : Instr.sameBits 10000 (((es[i]?).map (·.key)).getD key) key = true) (v : Value) :
    (Instr.mapUpdate t (.map (some r)) key v).run P w = .ok () (w.putObj r (.map (es.modify i fun e => { e with key := key, val := v }) c)) := by
  simp [Instr.mapUpdate, run_underlying hu, run_getObj_map h, hc, run_findKey hk _ _ _ hf, run_setObj_map _ h, Result.andThen, Instr.keyThatStays, hs]
end
theorem ba_beq (a b : ByteArray) : (a == b) = decide (a = b) := by
  cases a with | mk a => cases b with | mk b =>
  show (a == b) = _
  by_cases h : a = b
  · subst h; simp
  · have : (a == b) = false := by simpa using h
    rw [this]; simp [h]
instance : LawfulBEq ByteArray where
  eq_of_beq h := by rw [ba_beq, decide_eq_true_iff] at h; exact h
  rfl := by intro a; rw [ba_beq]; simp
theorem fn_none (s : ByteArray) : ∀ (l : List MapEntry) (i : Nat), (∀ x ∈ l, ∃ t, x.key = .string t ∧ t ≠ s) → Instr.findNow .string (.string s) l i = some none
  | [], _, _ => rfl
  | e :: l, i, h => by
    obtain ⟨t, ht, hne⟩ := h e (List.mem_cons_self ..)
    unfold Instr.findNow
    rw [ht]
    have : (s == t) = false := by rw [ba_beq, decide_eq_false_iff_not]; exact fun h => hne h.symm
    simp only [Instr.sameNow, this]
    exact fn_none s l (i + 1) (fun x hx => h x (List.mem_cons_of_mem _ hx))
theorem fn_split (s : ByteArray) (e : MapEntry) (post : List MapEntry) (he : e.key = .string s) : ∀ (l : List MapEntry) (i : Nat), (∀ x ∈ l, ∃ t, x.key = .string t ∧ t ≠ s) → Instr.findNow .string (.string s) (l ++ e :: post) i = some (some (i + l.length, e.val))
  | [], i, _ => by
    show Instr.findNow .string (.string s) (e :: post) i = _
    unfold Instr.findNow
    rw [he]
    have : (s == s) = true := by rw [ba_beq]; simp
    simp [Instr.sameNow, this]
  | x :: l, i, h => by
    obtain ⟨t, ht, hne⟩ := h x (List.mem_cons_self ..)
    show Instr.findNow .string (.string s) (x :: (l ++ e :: post)) i = _
    unfold Instr.findNow
    rw [ht]
    have : (s == t) = false := by rw [ba_beq, decide_eq_false_iff_not]; exact fun h => hne h.symm
    simp only [Instr.sameNow, this]
    rw [fn_split s e post he l (i + 1) (fun x hx => h x (List.mem_cons_of_mem _ hx)), List.length_cons]
    congr 3; omega

theorem modify_at {α : Type} (f : α → α) (x : α) (post : List α) : ∀ pre : List α, (pre ++ x :: post).modify pre.length f = pre ++ f x :: post
  | [] => by simp
  | y :: pre => by
    show (y :: (pre ++ x :: post)).modify (pre.length + 1) f = _
    rw [List.modify_succ_cons, modify_at f x post pre]; rfl
/-- The entries of names met once each. -/
def NE (es : Array MapEntry) (ns : List ByteArray) : Prop := es.toList.map (·.key) = ns.map Value.string ∧ ∀ e ∈ es.toList, e.val = .int .i64 1
theorem NE.miss {es : Array MapEntry} {ns : List ByteArray} (h : NE es ns) {s : ByteArray} (hs : s ∉ ns) : Instr.findNow .string (.string s) es.toList 0 = some none := by
  refine fn_none s _ _ (fun x hx => ?_)
  have : x.key ∈ ns.map Value.string := by rw [← h.1]; exact List.mem_map_of_mem hx
  obtain ⟨t, ht, e⟩ := List.mem_map.1 this
  exact ⟨t, e.symm, fun e => hs (e ▸ ht)⟩
theorem NE.push {es : Array MapEntry} {ns : List ByteArray} (h : NE es ns) (s : ByteArray) (b : Nat) : NE (es.push { key := .string s, val := .int .i64 1, born := b }) (ns ++ [s]) := by
  refine ⟨by simp [h.1], fun e he => ?_⟩
  rw [Array.toList_push, List.mem_append] at he
  rcases he with he | he
  · exact h.2 e he
  · rw [List.mem_singleton] at he; rw [he]
theorem NE.push_hit {es : Array MapEntry} {ns : List ByteArray} (h : NE es ns) {s : ByteArray} (hs : s ∉ ns) (b : Nat) (v : Value) : ∃ i, Instr.findNow .string (.string s) (es.push { key := .string s, val := v, born := b }).toList 0 = some (some (i, v)) := by
  refine ⟨es.toList.length, ?_⟩
  rw [Array.toList_push, fn_split s _ [] rfl]
  · simp
  · intro x hx
    have : x.key ∈ ns.map Value.string := by rw [← h.1]; exact List.mem_map_of_mem hx
    obtain ⟨t, ht, e⟩ := List.mem_map.1 this
    exact ⟨t, e.symm, fun e => hs (e ▸ ht)⟩
theorem NE.hit {es : Array MapEntry} {ns : List ByteArray} (h : NE es ns) {s : ByteArray} (hs : s ∈ ns) : ∃ i, Instr.findNow .string (.string s) es.toList 0 = some (some (i, .int .i64 1)) ∧ Instr.sameBits 10000 (((es[i]?).map (·.key)).getD (.string s)) (.string s) = true ∧
    ∀ v, ∃ j, Instr.findNow .string (.string s) (es.modify i fun e => { e with key := .string s, val := v }).toList 0 = some (some (j, v)) := by
  obtain ⟨as', bs, e, hn⟩ := List.eq_append_cons_of_mem hs
  have h1 := h.1
  rw [e, List.map_append, List.map_cons] at h1
  obtain ⟨pre, r, hl, hp, hr⟩ := List.map_eq_append_iff.1 h1
  obtain ⟨x, post, rfl, hx, hpost⟩ := List.map_eq_cons_iff.1 hr
  have hpre : ∀ y ∈ pre, ∃ t, y.key = .string t ∧ t ≠ s := fun y hy => by
    have : y.key ∈ as'.map Value.string := by rw [← hp]; exact List.mem_map_of_mem hy
    obtain ⟨t, ht, e⟩ := List.mem_map.1 this
    exact ⟨t, e.symm, fun e => hn (e ▸ ht)⟩
  have hv : x.val = .int .i64 1 := h.2 x (by rw [hl]; simp)
  have hat : es[pre.length]? = some x := by
    rw [← Array.getElem?_toList, hl]; simp
  refine ⟨pre.length, ?_, ?_, fun v => ⟨pre.length, ?_⟩⟩
  · rw [hl, fn_split s x post hx pre 0 hpre, hv]; simp
  · rw [hat]; simp [hx, Instr.sameBits, ba_beq]
  · rw [Array.toList_modify, hl, modify_at]
    rw [fn_split s _ post rfl pre 0 hpre]; simp

/-- Blocks B and M alone have changed. -/
def Two (B M : Nat) (w w' : World) : Prop := w'.os = w.os ∧ w'.tape = w.tape ∧ w'.output = w.output ∧ w.heap.size ≤ w'.heap.size ∧ ∀ i, i < w.heap.size → i ≠ B → i ≠ M → w'.heap[i]? = w.heap[i]?
theorem Two.below {B M X : Nat} {w w1 w' : World} (h : Below X w w1) (t : Two B M w1 w') (hB : X ≤ B) (hM : X ≤ M) (hX : X ≤ w1.heap.size) : Below X w w' :=
  h.trans ⟨t.1, t.2.1, t.2.2.1, t.2.2.2.1, fun i hi => t.2.2.2.2 i (by omega) (by omega) (by omega)⟩
/-- The names met. -/
def Met (B M : Nat) (ns : List ByteArray) (w : World) : Prop := ∃ (es : Array MapEntry) (k : Nat), w.cell? ⟨B, 0, none⟩ = some (.map (some M)) ∧ w.cell? ⟨B, 1, none⟩ = some (.int .i32 ns.length) ∧ w.frozen? ⟨B, 1, none⟩ = false ∧ w.heap[M]? = some (.map es k) ∧ NE es ns ∧ B ≠ M
theorem Met.same {B M : Nat} {ns : List ByteArray} {w w' : World} (h : Met B M ns w) (h1 : w'.heap[B]? = w.heap[B]?) (h2 : w'.heap[M]? = w.heap[M]?) : Met B M ns w' := by
  obtain ⟨es, k, a1, a2, a3, a4, a5, a6⟩ := h
  refine ⟨es, k, ?_, ?_, ?_, h2.trans a4, a5, a6⟩
  all_goals
    unfold World.cell? World.frozen? at *
    simp only [] at *
    rw [h1]; assumption
theorem Met.below {B M : Nat} {ns : List ByteArray} {w w' : World} (h : Met B M ns w) (hb : Below w.heap.size w w') : Met B M ns w' := by
  obtain ⟨es, k, a1, a2, a3, a4, a5, a6⟩ := id h
  exact h.same (hb.block _ (World.block_lt_of_cell? w _ a1)) (hb.block _ (Array.getElem?_eq_some_iff.1 a4).1)

theorem cell_putObj {w : World} {r : Nat} {o : Obj} {a : Addr} (h : a.block ≠ r) : (w.putObj r o).cell? a = w.cell? a := by
  unfold World.cell?; rw [World.putObj_heap_other h]
theorem frozen_putObj {w : World} {r : Nat} {o : Obj} {a : Addr} (h : a.block ≠ r) : (w.putObj r o).frozen? a = w.frozen? a := by
  unfold World.frozen?; rw [World.putObj_heap_other h]
end Go.Proofs.YtbcjhmeeonhmaaaDoor.H
end

/-
(*pax.names).isNew, walked.
-/
section
set_option linter.unusedVariables false
set_option maxRecDepth 100000
namespace Go.Proofs.YtbcjhmeeonhmaaaDoor.H
open Go Go.RowKit

theorem wrap_i32 (x : Int) (h0 : 0 ≤ x) (h1 : x < 2147483648) : IntKind.i32.wrap x = x := by
  simp [IntKind.wrap, IntKind.bits, IntKind.signed]; omega
theorem shape_set (w : World) (B i : Nat) (v : Value) : (w.setCell ⟨B, i, none⟩ v).shape? B = w.shape? B := by
  unfold World.shape? World.setCell
  simp only [Array.getElem?_modify, if_true]
  cases h : w.heap[B]? with
  | none => simp
  | some o => cases o <;> simp
theorem addI (x : Int) (B : Nat) {w : World} (hc : w.cell? ⟨B, 1, none⟩ = some (.int .i32 x)) (hz : w.frozen? ⟨B, 1, none⟩ = false) (h0 : 0 ≤ x) (h1 : x ≤ 100000) :
    (callFunc 57 #[.pointer (some ⟨B, 1, none⟩), .int .i32 1]).run Tryd.prog w = .ok (.value (.int .i32 (x + 1))) (w.setCell ⟨B, 1, none⟩ (.int .i32 (x + 1))) :=
  run_call_add Tryd.func57 (by kernel_rfl) (by kernel_rfl) (by kernel_rfl) .i32 (by kernel_rfl) hc hz (by have := wrap_i32 (x + 1) (by omega) (by omega); go_simp)
theorem keepM {w : World} {M : Nat} {o : Obj} {B i : Nat} {v : Value} (hM : M ≠ B) (h : w.heap[M]? = some o) : (w.setCell ⟨B, i, none⟩ v).heap[M]? = some o := by
  rw [heap_setCell_other _ _ _ _ hM]; exact h

theorem zeroInt (w : World) : (zeroValue 3).run Tryd.prog w = .ok (.int .i64 0) w := by go_simp
set_option maxHeartbeats 2000000 in
theorem isNew (B M : Nat) (ns : List ByteArray) (s : ByteArray) (w : World) (h : Met B M ns w) (hn : ns.length ≤ 100000) :
    Calls Tryd.prog 28 #[.pointer (some ⟨B, 0, none⟩), .string s] w fun e w' => e = .returned (.bool (decide (ns.length + 1 ≤ 30) && decide (s ∉ ns))) ∧ Two B M w w' ∧ (s ∉ ns → Met B M (ns ++ [s]) w') ∧ w'.shape? B = w.shape? B := by
  obtain ⟨es, k, a1, a2, a3, a4, a5, a6⟩ := h
  have hM := (Array.getElem?_eq_some_iff.1 a4).1
  by_cases hs : s ∈ ns
  · obtain ⟨i, f1, f2, f3⟩ := a5.hit hs
    obtain ⟨j, f3⟩ := f3 (.int .i64 2)
    have hl := run_lookup_hit (P := Tryd.prog) (t := 63) Tryd.underlying63 Tryd.underlying9 (run_checkKey_string Tryd.underlying9 · s ·) a4 f1 false
    have hu := run_update_hit (P := Tryd.prog) (t := 63) Tryd.underlying63 Tryd.underlying9 (run_checkKey_string Tryd.underlying9 · s ·) a4 f1 f2 (.int .i64 2)
    simp only [Bool.false_eq_true, if_false] at hl
    generalize (es.modify i fun e => { e with key := Value.string s, val := .int .i64 2 }) = es' at f3 hu
    have t1 : Two B M w (w.putObj M (.map es' k)) := ⟨rfl, rfl, rfl, by rw [World.putObj_size]; exact Nat.le_refl _, fun i _ _ h => World.putObj_heap_other h⟩
    obtain ⟨W1, hW1⟩ : ∃ W1, w.putObj M (.map es' k) = W1 := ⟨_, rfl⟩
    rw [hW1] at hu t1
    have b1 : W1.cell? ⟨B, 0, none⟩ = some (.map (some M)) := by rw [← hW1, cell_putObj a6]; exact a1
    have b2 : W1.cell? ⟨B, 1, none⟩ = some (.int .i32 ns.length) := by rw [← hW1, cell_putObj a6]; exact a2
    have b3 : W1.frozen? ⟨B, 1, none⟩ = false := by rw [← hW1, frozen_putObj a6]; exact a3
    have b4 : W1.heap[M]? = some (.map es' k) := by rw [← hW1]; exact World.putObj_heap_same hM
    have hadd := addI ns.length B b2 b3 (by omega) (by omega)
    obtain ⟨W2, hW2⟩ : ∃ W2, W1.setCell ⟨B, 1, none⟩ (.int .i32 (ns.length + 1)) = W2 := ⟨_, rfl⟩
    rw [hW2] at hadd
    have c1 : W2.cell? ⟨B, 0, none⟩ = some (.map (some M)) := by rw [← hW2, World.cell?_setCell_other _ _ _ _ (by intro e; injection e with _ e _; omega)]; exact b1
    have c4 : W2.heap[M]? = some (.map es' k) := by rw [← hW2]; exact keepM (Ne.symm a6) b4
    have t2 : Two B M w W2 := by
      have g := Lib.grownBy_setCell W1 B 1 (.int .i32 (ns.length + 1))
      rw [hW2] at g
      exact ⟨g.os.trans t1.1, g.tape.trans t1.2.1, g.output.trans t1.2.2.1, Nat.le_trans t1.2.2.2.1 g.size, fun i hi h1 h2 => (g.block i (Nat.lt_of_lt_of_le hi t1.2.2.2.1) (by intro e; cases e; exact h1 rfl)).trans (t1.2.2.2.2 i hi h1 h2)⟩
    have hl2 := run_lookup_hit (P := Tryd.prog) (t := 63) Tryd.underlying63 Tryd.underlying9 (run_checkKey_string Tryd.underlying9 · s ·) c4 f3 false
    simp only [Bool.false_eq_true, if_false] at hl2
    have hsn : decide (s ∉ ns) = false := by simpa using hs
    rw [hsn, Bool.and_false]
    have hsh : W2.shape? B = w.shape? B := by rw [← hW2, shape_set, ← hW1]; unfold World.shape?; rw [World.putObj_heap_other a6]
    clear hW1 hW2 hsn f1 f2 f3 a5 b4
    have HS := Lib.hid hs
    clear hs
    by_cases h30 : ns.length + 1 ≤ 30
    · go_enter Tryd.func28, Tryd.ntmps28
      go_wp2
      go_ret
      exact ⟨rfl, t2, fun h => absurd HS.out h, hsh⟩
    · go_enter Tryd.func28, Tryd.ntmps28
      go_wp2
      go_ret
      exact ⟨rfl, t2, fun h => absurd HS.out h, hsh⟩
  · have hl := run_lookup_miss (P := Tryd.prog) (t := 63) Tryd.underlying63 Tryd.underlying9 (run_checkKey_string Tryd.underlying9 · s ·) a4 (a5.miss hs) (z := .int .i64 0) zeroInt false
    have hu := run_update_new (P := Tryd.prog) (t := 63) Tryd.underlying63 Tryd.underlying9 (run_checkKey_string Tryd.underlying9 · s ·) a4 (a5.miss hs) (.int .i64 1)
    simp only [Bool.false_eq_true, if_false] at hl
    have hne := a5.push s k
    obtain ⟨j, f3⟩ := a5.push_hit hs k (.int .i64 1)
    generalize (es.push { key := Value.string s, val := .int .i64 1, born := k }) = es' at f3 hu hne
    have t1 : Two B M w (w.putObj M (.map es' (k + 1))) := ⟨rfl, rfl, rfl, by rw [World.putObj_size]; exact Nat.le_refl _, fun i _ _ h => World.putObj_heap_other h⟩
    obtain ⟨W1, hW1⟩ : ∃ W1, w.putObj M (.map es' (k + 1)) = W1 := ⟨_, rfl⟩
    rw [hW1] at hu t1
    have b1 : W1.cell? ⟨B, 0, none⟩ = some (.map (some M)) := by rw [← hW1, cell_putObj a6]; exact a1
    have b2 : W1.cell? ⟨B, 1, none⟩ = some (.int .i32 ns.length) := by rw [← hW1, cell_putObj a6]; exact a2
    have b3 : W1.frozen? ⟨B, 1, none⟩ = false := by rw [← hW1, frozen_putObj a6]; exact a3
    have b4 : W1.heap[M]? = some (.map es' (k + 1)) := by rw [← hW1]; exact World.putObj_heap_same hM
    have hadd := addI ns.length B b2 b3 (by omega) (by omega)
    have c2 : (W1.setCell ⟨B, 1, none⟩ (.int .i32 (ns.length + 1))).cell? ⟨B, 1, none⟩ = some (.int .i32 (ns.length + 1)) := World.cell?_setCell_same' _ _ _ (by rw [b2]; rfl)
    have c3 : (W1.setCell ⟨B, 1, none⟩ (.int .i32 (ns.length + 1))).frozen? ⟨B, 1, none⟩ = false := by rw [World.frozen?_setCell]; exact b3
    obtain ⟨W2, hW2⟩ : ∃ W2, W1.setCell ⟨B, 1, none⟩ (.int .i32 (ns.length + 1)) = W2 := ⟨_, rfl⟩
    rw [hW2] at hadd c2 c3
    have c1 : W2.cell? ⟨B, 0, none⟩ = some (.map (some M)) := by rw [← hW2, World.cell?_setCell_other _ _ _ _ (by intro e; injection e with _ e _; omega)]; exact b1
    have c4 : W2.heap[M]? = some (.map es' (k + 1)) := by rw [← hW2]; exact keepM (Ne.symm a6) b4
    have t2 : Two B M w W2 := by
      have g := Lib.grownBy_setCell W1 B 1 (.int .i32 (ns.length + 1))
      rw [hW2] at g
      exact ⟨g.os.trans t1.1, g.tape.trans t1.2.1, g.output.trans t1.2.2.1, Nat.le_trans t1.2.2.2.1 g.size, fun i hi h1 h2 => (g.block i (Nat.lt_of_lt_of_le hi t1.2.2.2.1) (by intro e; cases e; exact h1 rfl)).trans (t1.2.2.2.2 i hi h1 h2)⟩
    have hl2 := run_lookup_hit (P := Tryd.prog) (t := 63) Tryd.underlying63 Tryd.underlying9 (run_checkKey_string Tryd.underlying9 · s ·) c4 f3 false
    simp only [Bool.false_eq_true, if_false] at hl2
    have hmet : Met B M (ns ++ [s]) W2 := ⟨es', k + 1, c1, by rw [List.length_append, List.length_singleton]; exact c2, c3, c4, hne, a6⟩
    have hsn : decide (s ∉ ns) = true := by simpa using hs
    rw [hsn, Bool.and_true]
    have hsh : W2.shape? B = w.shape? B := by rw [← hW2, shape_set, ← hW1]; unfold World.shape?; rw [World.putObj_heap_other a6]
    clear hW1 hW2 hsn f3 a5 b4 hne hs
    by_cases h30 : ns.length + 1 ≤ 30
    · go_enter Tryd.func28, Tryd.ntmps28
      go_wp2
      go_ret
      exact ⟨ret_bool (by simp <;> omega), t2, fun _ => hmet, hsh⟩
    · go_enter Tryd.func28, Tryd.ntmps28
      go_wp2
      go_ret
      exact ⟨ret_bool (by simp <;> omega), t2, fun _ => hmet, hsh⟩
end Go.Proofs.YtbcjhmeeonhmaaaDoor.H
end
