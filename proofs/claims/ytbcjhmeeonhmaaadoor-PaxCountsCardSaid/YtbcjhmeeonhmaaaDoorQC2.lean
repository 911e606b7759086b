/-
The statement about PaxCounts, as a card: for every argument the law's answer is 'true'. There is no condition.
-/
import Derived.Test.YtbcjhmeeonhmaaaDoorQC1
import Derived.ScopeJumps
import Derived.BigRegion
import Derived.Lib.Builder
import Derived.Lib.FrozenHead
import Derived.Lib.OthersKept
import Derived.Stop.RegionWithIn
import Derived.RangeFuncBox
import Derived.Maps.AppendAt
import Derived.Test.YtbcjhmeeonhmaaaDoorCards
import Derived.Test.YtbcjhmeeonhmaaaDoorTie
import Derived.ProofKit
import Derived.OpenShut
import Derived.Deep.DeepHandedRow
import Derived.Deep.SlicePairs
import Derived.Stop.LaidTwo
import Derived.LaidMore
import Derived.LaidHandle
import Derived.Carry
import Derived.ChangeMaps5
import Derived.Deep.DeepWitnessRowRef
import Derived.Lib.SmallJoins
set_option linter.unusedVariables false
set_option linter.unusedSimpArgs false
/-
(*pax.reader).first, walked.
-/
section
set_option linter.unusedVariables false
set_option maxRecDepth 100000
namespace Go.Proofs.YtbcjhmeeonhmaaaDoor.H
open Go Go.RowKit Go.Proofs.YtbcjhmeeonhmaaaDoorW.PrintWords Go.Proofs.YtbcjhmeeonhmaaaDoorW.PrintMore Go.Proofs.YtbcjhmeeonhmaaaDoor.M

/-- A scope left by gotos to a label behind which nothing jumps. -/
theorem wp_scope_once {P : Program} {a : Act} {w : World} {Q : Exit → Act → World → Prop} {c rest : Code} (l : Nat) (hf : findLabel c l = some rest)
    (first : c.wp P (Exit.jump l (fun a w => rest.wp P (Exit.noGoto Q) a w) Q) a w) : (Code.scope c).wp P Q a w :=
  wp_scope_jumps l (fun a w => rest.wp P (Exit.noGoto Q) a w) (fun _ _ => 0) hf first (fun a w h => wp_mono h (fun e a w hq => by cases e <;> first | exact hq | exact hq.elim))

/-- The record that bytes begin with: its name, value, and how many bytes. -/
def firstS (t : ByteArray) : Option (ByteArray × ByteArray × Nat) :=
  if (cutS t 32).2.2 = true ∧ (cutS t 32).1.size ≤ 5 then
    (if (ownC 10 (cutS t 32).1).2 = 0 ∧ (ownC 10 (cutS t 32).1).1 ≤ t.size ∧ (cutS t 32).1.size + 2 ≤ (ownC 10 (cutS t 32).1).1 then
      (if (cutS (t.extract ((cutS t 32).1.size + 1) ((ownC 10 (cutS t 32).1).1.toNat - 1)) 61).2.2 = true then
        (if (oneS (cutS (t.extract ((cutS t 32).1.size + 1) ((ownC 10 (cutS t 32).1).1.toNat - 1)) 61).1 (cutS (t.extract ((cutS t 32).1.size + 1) ((ownC 10 (cutS t 32).1).1.toNat - 1)) 61).2.1).2 = 0 ∧
            (oneS (cutS (t.extract ((cutS t 32).1.size + 1) ((ownC 10 (cutS t 32).1).1.toNat - 1)) 61).1 (cutS (t.extract ((cutS t 32).1.size + 1) ((ownC 10 (cutS t 32).1).1.toNat - 1)) 61).2.1).1 = t.extract 0 (ownC 10 (cutS t 32).1).1.toNat then
          some ((cutS (t.extract ((cutS t 32).1.size + 1) ((ownC 10 (cutS t 32).1).1.toNat - 1)) 61).1, (cutS (t.extract ((cutS t 32).1.size + 1) ((ownC 10 (cutS t 32).1).1.toNat - 1)) 61).2.1, (ownC 10 (cutS t 32).1).1.toNat)
        else none) else none) else none) else none

def RdAt (R : Nat) (t : ByteArray) (sz : Nat) (ev : Value) (w : World) : Prop := w.heap[R]? = some (.cells #[.string t, .int .i64 sz, ev] 47 (0, 0))
theorem RdAt.c0 {R : Nat} {t : ByteArray} {sz : Nat} {ev : Value} {w : World} (h : RdAt R t sz ev w) : w.cell? ⟨R, 0, none⟩ = some (.string t) := by unfold RdAt at h; simp [World.cell?, h]
theorem RdAt.c1 {R : Nat} {t : ByteArray} {sz : Nat} {ev : Value} {w : World} (h : RdAt R t sz ev w) : w.cell? ⟨R, 1, none⟩ = some (.int .i64 sz) := by unfold RdAt at h; simp [World.cell?, h]
theorem RdAt.c2 {R : Nat} {t : ByteArray} {sz : Nat} {ev : Value} {w : World} (h : RdAt R t sz ev w) : w.cell? ⟨R, 2, none⟩ = some ev := by unfold RdAt at h; simp [World.cell?, h]
theorem RdAt.f {R : Nat} {t : ByteArray} {sz : Nat} {ev : Value} {w : World} (h : RdAt R t sz ev w) (i : Nat) : w.frozen? ⟨R, i, none⟩ = false := by unfold RdAt at h; simp [World.frozen?, h]
theorem RdAt.same {R : Nat} {t : ByteArray} {sz : Nat} {ev : Value} {w w' : World} (h : RdAt R t sz ev w) (k : w'.heap[R]? = w.heap[R]?) : RdAt R t sz ev w' := k.trans h
theorem RdAt.below {R : Nat} {t : ByteArray} {sz : Nat} {ev : Value} {w w' : World} (h : RdAt R t sz ev w) (k : Below w.heap.size w w') : RdAt R t sz ev w' := heapB k (lt_of_heap h) h
theorem RdAt.set {R : Nat} {t : ByteArray} {sz : Nat} {ev : Value} {w : World} (h : RdAt R t sz ev w) (t' : ByteArray) : RdAt R t' sz ev (w.setCell ⟨R, 0, none⟩ (.string t')) := by
  unfold RdAt at h ⊢; simp [World.setCell, Array.getElem?_modify, h]
theorem RdAt.fail {R : Nat} {t : ByteArray} {sz : Nat} {ev : Value} {w : World} (h : RdAt R t sz ev w) (v : Value) : RdAt R t sz v (w.setCell ⟨R, 2, none⟩ v) := by
  unfold RdAt at h ⊢; simp [World.setCell, Array.getElem?_modify, h]

theorem heap_al {w : World} {i : Nat} {o : Obj} (h : w.heap[i]? = some o) (o' : Obj) : (w.alloc o').heap[i]? = some o := heapB (below_one w o') (lt_of_heap h) h
def FirstPost (R : Nat) (t : ByteArray) (sz : Nat) (ev : Value) (w : World) (e : Ending) (w' : World) : Prop := w.grownBy w' (some R) ∧
  ((firstS t = none ∧ e = .returned (.tuple #[.agg #[.string ⟨#[]⟩, .string ⟨#[]⟩], .bool false]) ∧ RdAt R t sz ev w') ∨
   (∃ n v k, firstS t = some (n, v, k) ∧ e = .returned (.tuple #[.agg #[.string n, .string v], .bool true]) ∧ RdAt R (t.extract k t.size) sz ev w'))

/-- A block of two cells. -/
theorem two_cells {W : World} {b : Nat} {x y : Value} {T : TypeId} (h : W.heap[b]? = some (.cells #[x, y] T)) : W.cell? ⟨b, 0, none⟩ = some x ∧ W.cell? ⟨b, 1, none⟩ = some y ∧ ∀ i, W.frozen? ⟨b, i, none⟩ = false :=
  ⟨by simp [World.cell?, h], by simp [World.cell?, h], fun i => by simp [World.frozen?, h]⟩
theorem two_set {W : World} {b : Nat} {x y : Value} {T : TypeId} (h : W.heap[b]? = some (.cells #[x, y] T)) (x' y' : Value) : ((W.setCell ⟨b, 0, none⟩ x').setCell ⟨b, 1, none⟩ y').heap[b]? = some (.cells #[x', y'] T) := by
  simp [World.setCell, Array.getElem?_modify, h]
theorem grown_new {w W : World} {row : Option Nat} (h : w.grownBy W row) {b : Nat} (hb : w.heap.size ≤ b) (i : Nat) (v : Value) : w.grownBy (W.setCell ⟨b, i, none⟩ v) row :=
  ⟨h.os, h.tape, h.output, by have := h.size; simpa [World.setCell] using this, fun k hk hr => (heap_setCell_other _ _ _ _ (by simp only []; omega)).trans (h.block k hk hr)⟩
theorem grown_tr {w W W' : World} {row : Option Nat} (h : w.grownBy W row) (k : Below W.heap.size W W') : w.grownBy W' row :=
  ⟨k.os.trans h.os, k.tape.trans h.tape, k.output.trans h.output, Nat.le_trans h.size k.size, fun i hi hr => (k.block i (Nat.lt_of_lt_of_le hi h.size)).trans (h.block i hi hr)⟩
theorem none_end {R b : Nat} {t : ByteArray} {sz : Nat} {ev x y x' y' : Value} {T : TypeId} {w W : World} (hg : w.grownBy W (some R)) (hR : RdAt R t sz ev W) (hb : w.heap.size ≤ b) (hRb : R < b) (hx : W.heap[b]? = some (.cells #[x, y] T)) :
    w.grownBy ((W.setCell ⟨b, 0, none⟩ x').setCell ⟨b, 1, none⟩ y') (some R) ∧ RdAt R t sz ev ((W.setCell ⟨b, 0, none⟩ x').setCell ⟨b, 1, none⟩ y') ∧ ((W.setCell ⟨b, 0, none⟩ x').setCell ⟨b, 1, none⟩ y').cell? ⟨b, 0, none⟩ = some x' ∧ ((W.setCell ⟨b, 0, none⟩ x').setCell ⟨b, 1, none⟩ y').cell? ⟨b, 1, none⟩ = some y' := by
  have h := two_cells (two_set hx x' y')
  refine ⟨grown_new (grown_new hg hb _ _) hb _ _, hR.same ?_, h.1, h.2.1⟩
  rw [heap_setCell_other _ _ _ _ (by simp only []; omega), heap_setCell_other _ _ _ _ (by simp only []; omega)]

/-- What firstS asks, step by step. -/
theorem firstS_1 {t d d2 : ByteArray} {ok : Bool} (hc : cutS t 32 = (d, d2, ok)) (h : ¬ (ok = true ∧ d.size ≤ 5)) : firstS t = none := by unfold firstS; rw [hc]; rw [if_neg h]
theorem firstS_2 {t d d2 : ByteArray} (hc : cutS t 32 = (d, d2, true)) (hd : d.size ≤ 5) {n e : Int} (ho : ownC 10 d = (n, e)) (h : ¬ (e = 0 ∧ n ≤ (t.size : Int) ∧ (d.size : Int) + 2 ≤ n)) : firstS t = none := by
  unfold firstS; rw [hc]; simp only []; rw [if_pos ⟨trivial, hd⟩, ho]; simp only []; rw [if_neg h]
theorem firstS_3 {t d d2 : ByteArray} (hc : cutS t 32 = (d, d2, true)) (hd : d.size ≤ 5) {n : Nat} (ho : ownC 10 d = ((n : Int), 0)) (h : n ≤ t.size ∧ d.size + 2 ≤ n) {f v : ByteArray} {ok : Bool} (hb : cutS (t.extract (d.size + 1) (n - 1)) 61 = (f, v, ok)) :
    firstS t = if ok = true then (if (oneS f v).2 = 0 ∧ (oneS f v).1 = t.extract 0 n then some (f, v, n) else none) else none := by
  unfold firstS; rw [hc]; simp only []; rw [if_pos ⟨trivial, hd⟩, ho]; simp only []; rw [if_pos ⟨trivial, by omega, by omega⟩, Int.toNat_natCast, hb]

set_option maxHeartbeats 8000000 in
theorem first (R : Nat) (t : ByteArray) (sz : Nat) (ev : Value) (w : World) (hG : GW w) (hR : RdAt R t sz ev w) (ht : t.size ≤ 1073741824) :
    Calls Tryd.prog 34 #[.pointer (some ⟨R, 0, none⟩)] w (FirstPost R t sz ev w) := by
  have c0 := hR.c0
  have hC := fun w => cut t 32 w ht
  obtain ⟨c, hc⟩ : ∃ c, cutS t 32 = c := ⟨_, rfl⟩
  have hds : (cutS t 32).1.size ≤ t.size := by unfold cutS; split <;> simp <;> omega
  obtain ⟨d, d2, ok⟩ := c
  rw [hc] at hC hds
  simp only [] at hC hds
  have HCC := Lib.hid hc
  have HC := Lib.hid hC
  clear hc hC
  have hRlt := lt_of_heap hR
  obtain ⟨b0, hb0⟩ : ∃ b0, w.heap.size = b0 := ⟨_, rfl⟩
  obtain ⟨W0, hW0⟩ : ∃ W0, (w.alloc (.cells #[.string ⟨#[]⟩, .string ⟨#[]⟩] 31)).alloc (.cells #[.string ⟨#[]⟩, .string ⟨#[]⟩] 31) = W0 := ⟨_, rfl⟩
  have hB0 : Below b0 w W0 := by rw [← hW0, ← hb0]; exact ((Below.refl _ w).alloc (Nat.le_refl _) _).alloc (by simp) _
  have hz0 : W0.heap.size = b0 + 2 := by rw [← hW0, ← hb0]; simp
  have hx0 : W0.heap[b0]? = some (.cells #[.string ⟨#[]⟩, .string ⟨#[]⟩] 31) := by rw [← hW0, ← hb0]; exact heap_al (World.alloc_heap_new _ _) _
  have hx1 : W0.heap[b0 + 1]? = some (.cells #[.string ⟨#[]⟩, .string ⟨#[]⟩] 31) := by rw [← hW0, ← hb0]; simpa using World.alloc_heap_new (w.alloc (.cells #[.string ⟨#[]⟩, .string ⟨#[]⟩] 31)) (.cells #[.string ⟨#[]⟩, .string ⟨#[]⟩] 31)
  have hR0 : RdAt R t sz ev W0 := hR.same (hB0.block R (by omega))
  have c00 := hR0.c0
  have HC0 := HC.out W0
  have HC1 := Lib.hid HC0
  clear HC0 HC
  have hws : IntKind.u64.wrap (t.size : Int) = t.size := wrap_u64 _ (by omega) (by omega)
  have HO : ∀ w, GW w → Calls Tryd.prog 48 #[.int .i64 10, .string d] w fun e w' => e = .returned (.tuple #[.int .u64 (ownC 10 d).1, .int .i64 (ownC 10 d).2]) ∧ Below w.heap.size w w' := fun w h => num_Own 10 (by omega) d w h
  obtain ⟨o, ho⟩ : ∃ o, ownC 10 d = o := ⟨_, rfl⟩
  have hob : 0 ≤ (ownC 10 d).1 ∧ (ownC 10 d).1 < 18446744073709551616 := by
    have h := getC_bd 10 (by omega) d
    unfold ownC; split
    · exact ⟨by decide, by decide⟩
    · exact ⟨h.1, h.2.1⟩
  rw [ho] at HO hob
  obtain ⟨n, e⟩ := o
  simp only [] at hob
  obtain ⟨n, rfl⟩ := Int.eq_ofNat_of_zero_le hob.1
  have HN64 := Lib.hid hob.2
  have HT := Lib.hid ht
  have HOO := Lib.hid ho
  have HO1 := Lib.hid HO
  clear ho HO hob ht
  go_enter Tryd.func34, Tryd.ntmps34
  go_wp2
  refine wp_scope_once 0 rfl ?_
  go_wp2_with fail
  refine HC1.out.mono ?_
  rintro _ w1 ⟨rfl, hb1⟩
  have hB1 : Below b0 w w1 := hB0.trans (hb1.mono (by omega))
  have hG1 : w.grownBy w1 (some R) := ⟨hB1.os, hB1.tape, hB1.output, hB1.size, fun i hi _ => hB1.block i (by omega)⟩
  have hR1 := hR0.below hb1
  have hy0 := heapB hb1 (by omega) hx0
  have hy1 := heapB hb1 (by omega) hx1
  clear hW0 hb1 hB0 hx0 hx1 HC1
  cases ok with
  | false =>
    obtain ⟨y00, y01, y02⟩ := two_cells hy0
    go_wp2
    refine wp_goto ?_
    go_wp2
    refine ⟨rfl, ?_⟩
    go_wp2
    obtain ⟨e1, e2, e3, e4⟩ := none_end (x' := .string ⟨#[]⟩) (y' := .string ⟨#[]⟩) hG1 hR1 (by omega) (by omega) hy0
    simp only [Exit.noGoto]
    exact bodyPost_ret (v := .tuple #[.agg #[.string ⟨#[]⟩, .string ⟨#[]⟩], .bool false]) (by simp [results, Tryd.results34, go_sem, e3, e4]) rfl ⟨e1, .inl ⟨firstS_1 HCC.out (by simp), rfl, e2⟩⟩
  | true =>
    by_cases h5 : d.size ≤ 5
    · have h5b : decide ((5 : Int) < (d.size : Int)) = false := by simp; omega
      have H5 := Lib.hid h5
      have HW := Lib.hid (HO1.out w1 (hG.below (hB1.mono (by omega))))
      go_wp2_with fail
      refine HW.out.mono ?_
      rintro _ w2 ⟨rfl, hb2⟩
      have hB2 : Below b0 w w2 := hB1.trans (hb2.mono (by have := hB1.size; omega))
      have hG2 := grown_tr hG1 hb2
      have hR2 := hR1.below hb2
      have hz1 := lt_of_heap hy1
      have hy0 := heapB hb2 (by omega) hy0
      have hy1 := heapB hb2 (by omega) hy1
      obtain ⟨y00, y01, y02⟩ := two_cells hy0
      obtain ⟨x00, x01, x02⟩ := two_cells hy1
      have c02 := hR2.c0
      simp only []
      by_cases hok : e = 0 ∧ n ≤ t.size ∧ d.size + 2 ≤ n
      · obtain ⟨rfl, hn1, hn2⟩ := hok
        have hnb : n ≤ 1073741824 := by have := HT.out; omega
        have g1 : decide (t.size < n) = false := by simp; omega
        have g2 : decide ((n : Int) < (d.size : Int) + 2) = false := by simp; omega
        obtain ⟨m, hm⟩ : ∃ m, n - 1 = m := ⟨_, rfl⟩
        have hm1 : IntKind.u64.wrap ((n : Int) - 1) = (m : Int) := by rw [wrap_u64 _ (by omega) (by omega)]; omega
        have hm2 : d.size + 1 ≤ m := by omega
        have hm3 : m ≤ t.size := by omega
        have hs1 := fun (W : World) => run_slice_string (P := Tryd.prog) W 9 t .i64 .u64 ((d.size : Int) + 1) (m : Int) Tryd.underlying9 (by omega) (by omega) (by omega)
        obtain ⟨bd, hbd⟩ : ∃ bd, t.extract ((d.size : Int) + 1).toNat ((m : Int)).toNat = bd := ⟨_, rfl⟩
        rw [hbd] at hs1
        have hbd2 : t.extract (d.size + 1) (n - 1) = bd := by rw [← hbd]; congr 1 <;> omega
        have hbds : bd.size ≤ 1073741824 := by rw [← hbd2]; simp only [ByteArray.size_extract]; omega
        obtain ⟨cc, hcc⟩ : ∃ cc, cutS bd 61 = cc := ⟨_, rfl⟩
        have hC2 := cut bd 61 w2 hbds
        rw [hcc] at hC2
        obtain ⟨f, v, fok⟩ := cc
        simp only [] at hC2
        have hF3 := fun (okk : Bool) (h : cutS bd 61 = (f, v, okk)) => firstS_3 (f := f) (v := v) (ok := okk) HCC.out H5.out HOO.out ⟨hn1, hn2⟩ (by rw [hbd2]; exact h)
        have HF3 := Lib.hid (hF3 fok hcc)
        have HC2 := Lib.hid hC2
        clear hC2 hF3 hcc hbd hbd2 hm
        go_wp2_with fail
        refine HC2.out.mono ?_
        rintro _ w3 ⟨rfl, hb3⟩
        have hB3 : Below b0 w w3 := hB2.trans (hb3.mono (by have := hB2.size; omega))
        have hG3 := grown_tr hG2 hb3
        have hR3 := hR2.below hb3
        have hz2 := lt_of_heap hy1
        have hy0 := heapB hb3 (by omega) hy0
        have hy1 := heapB hb3 (by omega) hy1
        obtain ⟨y00, y01, y02⟩ := two_cells hy0
        obtain ⟨x00, x01, x02⟩ := two_cells hy1
        have c03 := hR3.c0
        obtain ⟨W4, hW4⟩ : ∃ W4, (w3.setCell ⟨b0 + 1, 0, none⟩ (.string f)).setCell ⟨b0 + 1, 1, none⟩ (.string v) = W4 := ⟨_, rfl⟩
        have hG4 : w.grownBy W4 (some R) := by rw [← hW4]; exact grown_new (grown_new hG3 (by omega) _ _) (by omega) _ _
        have hR4 : RdAt R t sz ev W4 := hR3.same (by rw [← hW4, heap_setCell_other _ _ _ _ (by simp only []; omega), heap_setCell_other _ _ _ _ (by simp only []; omega)])
        have hy04 : W4.heap[b0]? = some (.cells #[.string ⟨#[]⟩, .string ⟨#[]⟩] 31) := by rw [← hW4, heap_setCell_other _ _ _ _ (by simp only []; omega), heap_setCell_other _ _ _ _ (by simp only []; omega)]; exact hy0
        have hy14 : W4.heap[b0 + 1]? = some (.cells #[.string f, .string v] 31) := by rw [← hW4]; exact two_set hy1 (.string f) (.string v)
        have hB4 : Below R w W4 := by rw [← hW4]; exact ((hB3.mono (by omega)).setCell (p := ⟨b0 + 1, 0, none⟩) (by simp only []; omega) _).setCell (p := ⟨b0 + 1, 1, none⟩) (by simp only []; omega) _
        obtain ⟨z00, z01, z02⟩ := two_cells hy04
        obtain ⟨v00, v01, v02⟩ := two_cells hy14
        have c04 := hR4.c0
        cases fok with
        | false =>
          go_wp2
          refine wp_goto ?_
          go_wp2
          refine ⟨rfl, ?_⟩
          go_wp2
          obtain ⟨e1, e2, e3, e4⟩ := none_end (x' := .string ⟨#[]⟩) (y' := .string ⟨#[]⟩) hG4 hR4 (by omega) (by omega) hy04
          simp only [Exit.noGoto]
          exact bodyPost_ret (v := .tuple #[.agg #[.string ⟨#[]⟩, .string ⟨#[]⟩], .bool false]) (by simp [results, Tryd.results34, go_sem, e3, e4]) rfl ⟨e1, .inl ⟨(HF3.out).trans (by rw [if_neg (by decide)]), rfl, e2⟩⟩
        | true =>
          have HOn := one f v W4
          have hF4 : firstS t = if (oneS f v).2 = 0 ∧ (oneS f v).1 = t.extract 0 n then some (f, v, n) else none := (HF3.out).trans (by rw [if_pos rfl])
          obtain ⟨on, hon⟩ : ∃ on, oneS f v = on := ⟨_, rfl⟩
          rw [hon] at HOn hF4
          obtain ⟨s, e⟩ := on
          simp only [] at HOn hF4
          have HF4 := Lib.hid hF4
          have HOn1 := Lib.hid HOn
          clear HOn hF4 hon HF3
          go_wp2_with fail
          refine HOn1.out.mono ?_
          rintro _ w5 ⟨rfl, hb5⟩
          have hG5 := grown_tr hG4 hb5
          have hR5 := hR4.below hb5
          have hz4 := lt_of_heap hy14
          have hy05 := heapB hb5 (by omega) hy04
          have hy15 := heapB hb5 (by omega) hy14
          obtain ⟨s00, s01, s02⟩ := two_cells hy05
          obtain ⟨r00, r01, r02⟩ := two_cells hy15
          have c05 := hR5.c0
          by_cases he : e = 0
          · subst he
            have hsl := fun (W : World) => run_slice_string_h (P := Tryd.prog) W 9 t Tryd.underlying9 .u64 (n : Int) (by omega) (by omega)
            obtain ⟨hd, hhd⟩ : ∃ hd, t.extract 0 ((n : Int)).toNat = hd := ⟨_, rfl⟩
            have hhd2 : t.extract 0 n = hd := hhd
            rw [hhd] at hsl
            by_cases hss : s = hd
            · have hF5 : firstS t = some (f, v, n) := (HF4.out).trans (by rw [if_pos ⟨rfl, by rw [hss, hhd2]⟩])
              have HF5 := Lib.hid hF5
              subst hss
              have htl := fun (W : World) => run_slice_string_l (P := Tryd.prog) W 9 t Tryd.underlying9 .u64 (n : Int) (by omega) (by omega)
              clear hF5 hhd hhd2
              have hzz := hR5.f 0
              rw [Int.toNat_natCast] at htl
              go_wp2
              have hR6 := hR5.set (t.extract n t.size)
              have hG6 := Lib.grownBy_setB hG5 0 (.string (t.extract n t.size))
              have hy06 : (w5.setCell ⟨R, 0, none⟩ (.string (t.extract n t.size))).heap[b0]? = some (.cells #[.string ⟨#[]⟩, .string ⟨#[]⟩] 31) := by rw [heap_setCell_other _ _ _ _ (by simp only []; omega)]; exact hy05
              obtain ⟨e1, e2, e3, e4⟩ := none_end (x' := .string f) (y' := .string v) hG6 hR6 (by omega) (by omega) hy06
              simp only [Exit.jump]
              exact bodyPost_ret (v := .tuple #[.agg #[.string f, .string v], .bool true]) (by simp [results, Tryd.results34, go_sem, e3, e4]) rfl ⟨e1, .inr ⟨f, v, n, HF5.out, rfl, e2⟩⟩
            · have hF5 : firstS t = none := (HF4.out).trans (by rw [if_neg (fun h => hss (by rw [h.2, hhd2]))])
              have HF5 := Lib.hid hF5
              have hne : (s.toList == hd.toList) = false := by simpa using fun e => hss (toList_inj.1 e)
              clear hF5 hss hhd hhd2
              go_wp2
              refine wp_goto ?_
              go_wp2
              refine ⟨rfl, ?_⟩
              go_wp2
              obtain ⟨e1, e2, e3, e4⟩ := none_end (x' := .string ⟨#[]⟩) (y' := .string ⟨#[]⟩) hG5 hR5 (by omega) (by omega) hy05
              simp only [Exit.noGoto]
              exact bodyPost_ret (v := .tuple #[.agg #[.string ⟨#[]⟩, .string ⟨#[]⟩], .bool false]) (by simp [results, Tryd.results34, go_sem, e3, e4]) rfl ⟨e1, .inl ⟨HF5.out, rfl, e2⟩⟩
          · have hF5 : firstS t = none := (HF4.out).trans (by rw [if_neg (fun h => he h.1)])
            have HF5 := Lib.hid hF5
            have g0 : (e != 0) = true := by simpa using he
            have g0' : (e == 0) = false := by simpa using he
            clear he hF5
            go_wp2
            refine wp_goto ?_
            go_wp2
            refine ⟨rfl, ?_⟩
            go_wp2
            obtain ⟨e1, e2, e3, e4⟩ := none_end (x' := .string ⟨#[]⟩) (y' := .string ⟨#[]⟩) hG5 hR5 (by omega) (by omega) hy05
            simp only [Exit.noGoto]
            exact bodyPost_ret (v := .tuple #[.agg #[.string ⟨#[]⟩, .string ⟨#[]⟩], .bool false]) (by simp [results, Tryd.results34, go_sem, e3, e4]) rfl ⟨e1, .inl ⟨HF5.out, rfl, e2⟩⟩
      · have HN : Hid (¬ (e = 0 ∧ (n : Int) ≤ t.size ∧ (d.size : Int) + 2 ≤ n)) := Lib.hid (by omega)
        by_cases he : e = 0
        · subst he
          by_cases hnt : n ≤ t.size
          · have hnb : n ≤ 1073741824 := by have := HT.out; omega
            have g1 : decide (t.size < n) = false := by simp; omega
            have g2 : decide ((n : Int) < (d.size : Int) + 2) = true := by simp; omega
            clear hok
            go_wp2
            refine wp_goto ?_
            go_wp2
            refine ⟨rfl, ?_⟩
            go_wp2
            obtain ⟨e1, e2, e3, e4⟩ := none_end (x' := .string ⟨#[]⟩) (y' := .string ⟨#[]⟩) hG2 hR2 (by omega) (by omega) hy0
            simp only [Exit.noGoto]
            exact bodyPost_ret (v := .tuple #[.agg #[.string ⟨#[]⟩, .string ⟨#[]⟩], .bool false]) (by simp [results, Tryd.results34, go_sem, e3, e4]) rfl ⟨e1, .inl ⟨firstS_2 HCC.out H5.out HOO.out (by simpa using HN.out), rfl, e2⟩⟩
          · have g1 : decide (t.size < n) = true := by simp; omega
            clear hok
            go_wp2
            refine wp_goto ?_
            go_wp2
            refine ⟨rfl, ?_⟩
            go_wp2
            obtain ⟨e1, e2, e3, e4⟩ := none_end (x' := .string ⟨#[]⟩) (y' := .string ⟨#[]⟩) hG2 hR2 (by omega) (by omega) hy0
            simp only [Exit.noGoto]
            exact bodyPost_ret (v := .tuple #[.agg #[.string ⟨#[]⟩, .string ⟨#[]⟩], .bool false]) (by simp [results, Tryd.results34, go_sem, e3, e4]) rfl ⟨e1, .inl ⟨firstS_2 HCC.out H5.out HOO.out (by simpa using HN.out), rfl, e2⟩⟩
        · have g0 : (e != 0) = true := by simpa using he
          have g0' : (e == 0) = false := by simpa using he
          clear hok he
          go_wp2
          refine wp_goto ?_
          go_wp2
          refine ⟨rfl, ?_⟩
          go_wp2
          obtain ⟨e1, e2, e3, e4⟩ := none_end (x' := .string ⟨#[]⟩) (y' := .string ⟨#[]⟩) hG2 hR2 (by omega) (by omega) hy0
          simp only [Exit.noGoto]
          exact bodyPost_ret (v := .tuple #[.agg #[.string ⟨#[]⟩, .string ⟨#[]⟩], .bool false]) (by simp [results, Tryd.results34, go_sem, e3, e4]) rfl ⟨e1, .inl ⟨firstS_2 HCC.out H5.out HOO.out (by simpa using HN.out), rfl, e2⟩⟩
    · obtain ⟨y00, y01, y02⟩ := two_cells hy0
      have h5b : decide ((5 : Int) < (d.size : Int)) = true := by simp; omega
      have H5 := Lib.hid h5
      clear h5
      go_wp2
      refine wp_goto ?_
      go_wp2
      refine ⟨rfl, ?_⟩
      go_wp2
      obtain ⟨e1, e2, e3, e4⟩ := none_end (x' := .string ⟨#[]⟩) (y' := .string ⟨#[]⟩) hG1 hR1 (by omega) (by omega) hy0
      simp only [Exit.noGoto]
      exact bodyPost_ret (v := .tuple #[.agg #[.string ⟨#[]⟩, .string ⟨#[]⟩], .bool false]) (by simp [results, Tryd.results34, go_sem, e3, e4]) rfl ⟨e1, .inl ⟨firstS_1 HCC.out (fun h => H5.out h.2), rfl, e2⟩⟩
end Go.Proofs.YtbcjhmeeonhmaaaDoor.H
end

/-
(*strings.Builder).copyCheck and WriteString at this program. The lines of the shelf's proofs, turned to this dump.
-/
section
set_option linter.unusedVariables false
set_option maxRecDepth 100000
namespace Go.Proofs.YtbcjhmeeonhmaaaDoor.H
open Go Go.RowKit

theorem sizeBuilder : (Tryd.prog.info? 61).map (·.size) = some 2 := by kernel_rfl
set_option maxHeartbeats 1000000 in
theorem copyCheck_used (b : Nat) (w : World) (h0 : w.cell? ⟨b, 0, none⟩ = some (.pointer (some ⟨b, 0, none⟩))) :
    Calls Tryd.prog 43 #[.pointer (some ⟨b, 0, none⟩)] w fun e w' => e = .returned (.tuple #[]) ∧ w' = w := by
  obtain ⟨j, hj, _⟩ := Option.map_eq_some_iff.1 sizeBuilder
  have hq := Lib.run_neq_ptr_same (P := Tryd.prog) w ⟨b, 0, none⟩ Tryd.underlying58 hj
  go_enter Tryd.func43, Tryd.ntmps43
  go_wp2
  try rw [hq]
  go_wp2
  go_end0
  exact ⟨rfl, rfl⟩

set_option maxHeartbeats 1000000 in
theorem copyCheck_fresh (b : Nat) (w : World) (h0 : w.cell? ⟨b, 0, none⟩ = some (.pointer none)) (hsh : w.shape? b = some (61, 2)) (hfz : w.frozen? ⟨b, 0, none⟩ = false) :
    Calls Tryd.prog 43 #[.pointer (some ⟨b, 0, none⟩)] w fun e w' => e = .returned (.tuple #[]) ∧ w' = w.setCell ⟨b, 0, none⟩ (.pointer (some ⟨b, 0, none⟩)) := by
  obtain ⟨j, hj, hjs⟩ := Option.map_eq_some_iff.1 sizeBuilder
  have g1 := Lib.run_to_unsafe (P := Tryd.prog) (src := 58) (dst := 99) w ⟨b, 0, none⟩ Tryd.underlying58 Tryd.underlying99 hj (by rw [hjs]; decide) hsh (Nat.zero_lt_succ 1)
  have g2 := fun args => @run_callFunc_extern Tryd.prog 58 _ Extern.AbiNoEscape.same Tryd.func58 (by kernel_rfl) (by kernel_rfl) (by kernel_rfl) (by kernel_rfl) args w
  have g4 : (Extern.AbiNoEscape.same #[.pointer (some ⟨b, 0, none⟩)]).run Tryd.prog w = .ok (.pointer (some ⟨b, 0, none⟩)) w := rfl
  have g3 := Lib.run_from_unsafe (P := Tryd.prog) (src := 99) (dst := 58) w ⟨b, 0, none⟩ Tryd.underlying99 Tryd.underlying58 hj hsh (by kernel_rfl)
  go_enter Tryd.func43, Tryd.ntmps43
  go_wp2
  go_end0
  exact ⟨rfl, rfl⟩
theorem copyCheck (B b : Nat) (bs : List Value) (w : World) (h : Lib.IsBuilderF 61 5 B b bs w) :
    Calls Tryd.prog 43 #[.pointer (some ⟨b, 0, none⟩)] w fun e w' => e = .returned (.tuple #[]) ∧ (Lib.BuilderAtF 61 5 B b (.pointer (some ⟨b, 0, none⟩)) bs w' ∧ Below B w w' ∧ Lib.OthersKept 5 (some b) w w') := by
  rcases h with h | h
  · refine (copyCheck_fresh b w h.cell0 h.shape h.frozen0).mono ?_
    rintro e w' ⟨rfl, rfl⟩
    exact ⟨rfl, h.used _, (Below.refl B w).setCell (p := ⟨b, 0, none⟩) h.1 _, (Lib.OthersKept.refl _ _ w).setCell ⟨b, 0, none⟩ rfl _⟩
  · refine (copyCheck_used b w h.cell0).mono ?_
    rintro e w' ⟨rfl, rfl⟩
    exact ⟨rfl, h, Below.refl B _, Lib.OthersKept.refl _ _ _⟩

end Go.Proofs.YtbcjhmeeonhmaaaDoor.H
end

/-
pax.Put, walked.
-/
section
set_option linter.unusedVariables false
set_option maxRecDepth 100000
namespace Go.Proofs.YtbcjhmeeonhmaaaDoor.H
open Go Go.RowKit Go.Proofs.YtbcjhmeeonhmaaaDoorW.PrintWords Go.Proofs.YtbcjhmeeonhmaaaDoorW.PrintMore Go.Proofs.YtbcjhmeeonhmaaaDoor.M

theorem oneS_cases (n v : ByteArray) : ((oneS n v).2 = 0 ∧ (oneS n v).1.size ≤ 810) ∨ (oneS n v = (⟨#[]⟩, 90)) := by
  unfold oneS
  by_cases h : isOneB n v = true
  · rw [if_pos h]
    left
    refine ⟨rfl, ?_⟩
    have hb := isOneB_bd h
    have hr := restS_size n v
    have hm := (szL_min (L := (restS n v).size) (by omega) (by omega)).1
    have hd := dgl_r (m := szL (restS n v).size) (by omega)
    have hdd : dgl (szL (restS n v).size) = (putS 10 (szL (restS n v).size)).size := rfl
    simp only [ByteArray.size_append]
    omega
  · rw [if_neg h]; right; rfl

/-- The names, with the kind of their blocks. -/
def MetK (B M : Nat) (ns : List ByteArray) (w : World) : Prop := Met B M ns w ∧ w.shape? B = some (69, 2)
theorem shape_of {w : World} {B : Nat} {T : TypeId} {n : Nat} (h : w.shape? B = some (T, n)) : ∃ c fz, w.heap[B]? = some (.cells c T fz) := by
  unfold World.shape? at h
  split at h
  · rename_i c e fz hb
    injection h with h; injection h with h1 h2
    subst h1
    exact ⟨_, _, hb⟩
  · cases h
theorem MetK.below {B M : Nat} {ns : List ByteArray} {w w' : World} (h : MetK B M ns w) (hb : Below w.heap.size w w') : MetK B M ns w' := by
  obtain ⟨c, fz, hc⟩ := shape_of h.2
  refine ⟨h.1.below hb, ?_⟩
  rw [← h.2]; unfold World.shape?; rw [hb.block _ (lt_of_heap hc)]
end Go.Proofs.YtbcjhmeeonhmaaaDoor.H
end

-- Laid by a program of this session for this claim.
section
namespace Go.Proofs.YtbcjhmeeonhmaaaDoor.M
open Go.RowKit Go.Proofs.YtbcjhmeeonhmaaaDoorW.PrintWords Go.Proofs.YtbcjhmeeonhmaaaDoorW.PrintLast Go.Proofs.YtbcjhmeeonhmaaaDoorW.PrintMore
attribute [local go_sem] max2_int min2_int max_two min_two max_three min_three max_four min_four   -- for this text's walks alone
set_option linter.unusedVariables false
set_option linter.unusedSimpArgs false

theorem eqA31 (d : Nat) (w : World) (x0 y0 : ByteArray) (x1 y1 : ByteArray) :
    (Op.equalIn (d + 2) 31 (.agg #[.string x0, .string x1]) (.agg #[.string y0, .string y1])).run Tryd.prog w = .ok (x0.toList == y0.toList && (x1.toList == y1.toList)) w := by
  refine eqA_of Tryd.underlying31 (by kernel_rfl) ?_
  refine eqf_cons (by rfl) (by go_simp; rfl) (by go_simp; rfl) (by go_simp) ?_
  exact eqf_last (by rfl) (by go_simp; rfl) (by go_simp; rfl) (by go_simp)
end Go.Proofs.YtbcjhmeeonhmaaaDoor.M
end

/-
The records of bytes: (*pax.reader).records, and its iterator.
-/
section
set_option linter.unusedVariables false
set_option maxRecDepth 100000
namespace Go.Proofs.YtbcjhmeeonhmaaaDoor.H
open Go Go.RowKit Go.Proofs.YtbcjhmeeonhmaaaDoorW.PrintWords Go.Proofs.YtbcjhmeeonhmaaaDoorW.PrintMore Go.Proofs.YtbcjhmeeonhmaaaDoor.M
attribute [local go_sem] Oper.semAt_some
attribute [local go_sem high] eqA31

/-- Records that bytes begin with, their names apart, and what is left. -/
inductive Rec : ByteArray → List S31 → ByteArray → Prop
  | nil (s : ByteArray) : Rec s [] s
  | snoc {s t : ByteArray} {pre : List S31} {n v : ByteArray} {k : Nat} (h : Rec s pre t) (h0 : t.size ≠ 0) (hf : firstS t = some (n, v, k)) (hn : pre.length + 1 ≤ 30 ∧ n ∉ pre.map (·.f0)) : Rec s (pre ++ [⟨n, v⟩]) (t.extract k t.size)
/-- There is none at what is left. -/
def Bad (pre : List S31) (t : ByteArray) : Prop := t.size ≠ 0 ∧ (firstS t = none ∨ ∃ n v k, firstS t = some (n, v, k) ∧ ¬ (pre.length + 1 ≤ 30 ∧ n ∉ pre.map (·.f0)))
theorem firstS_some {t n v : ByteArray} {k : Nat} (h : firstS t = some (n, v, k)) : isOneB n v = true ∧ 2 ≤ k ∧ k ≤ t.size := by
  obtain ⟨c, hc⟩ : ∃ c, cutS t 32 = c := ⟨_, rfl⟩
  obtain ⟨d, d2, ok⟩ := c
  by_cases h1 : ok = true ∧ d.size ≤ 5
  · obtain ⟨rfl, h1⟩ := h1
    obtain ⟨o, ho⟩ : ∃ o, ownC 10 d = o := ⟨_, rfl⟩
    obtain ⟨m, e⟩ := o
    by_cases h2 : e = 0 ∧ m ≤ (t.size : Int) ∧ (d.size : Int) + 2 ≤ m
    · obtain ⟨rfl, h3, h4⟩ := h2
      obtain ⟨m, rfl⟩ := Int.eq_ofNat_of_zero_le (by omega : 0 ≤ m)
      obtain ⟨b, hb⟩ : ∃ b, cutS (t.extract (d.size + 1) (m - 1)) 61 = b := ⟨_, rfl⟩
      obtain ⟨f, v', okk⟩ := b
      rw [firstS_3 hc h1 ho ⟨by omega, by omega⟩ hb] at h
      cases okk with
      | false => rw [if_neg (by decide)] at h; cases h
      | true =>
        rw [if_pos rfl] at h
        by_cases h5 : (oneS f v').2 = 0 ∧ (oneS f v').1 = t.extract 0 m
        · rw [if_pos h5] at h
          injection h with h
          injection h with h6 h7
          injection h7 with h7 h8
          subst h6 h7 h8
          refine ⟨?_, by omega, by omega⟩
          have := h5.1
          unfold oneS at this
          by_cases h9 : isOneB f v' = true
          · exact h9
          · rw [if_neg h9] at this; cases this
        · rw [if_neg h5] at h; cases h
    · rw [firstS_2 hc h1 ho h2] at h; cases h
  · rw [firstS_1 hc h1] at h; cases h
theorem Rec.size {s t : ByteArray} {pre : List S31} (h : Rec s pre t) : pre.length ≤ 30 ∧ t.size ≤ s.size := by
  induction h with
  | nil => simp
  | snoc h h0 hf hn ih => rw [List.length_append, List.length_singleton]; simp only [ByteArray.size_extract]; omega

theorem modify_same {α : Type} {a : Array α} {i : Nat} {x : α} {f : α → α} (h : a[i]? = some x) (hf : f x = x) : a.modify i f = a := by
  apply Array.ext_getElem?
  intro j
  rw [Array.getElem?_modify]
  by_cases hj : i = j
  · subst hj; rw [if_pos rfl, h]; simp [hf]
  · rw [if_neg hj]
theorem two_same {W : World} {b : Nat} {x y : Value} {T : TypeId} (h : W.heap[b]? = some (.cells #[x, y] T)) : (W.setCell ⟨b, 0, none⟩ x).setCell ⟨b, 1, none⟩ y = W := by
  have e1 : W.setCell ⟨b, 0, none⟩ x = W := by
    show ({ W with heap := _ } : World) = W
    rw [modify_same h (by rfl)]
  rw [e1]
  show ({ W with heap := _ } : World) = W
  rw [modify_same h (by rfl)]
/-- The iterator's own steps. -/
def RecStep (w0 : World) (R : Nat) (A B : World) : Prop := (B.os = A.os ∧ B.tape = A.tape ∧ B.output = A.output ∧ A.heap.size ≤ B.heap.size ∧
  ∀ k o, A.heap[k]? = some o → k ≠ R → (∀ c fz, o ≠ .cells c 69 fz) → o.isWalk = false → B.heap[k]? = some o) ∧ (Below w0.heap.size w0 A → Below w0.heap.size w0 B)
theorem RecStep.trans {w0 : World} {R : Nat} {A B C : World} (h : RecStep w0 R A B) (k : RecStep w0 R B C) : RecStep w0 R A C :=
  ⟨⟨k.1.1.trans h.1.1, k.1.2.1.trans h.1.2.1, k.1.2.2.1.trans h.1.2.2.1, Nat.le_trans h.1.2.2.2.1 k.1.2.2.2.1, fun i o h1 h2 h3 h4 => k.1.2.2.2.2 i o (h.1.2.2.2.2 i o h1 h2 h3 h4) h2 h3 h4⟩, fun b => k.2 (h.2 b)⟩
theorem RecStep.of_below {w0 : World} {R : Nat} {A B : World} (h : Below A.heap.size A B) : RecStep w0 R A B := ⟨⟨h.os, h.tape, h.output, h.size, fun i o h1 _ _ _ => heapB h (lt_of_heap h1) h1⟩, fun b => b.trans (h.mono b.size)⟩
theorem RecStep.of_grown {w0 : World} {R : Nat} {A B : World} (h : A.grownBy B (some R)) (hR : w0.heap.size ≤ R) : RecStep w0 R A B := ⟨⟨h.os, h.tape, h.output, h.size, fun i o h1 h2 _ _ => (h.block i (lt_of_heap h1) (by intro e; cases e; exact h2 rfl)).trans h1⟩,
  fun b => b.trans ⟨h.os, h.tape, h.output, h.size, fun i hi => h.block i (by have := b.size; omega) (by intro e; injection e; omega)⟩⟩
theorem RecStep.of_two {w0 : World} {R Bn M : Nat} {A B : World} {ns : List ByteArray} (h : Two Bn M A B) (hm : MetK Bn M ns A) (hBn : w0.heap.size ≤ Bn) (hM : w0.heap.size ≤ M) : RecStep w0 R A B := by
  refine ⟨⟨h.1, h.2.1, h.2.2.1, h.2.2.2.1, fun i o h1 h2 h3 h4 => ?_⟩, fun b => h.below b hBn hM b.size⟩
  have e1 : i ≠ Bn := by
    rintro rfl
    obtain ⟨c, fz, hc⟩ := shape_of hm.2
    rw [h1] at hc; injection hc with hc; exact h3 _ _ hc
  have e2 : i ≠ M := by
    rintro rfl
    obtain ⟨⟨es, k, _, _, _, h4', _⟩, _⟩ := hm
    rw [h1] at h4'; injection h4' with h4'; subst h4'; cases h4
  exact (h.2.2.2.2 i (lt_of_heap h1) e1 e2).trans h1
theorem RecStep.drew {w0 : World} {R : Nat} {A B : World} (h : RecStep w0 R A B) : RecStep w0 R A B.drew := ⟨h.1, fun b => below_dr (h.2 b)⟩
/-- What a round keeps. -/
def RecKeep (w0 : World) (R Bx : Nat) (A B : World) : Prop := B.heap[R]? = A.heap[R]? ∧ B.heap[Bx]? = A.heap[Bx]? ∧ (∀ (k : Nat) (c : Array Value) (fz : Nat × Nat), A.heap[k]? = some (Obj.cells c 69 fz) → B.heap[k]? = some (Obj.cells c 69 fz)) ∧ (∀ (k : Nat) (es : Array MapEntry) (c : Nat), A.heap[k]? = some (Obj.map es c) → B.heap[k]? = some (Obj.map es c)) ∧ (Below w0.heap.size w0 A → Below w0.heap.size w0 B)
theorem MetK.keep {w0 : World} {Bn M R Bx : Nat} {ns : List ByteArray} {w w' : World} (h : MetK Bn M ns w) (k : RecKeep w0 R Bx w w') : MetK Bn M ns w' := by
  obtain ⟨c, fz, hc⟩ := shape_of h.2
  obtain ⟨es, k', a1, a2, a3, a4, a5, a6⟩ := id h.1
  have e1 := k.2.2.1 Bn c fz hc
  have e2 := k.2.2.2.1 M es k' a4
  refine ⟨h.1.same (e1.trans hc.symm) (e2.trans a4.symm), ?_⟩
  rw [← h.2]; unfold World.shape?; rw [e1, hc]
/-- What the iterator asks. -/
def RecAt (w0 : World) (R Bx : Nat) (t : ByteArray) (sz : Nat) (w : World) : Prop := w.cell? ⟨Bx, 0, none⟩ = some (.pointer (some ⟨R, 0, none⟩)) ∧ RdAt R t sz .nilIface w ∧ Below w0.heap.size w0 w ∧ R ≠ Bx
/-- The error of no record. -/
def wrongV (n : Int) : Value := .iface 76 (.agg #[.int .i64 n])
def RecEnd (R : Nat) (s : ByteArray) (xs : List S31) (W : World) : Prop :=
  ∃ t, Rec s xs t ∧ ((t.size = 0 ∧ ∃ t', RdAt R t' s.size .nilIface W) ∨ (Bad xs t ∧ ∃ t', RdAt R t' s.size (wrongV ((s.size : Int) - t.size)) W))
def encA (x : S31) : Array Value := #[.agg #[.string x.f0, .string x.f1]]
def restSizeR (R : Nat) (w : World) : Nat := match w.cell? ⟨R, 0, none⟩ with | some (.string t) => t.size | _ => 0
theorem RdAt.restSize {R : Nat} {t : ByteArray} {sz : Nat} {ev : Value} {w : World} (h : RdAt R t sz ev w) : restSizeR R w = t.size := by unfold restSizeR; rw [h.c0]

set_option maxHeartbeats 4000000 in
theorem records_iter (w0 : World) (hG0 : GW w0) (R Bx : Nat) (hR0 : w0.heap.size ≤ R) (s : ByteArray) (hs : s.size ≤ 1073741824) :
    Iter Tryd.prog 33 #[.pointer (some ⟨Bx, 0, none⟩)] encA (RecStep w0 R) (RecKeep w0 R Bx)
      (fun pre x _ => pre.length < 30 ∧ ∃ t, Rec s (pre ++ [x]) t) (RecEnd R s) (fun _ _ => True) (RecAt w0 R Bx s s.size) := by
  intro l J Jx W hJ hJx h0 hY hJ0
  have HS := Lib.hid hs
  clear hs
  have hmm : ∀ w, (Instr.makeMap 63 none).run Tryd.prog w = .ok (.map (some w.heap.size)) (w.alloc (.map #[] 0)) := fun w => run_makeMap _ _
  refine (callsIn_wide (n := 0)).1 ?_
  refine callsIn_of_wp Tryd.func33 rfl trivial ?_ rfl
  simp only [Tryd.ntmps33, List.size_toArray, List.length_cons, List.length_nil, Nat.reduceAdd, Nat.reduceSub, Array.replicate_succ, Array.replicate_zero, List.push_toArray, List.append_toArray, List.nil_append, List.cons_append]
  refine wpIn_scope_wide ?_
  gi_wp2
  refine wpIn_label ?_
  gi_wp2
  obtain ⟨q1, q2, q3, q4⟩ := h0
  have hBxl := World.block_lt_of_cell? W _ q1
  have hRl := lt_of_heap q2
  simp only [] at hBxl
  have hMw := q3.size
  obtain ⟨M, hM⟩ : ∃ M, W.heap.size = M := ⟨_, rfl⟩
  obtain ⟨W0, hW0⟩ : ∃ W0, (W.alloc (.map #[] 0)).alloc (.cells #[.map (some W.heap.size), .int .i32 0] 69) = W0 := ⟨_, rfl⟩
  have hB0 : Below W.heap.size W W0 := by rw [← hW0]; exact ((Below.refl _ W).alloc (Nat.le_refl _) _).alloc (by simp) _
  have hz0 : W0.heap.size = M + 2 := by rw [← hW0, ← hM]; simp
  have k2 : W0.heap[M]? = some (.map #[] 0) := by rw [← hW0, ← hM]; exact heap_al (World.alloc_heap_new _ _) _
  have k3 : W0.heap[M + 1]? = some (.cells #[.map (some M), .int .i32 0] 69) := by
    rw [← hW0, ← hM]; simpa using World.alloc_heap_new (W.alloc (.map #[] 0)) (.cells #[.map (some W.heap.size), .int .i32 0] 69)
  have hM0 : MetK (M + 1) M [] W0 := by
    refine ⟨⟨#[], 0, ?_, ?_, ?_, k2, ⟨rfl, by simp⟩, by omega⟩, ?_⟩
    · simp [World.cell?, k3]
    · simp [World.cell?, k3]
    · simp [World.frozen?, k3]
    · simp [World.shape?, k3]
  rw [hW0]
  try rw [hM]
  have hJ1 : J [] W0 := hJ _ _ _ hJ0 (.of_below hB0)
  clear hW0
  gi_loopw [] (fun wr => ∃ (pre : List S31) (t : ByteArray), Rec s pre t ∧ RdAt R t s.size .nilIface wr ∧ wr.cell? ⟨Bx, 0, none⟩ = some (.pointer (some ⟨R, 0, none⟩)) ∧ MetK (M + 1) M (pre.map (·.f0)) wr ∧ Below w0.heap.size w0 wr ∧ J pre wr) (fun wr => restSizeR R wr)
  case atStart => exact ⟨[], s, .nil s, q2.below hB0, celB hB0 q1, hM0, q3.trans (hB0.mono q3.size), hJ1⟩
  case round =>
    obtain ⟨pre, t, hE, hR, hBx, hMet, hG, hJs⟩ := hrel
    have hsz := hE.size
    have c0 := hR.c0
    have c1 := hR.c1
    have ht : t.size ≤ 1073741824 := by have := HS.out; omega
    by_cases ht0 : t.size = 0
    · have hte : t.toList.isEmpty = true := by rw [(nil_iff t).2 ht0]; rfl
      have HT0 := Lib.hid ht0
      clear ht0
      gi_wp2
      simp only [Exit.noGoto]
      go_end0
      exact ⟨⟨_, rfl⟩, .inl ⟨pre, ⟨t, hE, .inl ⟨HT0.out, t, hR⟩⟩, hJs⟩⟩
    · have hte : t.toList.isEmpty = false := by
        rw [Bool.eq_false_iff]; intro e; exact ht0 ((nil_iff t).1 (List.isEmpty_iff.1 e))
      have HT0 := Lib.hid ht0
      have HT := Lib.hid ht
      clear ht0 ht
      have hsb : s.size ≤ 1073741824 := HS.out
      have hat : ((s.size : Int) - (t.size : Int)) = ((s.size - t.size : Nat) : Int) := by omega
      obtain ⟨at_, hat2⟩ : ∃ at_, s.size - t.size = at_ := ⟨_, rfl⟩
      rw [hat2] at hat
      gi_wp2
      gi_region
      obtain ⟨W1, hW1⟩ : ∃ W1, wr.drew = W1 := ⟨_, rfl⟩
      have hR1 : RdAt R t s.size .nilIface W1 := by rw [← hW1]; exact hR
      have hBx1 : W1.cell? ⟨Bx, 0, none⟩ = some (.pointer (some ⟨R, 0, none⟩)) := by rw [← hW1]; exact hBx
      have hMet1 : MetK (M + 1) M (pre.map (·.f0)) W1 := by rw [← hW1]; exact hMet
      have hG1 : Below w0.heap.size w0 W1 := by rw [← hW1]; exact below_dr hG
      have hS1 : RecStep w0 R wr W1 := by rw [← hW1]; exact (RecStep.of_below (Below.refl _ wr)).drew
      have HF := Lib.hid (first R t s.size .nilIface W1 (hG0.below hG1) hR1 HT.out)
      try rw [hW1]
      clear hW1
      gi_wp2_with fail
      refine ⟨trivial, rfl, callsIn_wide.2 (HF.out.mono ?_)⟩
      rintro e W2 ⟨hg, hh⟩
      have hS2 := hS1.trans (.of_grown hg hR0)
      have hlM := lt_of_heap hR1
      obtain ⟨es, ek, a1, a2, a3, a4, a5, a6⟩ := id hMet1.1
      have hz1 : M < W1.heap.size := lt_of_heap a4
      have hz1' : M + 1 < W1.heap.size := World.block_lt_of_cell? W1 _ a1
      have hMet2 : MetK (M + 1) M (pre.map (·.f0)) W2 := ⟨hMet1.1.same (hg.block _ hz1' (by intro e; injection e; omega)) (hg.block _ hz1 (by intro e; injection e; omega)), by rw [← hMet1.2]; unfold World.shape?; rw [hg.block _ hz1' (by intro e; injection e; omega)]⟩
      have hBx2 : W2.cell? ⟨Bx, 0, none⟩ = some (.pointer (some ⟨R, 0, none⟩)) := by
        rw [← hBx1]; unfold World.cell?; simp only []; rw [hg.block Bx (World.block_lt_of_cell? W1 _ hBx1) (by intro e; injection e; omega)]
      have hG2 : Below w0.heap.size w0 W2 := hG1.trans ⟨hg.os, hg.tape, hg.output, hg.size, fun i hi => hg.block i (by have := hG1.size; omega) (by intro e; injection e; omega)⟩
      have hBl2 : Bx < W2.heap.size := World.block_lt_of_cell? W2 _ hBx2
      have hRl2 : R < W2.heap.size := Nat.lt_of_lt_of_le hlM hg.size
      have hMl2 : M + 1 < W2.heap.size := Nat.lt_of_lt_of_le hz1' hg.size
      clear HF
      rcases hh with ⟨hf, rfl, hR2⟩ | ⟨n, v, k, hf, rfl, hR2⟩
      · have c2 := hR2.c2
        have f2 := hR2.f 2
        have HFF := Lib.hid hf
        clear hf
        have hx2 := celB (below_one W2 (.cells #[.string ⟨#[]⟩, .string ⟨#[]⟩] 31)) c2
        gi_wp2
        refine ⟨trivial, ?_⟩
        gi_wp2
        simp only [Exit.noGoto]
        go_end0
        have hA2 := below_al (below_one (W2.setCell ⟨R, 2, none⟩ (wrongV at_)) (.cells #[.string ⟨#[]⟩, .string ⟨#[]⟩] 31)) (.cells #[.string ⟨#[]⟩, .string ⟨#[]⟩] 31)
        have hR3 := (hR2.fail (wrongV at_)).below hA2
        have hS3 := (hS2.trans (.of_grown (Lib.grownBy_setB (grown_refl W2 (some R)) 2 (wrongV at_)) hR0)).trans (.of_below hA2)
        exact ⟨⟨_, rfl⟩, .inl ⟨pre, ⟨t, hE, .inr ⟨⟨HT0.out, .inl HFF.out⟩, t, by rw [hat]; exact hR3⟩⟩, hJ _ _ _ hJs hS3⟩⟩
      · have hfs := firstS_some hf
        have hn0 := (isOneB_bd hfs.1).1
        have hne1 : n.toList.isEmpty = false := by
          rw [Bool.eq_false_iff]; intro e; exact hn0 ((nil_iff n).1 (List.isEmpty_iff.1 e))
        have hne2 : (n.toList == (⟨#[]⟩ : ByteArray).toList) = false := by
          rw [beq_eq_false_iff_ne]; intro e; exact hn0 ((nil_iff n).1 (by rw [e]; exact (nil_iff _).2 rfl))
        have hA2 := below_al (below_one W2 (.cells #[.string n, .string v] 31)) (.cells #[.string ⟨#[]⟩, .string ⟨#[]⟩] 31)
        obtain ⟨W3, hW3⟩ : ∃ W3, (W2.alloc (.cells #[.string n, .string v] 31)).alloc (.cells #[.string ⟨#[]⟩, .string ⟨#[]⟩] 31) = W3 := ⟨_, rfl⟩
        rw [hW3] at hA2
        have hx3 : W3.heap[W2.heap.size]? = some (.cells #[.string n, .string v] 31) := by rw [← hW3]; exact heap_al (World.alloc_heap_new _ _) _
        have hy3 : W3.heap[W2.heap.size + 1]? = some (.cells #[.string ⟨#[]⟩, .string ⟨#[]⟩] 31) := by rw [← hW3]; simpa using World.alloc_heap_new (W2.alloc (.cells #[.string n, .string v] 31)) (.cells #[.string ⟨#[]⟩, .string ⟨#[]⟩] 31)
        have hsame := two_same hy3
        obtain ⟨x0, x1, x2⟩ := two_cells hx3
        obtain ⟨y0, y1, y2⟩ := two_cells hy3
        have hMet3 := hMet2.below hA2
        have hR3 := hR2.below hA2
        have hBx3 := celB hA2 hBx2
        have hG3 : Below w0.heap.size w0 W3 := hG2.trans (hA2.mono hG2.size)
        have hS3 := hS2.trans (.of_below hA2)
        have hz3 : W2.heap.size + 2 = W3.heap.size := by rw [← hW3]; simp
        have hI := isNew (M + 1) M (pre.map (·.f0)) n W3 hMet3.1 (by rw [List.length_map]; omega)
        obtain ⟨bb, hbb⟩ : ∃ bb, (decide ((pre.map (·.f0)).length + 1 ≤ 30) && decide (n ∉ pre.map (·.f0))) = bb := ⟨_, rfl⟩
        rw [hbb] at hI
        have HBB := Lib.hid hbb
        have HI := Lib.hid hI
        have HF := Lib.hid hf
        have HFS := Lib.hid hfs
        clear hI hbb hf hfs hn0
        gi_wp2_with fail
        refine ⟨trivial, rfl, callsIn_wide.2 (HI.out.mono ?_)⟩
        rintro _ W4 ⟨rfl, htw, hmt, hsh⟩
        have hx4 := (htw.2.2.2.2 W2.heap.size (by omega) (by omega) (by omega)).trans hx3
        obtain ⟨u0, u1, u2⟩ := two_cells hx4
        have hR4 : RdAt R (t.extract k t.size) s.size .nilIface W4 := hR3.same (htw.2.2.2.2 R (by omega) (by omega) (by omega))
        have hBx4 : W4.cell? ⟨Bx, 0, none⟩ = some (.pointer (some ⟨R, 0, none⟩)) := by
          rw [← hBx3]; unfold World.cell?; simp only []; rw [htw.2.2.2.2 Bx (by omega) (by omega) (by omega)]
        have hG4 : Below w0.heap.size w0 W4 := htw.below hG3 (by omega) (by omega) (by omega)
        have hS4 := hS3.trans (.of_two htw hMet3 (by omega) (by omega))
        have hRl4 : R < W4.heap.size := lt_of_heap hR4
        cases bb with
        | false =>
          have c2 := hR4.c2
          have f2 := hR4.f 2
          gi_wp2
          simp only [Exit.noGoto]
          go_end0
          have hS5 := hS4.trans (.of_grown (Lib.grownBy_setB (grown_refl W4 (some R)) 2 (wrongV at_)) hR0)
          refine ⟨⟨_, rfl⟩, .inl ⟨pre, ⟨t, hE, .inr ⟨⟨HT0.out, .inr ⟨n, v, k, HF.out, ?_⟩⟩, _, by rw [hat]; exact hR4.fail (wrongV at_)⟩⟩, hJ _ _ _ hJs hS5⟩⟩
          have hbt := HBB.out
          intro hc
          rw [decide_eq_true (by rw [List.length_map]; exact hc.1), decide_eq_true hc.2] at hbt
          cases hbt
        | true =>
          have hbt := HBB.out
          rw [Bool.and_eq_true, decide_eq_true_iff, decide_eq_true_iff, List.length_map] at hbt
          have hMet4 : MetK (M + 1) M ((pre ++ [(⟨n, v⟩ : S31)]).map (fun x : S31 => x.f0)) W4 := by
            rw [List.map_append]; exact ⟨hmt hbt.2, by rw [hsh]; exact hMet3.2⟩
          have hE4 : Rec s (pre ++ [⟨n, v⟩]) (t.extract k t.size) := .snoc hE HT0.out HF.out hbt
          have hJ4 := hJ _ _ _ hJs hS4
          obtain ⟨fn, tmps, assign, body, hy, hRd⟩ := hY pre ⟨n, v⟩ W4 hJ4 ⟨by omega, _, hE4⟩
          simp only [encA] at hy hRd
          have HRd := Lib.hid hRd
          clear hRd hbt hmt
          gi_wp2_with fail
          refine ⟨rfl, HRd.out.mono ?_⟩
          intro e W5 hh
          obtain ⟨bb, rfl, hh'⟩ := both hh
          clear hh
          obtain ⟨hA, hBx', hk⟩ := hh'.out
          cases bb with
          | false =>
            have hB5 := Lib.hid (hBx' rfl)
            clear hA hBx' hh'
            gi_wp2
            simp only [Exit.noGoto]
            go_end0
            exact ⟨⟨_, rfl⟩, .inr ⟨_, trivial, hB5.out⟩⟩
          | true =>
            have hJ5 := Lib.hid (hA rfl)
            clear hA hBx' hh'
            gi_wp2
            go_roundw
            case rel => exact ⟨_, _, hE4, hR4.same hk.1, by rw [← hBx4]; unfold World.cell?; simp only []; rw [hk.2.1], hMet4.keep hk, hk.2.2.2.2 hG4, hJ5.out⟩
            case measure =>
              rw [(hR4.same hk.1).restSize, hR.restSize]
              simp only [ByteArray.size_extract]
              have := HFS.out
              have := HT0.out
              omega
end Go.Proofs.YtbcjhmeeonhmaaaDoor.H
end

/-
What reflectlite answers where errors.As is asked for an error of no record.
-/
section
set_option linter.unusedVariables false
set_option maxRecDepth 100000
namespace Go.Proofs.YtbcjhmeeonhmaaaDoor.H
open Go Go.RowKit Go.Extern

/-! What reflectlite answers at these two types. -/
theorem as_unpackP (b : Addr) (w : World) : (ReflectliteValue.unpack (.iface 78 (.pointer (some b)))).run Tryd.prog w = .ok (.agg #[.pointer (some ⟨4, 78, none⟩), .pointer (some ⟨w.heap.size, 0, none⟩), .int .u64 150]) (w.alloc (.cells #[.pointer (some b)] 78)) := by kernel_rfl
theorem as_unpackE (n : Int) (w : World) : (ReflectliteValue.unpack (.iface 76 (.agg #[.int .i64 n]))).run Tryd.prog w = .ok (.agg #[.pointer (some ⟨4, 76, none⟩), .pointer (some ⟨w.heap.size, 0, none⟩), .int .u64 153]) (w.alloc (.cells #[.int .i64 n] 76)) := by kernel_rfl
def asVF : Array Value → Sem Value := fun args => ReflectliteValue.unpack (args.getD 0 (.tuple #[]))
theorem as_vP (b : Addr) (w : World) : (asVF #[.iface 78 (.pointer (some b))]).run Tryd.prog w = .ok (.agg #[.pointer (some ⟨4, 78, none⟩), .pointer (some ⟨w.heap.size, 0, none⟩), .int .u64 150]) (w.alloc (.cells #[.pointer (some b)] 78)) := as_unpackP b w
theorem as_vE (n : Int) (w : World) : (asVF #[.iface 76 (.agg #[.int .i64 n])]).run Tryd.prog w = .ok (.agg #[.pointer (some ⟨4, 76, none⟩), .pointer (some ⟨w.heap.size, 0, none⟩), .int .u64 153]) (w.alloc (.cells #[.int .i64 n] 76)) := as_unpackE n w
def asTyF : Array Value → Sem Value := ReflectliteValue.methodAny (ReflectliteValue.valueError "reflectlite.Value.Type" 0) fun t _ _ _ => ReflectliteType.toType t
theorem as_ty (p : Addr) (w : World) : (asTyF #[.agg #[.pointer (some ⟨4, 78, none⟩), .pointer (some p), .int .u64 150]]).run Tryd.prog w = .ok (.iface 124 (.agg #[.pointer (some ⟨4, 78, none⟩)])) w := by kernel_rfl
def asImF : Array Value → Sem Value := ReflectliteType.relation "Implements" ReflectliteType.implements_
theorem as_im (w : World) : (asImF #[.agg #[.pointer (some ⟨4, 76, none⟩)], .iface 124 (.agg #[.pointer (some ⟨4, 45, none⟩)])]).run Tryd.prog w = .ok (.bool true) w := by kernel_rfl
def asAsF : Array Value → Sem Value := ReflectliteType.relation "AssignableTo" ReflectliteType.assignableTo
theorem as_as (w : World) : (asAsF #[.agg #[.pointer (some ⟨4, 76, none⟩)], .iface 124 (.agg #[.pointer (some ⟨4, 76, none⟩)])]).run Tryd.prog w = .ok (.bool true) w := by kernel_rfl
def asElF : Array Value → Sem Value := ReflectliteType.method ReflectliteType.elem
theorem as_el (w : World) : (asElF #[.agg #[.pointer (some ⟨4, 78, none⟩)]]).run Tryd.prog w = .ok (.iface 124 (.agg #[.pointer (some ⟨4, 76, none⟩)])) w := by kernel_rfl
def asKiF : Array Value → Sem Value := ReflectliteType.abiMethod fun t => do pure (.int .u8 (← Rtype.kind t))
theorem as_kiP (w : World) : (asKiF #[.pointer (some ⟨4, 78, none⟩)]).run Tryd.prog w = .ok (.int .u8 22) w := by kernel_rfl
theorem as_kiE (w : World) : (asKiF #[.pointer (some ⟨4, 76, none⟩)]).run Tryd.prog w = .ok (.int .u8 25) w := by kernel_rfl
theorem as_mKind (h : Addr) (w : World) : (Go.method 311 124 (.agg #[.pointer (some h)]) "Kind").run Tryd.prog w = .ok (109, .pointer (some h)) w := by kernel_rfl
theorem as_mElem (v : Value) (w : World) : (Go.method 311 124 v "Elem").run Tryd.prog w = .ok (121, v) w := by kernel_rfl
theorem as_mImpl (v : Value) (w : World) : (Go.method 311 124 v "Implements").run Tryd.prog w = .ok (122, v) w := by kernel_rfl
theorem as_mAss (v : Value) (w : World) : (Go.method 311 124 v "AssignableTo").run Tryd.prog w = .ok (119, v) w := by kernel_rfl
theorem as_typeOf (v : Value) (w : World) : (ReflectliteType.typeOf #[.iface 76 v]).run Tryd.prog w = .ok (.iface 124 (.agg #[.pointer (some ⟨4, 76, none⟩)])) w := by kernel_rfl
def asNilF : Array Value → Sem Value := ReflectliteValue.method (ReflectliteValue.valueError "reflectlite.Value.IsNil" 0) ReflectliteValue.isNil
def asEF : Array Value → Sem Value := ReflectliteValue.method (ReflectliteValue.valueError "reflectlite.Value.Elem" 0) ReflectliteValue.elem
theorem as_partsP (p : Addr) (w : World) : (ReflectliteValue.parts (.agg #[.pointer (some ⟨4, 78, none⟩), .pointer (some p), .int .u64 150])).run Tryd.prog w = .ok (some (78, p, 150)) w := by kernel_rfl
theorem as_partsE (p : Addr) (w : World) : (ReflectliteValue.parts (.agg #[.pointer (some ⟨4, 76, none⟩), .pointer (some p), .int .u64 153])).run Tryd.prog w = .ok (some (76, p, 153)) w := by kernel_rfl
theorem as_partsD (p : Addr) (w : World) : (ReflectliteValue.parts (.agg #[.pointer (some ⟨4, 76, none⟩), .pointer (some p), .int .u64 409])).run Tryd.prog w = .ok (some (76, p, 409)) w := by kernel_rfl
theorem as_aggP (w : World) : (isAgg 78).run Tryd.prog w = .ok false w := by kernel_rfl
theorem as_aggE (w : World) : (isAgg 76).run Tryd.prog w = .ok true w := by kernel_rfl
theorem as_szE (w : World) : (sizeOf 76).run Tryd.prog w = .ok 1 w := by kernel_rfl
theorem as_load (a : Addr) (v : Value) (w : World) (hc : w.cell? a = some v) : (loadVar 78 a).run Tryd.prog w = .ok v w := by
  simp [loadVar, as_aggP, Result.andThen, hc]
theorem as_isNil (a b : Addr) (w : World) (hc : w.cell? a = some (.pointer (some b))) : (asNilF #[.agg #[.pointer (some ⟨4, 78, none⟩), .pointer (some a), .int .u64 150]]).run Tryd.prog w = .ok (.bool false) w := by
  change Sem.run Tryd.prog (do
    match ← ReflectliteValue.parts (.agg #[.pointer (some ⟨4, 78, none⟩), .pointer (some a), .int .u64 150]) with
    | none => ReflectliteValue.valueError "reflectlite.Value.IsNil" 0
    | some (t, a, fl) => ReflectliteValue.isNil t a fl (fl % 32)) w = _
  rw [Sem.run_bind, as_partsP]
  change Sem.run Tryd.prog (ReflectliteValue.isNil 78 a 150 22) w = _
  change Sem.run Tryd.prog (do
    match ← loadVar 78 a with
    | .chan none | .nilFunc | .nilIface | .map none | .pointer none | .slice none _ _ => (pure (Value.bool true) : Sem Value)
    | _ => (pure (Value.bool false) : Sem Value)) w = _
  rw [Sem.run_bind, as_load a _ w hc]
  rfl
theorem as_elemT (w : World) : (Rtype.elem? 78).run Tryd.prog w = .ok (some 76) w := by kernel_rfl
theorem as_mk (b : Addr) (w : World) : (ReflectliteValue.mk 76 b ReflectliteValue.flagAddr).run Tryd.prog w = .ok (.agg #[.pointer (some ⟨4, 76, none⟩), .pointer (some b), .int .u64 409]) w := by kernel_rfl
theorem as_vElem (a b : Addr) (w : World) (hc : w.cell? a = some (.pointer (some b))) : (asEF #[.agg #[.pointer (some ⟨4, 78, none⟩), .pointer (some a), .int .u64 150]]).run Tryd.prog w = .ok (.agg #[.pointer (some ⟨4, 76, none⟩), .pointer (some b), .int .u64 409]) w := by
  change Sem.run Tryd.prog (do
    match ← ReflectliteValue.parts (.agg #[.pointer (some ⟨4, 78, none⟩), .pointer (some a), .int .u64 150]) with
    | none => ReflectliteValue.valueError "reflectlite.Value.Elem" 0
    | some (t, a, fl) => ReflectliteValue.elem t a fl (fl % 32)) w = _
  rw [Sem.run_bind, as_partsP]
  change Sem.run Tryd.prog (ReflectliteValue.elem 78 a 150 22) w = _
  change Sem.run Tryd.prog (do
    let x ← loadVar 78 a
    let y ← Rtype.elem? 78
    match (22 : Nat), x, y with
    | 20, i, _ => ReflectliteValue.unpack i
    | 22, .pointer none, _ => pure ReflectliteValue.zeroV
    | 22, .pointer (some p), some e => ReflectliteValue.mk e p ReflectliteValue.flagAddr
    | _, _, _ => ReflectliteValue.valueError "reflectlite.Value.Elem" 22) w = _
  rw [Sem.run_bind, as_load a _ w hc]
  change Sem.run Tryd.prog (do
    let y ← Rtype.elem? 78
    match (22 : Nat), Value.pointer (some b), y with
    | 20, i, _ => ReflectliteValue.unpack i
    | 22, .pointer none, _ => pure ReflectliteValue.zeroV
    | 22, .pointer (some p), some e => ReflectliteValue.mk e p ReflectliteValue.flagAddr
    | _, _, _ => ReflectliteValue.valueError "reflectlite.Value.Elem" 22) w = _
  rw [Sem.run_bind, as_elemT]
  exact as_mk b w
theorem as_dir (w : World) : (Rtype.directlyAssignable 76 76).run Tryd.prog w = .ok true w := by kernel_rfl
theorem as_loadE (a : Nat) (v : Value) (w : World) (hc : w.cell? ⟨a, 0, none⟩ = some v) : (loadVar 76 ⟨a, 0, none⟩).run Tryd.prog w = .ok (.agg #[v]) w := by
  have h0 : ((⟨a, 0, none⟩ : Addr).add 0) = ⟨a, 0, none⟩ := rfl
  simp [loadVar, as_aggE, as_szE, Result.andThen, loadCells, loadCellsFrom, h0, hc]
theorem as_storeE (a : Nat) (n : Int) (v : Value) (w : World) (hc : w.cell? ⟨a, 0, none⟩ = some v) (hf : w.frozen? ⟨a, 0, none⟩ = false) : (storeVar 76 ⟨a, 0, none⟩ (.agg #[.int .i64 n])).run Tryd.prog w = .ok () (w.setCell ⟨a, 0, none⟩ (.int .i64 n)) := by
  have h0 : ((⟨a, 0, none⟩ : Addr).add 0) = ⟨a, 0, none⟩ := rfl
  have hst := run_store Tryd.prog w ⟨a, 0, none⟩ (.int .i64 n) .plain rfl
  simp [storeVar, as_szE, Result.andThen, storeCells, Value.cells, h0]
  rw [hst]
  simp [hc, hf]
theorem as_set (p q : Nat) (n : Int) (v : Value) (w : World) (hp : w.cell? ⟨p, 0, none⟩ = some v) (hf : w.frozen? ⟨p, 0, none⟩ = false) (hq : w.cell? ⟨q, 0, none⟩ = some (.int .i64 n)) :
    (ReflectliteValue.set #[.agg #[.pointer (some ⟨4, 76, none⟩), .pointer (some ⟨p, 0, none⟩), .int .u64 409], .agg #[.pointer (some ⟨4, 76, none⟩), .pointer (some ⟨q, 0, none⟩), .int .u64 153]]).run Tryd.prog w = .ok (.tuple #[]) (w.setCell ⟨p, 0, none⟩ (.int .i64 n)) := by
  change Sem.run Tryd.prog (do
    let (some (dst, a, fl), some (src, b, _)) := (← ReflectliteValue.parts (.agg #[.pointer (some ⟨4, 76, none⟩), .pointer (some ⟨p, 0, none⟩), .int .u64 409]), ← ReflectliteValue.parts (.agg #[.pointer (some ⟨4, 76, none⟩), .pointer (some ⟨q, 0, none⟩), .int .u64 153]))
      | unsupported (.noEntry "extern/(internal/reflectlite.Value).Set.zeroValue")
    if fl / ReflectliteValue.flagAddr % 2 == 0 then unsupported (.noEntry "extern/(internal/reflectlite.Value).Set.unaddressable")
    let val ← loadVar src b
    if ← Rtype.directlyAssignable dst src then storeVar dst a val
    else if ← Rtype.implements dst src then
      if (← Rtype.kind src) == 20 then
        match val with
        | .nilIface => unsupported (.noEntry "extern/reflectlite: a nil value of one interface type handed on as a value of another")
        | _ => storeVar dst a val
      else storeVar dst a (.iface src val)
    else panicString ("reflectlite.Set: value of type " ++ (← Rtype.spelt src) ++ " is not assignable to type " ++ (← Rtype.spelt dst))
    pure (Value.tuple #[])) w = _
  rw [Sem.run_bind, as_partsD]
  simp only [Result.andThen]
  rw [Sem.run_bind, as_partsE]
  simp only [Result.andThen]
  rw [if_neg (by decide), Sem.run_bind, as_loadE q _ w hq]
  simp only [Result.andThen]
  rw [Sem.run_bind, as_dir]
  simp only [Result.andThen]
  rw [if_pos trivial, Sem.run_bind, as_storeE p n v w hp hf]
  rfl
theorem ex_valueOf (args : Array Value) (w : World) : (callFunc 49 args).run Tryd.prog w = (((asVF) args).run Tryd.prog w).andThen fun v w' => .ok (.value v) w' := @run_callFunc_extern Tryd.prog 49 _ (asVF) Tryd.func49 (by kernel_rfl) (by kernel_rfl) (by kernel_rfl) (by kernel_rfl) args w
theorem ex_type (args : Array Value) (w : World) : (callFunc 50 args).run Tryd.prog w = (((asTyF) args).run Tryd.prog w).andThen fun v w' => .ok (.value v) w' := @run_callFunc_extern Tryd.prog 50 _ (asTyF) Tryd.func50 (by kernel_rfl) (by kernel_rfl) (by kernel_rfl) (by kernel_rfl) args w
theorem ex_isNil (args : Array Value) (w : World) : (callFunc 51 args).run Tryd.prog w = (((asNilF) args).run Tryd.prog w).andThen fun v w' => .ok (.value v) w' := @run_callFunc_extern Tryd.prog 51 _ (asNilF) Tryd.func51 (by kernel_rfl) (by kernel_rfl) (by kernel_rfl) (by kernel_rfl) args w
theorem ex_vElem (args : Array Value) (w : World) : (callFunc 64 args).run Tryd.prog w = (((asEF) args).run Tryd.prog w).andThen fun v w' => .ok (.value v) w' := @run_callFunc_extern Tryd.prog 64 _ (asEF) Tryd.func64 (by kernel_rfl) (by kernel_rfl) (by kernel_rfl) (by kernel_rfl) args w
theorem ex_set (args : Array Value) (w : World) : (callFunc 65 args).run Tryd.prog w = (((ReflectliteValue.set) args).run Tryd.prog w).andThen fun v w' => .ok (.value v) w' := @run_callFunc_extern Tryd.prog 65 _ (ReflectliteValue.set) Tryd.func65 (by kernel_rfl) (by kernel_rfl) (by kernel_rfl) (by kernel_rfl) args w
theorem ex_typeOf (args : Array Value) (w : World) : (callFunc 63 args).run Tryd.prog w = (((ReflectliteType.typeOf) args).run Tryd.prog w).andThen fun v w' => .ok (.value v) w' := @run_callFunc_extern Tryd.prog 63 _ (ReflectliteType.typeOf) Tryd.func63 (by kernel_rfl) (by kernel_rfl) (by kernel_rfl) (by kernel_rfl) args w
theorem ex_impl (args : Array Value) (w : World) : (callFunc 122 args).run Tryd.prog w = (((asImF) args).run Tryd.prog w).andThen fun v w' => .ok (.value v) w' := @run_callFunc_extern Tryd.prog 122 _ (asImF) Tryd.func122 (by kernel_rfl) (by kernel_rfl) (by kernel_rfl) (by kernel_rfl) args w
theorem ex_ass (args : Array Value) (w : World) : (callFunc 119 args).run Tryd.prog w = (((asAsF) args).run Tryd.prog w).andThen fun v w' => .ok (.value v) w' := @run_callFunc_extern Tryd.prog 119 _ (asAsF) Tryd.func119 (by kernel_rfl) (by kernel_rfl) (by kernel_rfl) (by kernel_rfl) args w
theorem ex_elem (args : Array Value) (w : World) : (callFunc 121 args).run Tryd.prog w = (((asElF) args).run Tryd.prog w).andThen fun v w' => .ok (.value v) w' := @run_callFunc_extern Tryd.prog 121 _ (asElF) Tryd.func121 (by kernel_rfl) (by kernel_rfl) (by kernel_rfl) (by kernel_rfl) args w
theorem ex_kind (args : Array Value) (w : World) : (callFunc 109 args).run Tryd.prog w = (((asKiF) args).run Tryd.prog w).andThen fun v w' => .ok (.value v) w' := @run_callFunc_extern Tryd.prog 109 _ (asKiF) Tryd.func109 (by kernel_rfl) (by kernel_rfl) (by kernel_rfl) (by kernel_rfl) args w

end Go.Proofs.YtbcjhmeeonhmaaaDoor.H
end

/-
pax.told: errors.As at an error of no record.
-/
section
set_option linter.unusedVariables false
set_option maxRecDepth 100000
namespace Go.Proofs.YtbcjhmeeonhmaaaDoor.H
open Go Go.RowKit Go.Extern

set_option maxHeartbeats 4000000 in
theorem as_ (n : Int) (b a : Nat) (w : World) (hb : w.cell? ⟨b, 0, none⟩ = some (.int .i64 0)) (hf : w.frozen? ⟨b, 0, none⟩ = false) (ha : w.cell? ⟨a, 0, none⟩ = some (.pointer (some ⟨b, 0, none⟩))) :
    Calls Tryd.prog 52 #[wrongV n, .iface 78 (.pointer (some ⟨b, 0, none⟩)), .agg #[.pointer (some ⟨4, 78, none⟩), .pointer (some ⟨a, 0, none⟩), .int .u64 150], .iface 124 (.agg #[.pointer (some ⟨4, 76, none⟩)])] w fun e w' =>
      e = .returned (.bool true) ∧ w.grownBy w' (some b) ∧ w'.cell? ⟨b, 0, none⟩ = some (.int .i64 n) := by
  have hbl := World.block_lt_of_cell? w _ hb
  have hal := World.block_lt_of_cell? w _ ha
  have e1 := ex_typeOf
  have e2 := as_typeOf
  have e3 := ex_ass
  have e4 := as_as
  have e5 := as_mAss
  have e6 := ex_vElem
  have e8 := ex_valueOf
  have e9 := as_vE
  have e10 := ex_set
  obtain ⟨W1, hW1⟩ : ∃ W1, w.alloc (.cells #[.pointer (some ⟨4, 78, none⟩), .pointer (some ⟨a, 0, none⟩), .int .u64 150] 102) = W1 := ⟨_, rfl⟩
  have hB1 : Below w.heap.size w W1 := by rw [← hW1]; exact below_one _ _
  have hc0 : W1.cell? ⟨w.heap.size, 0, none⟩ = some (.pointer (some ⟨4, 78, none⟩)) := by rw [← hW1]; exact cel_new w _ _ 0 rfl
  have hc1 : W1.cell? ⟨w.heap.size, 1, none⟩ = some (.pointer (some ⟨a, 0, none⟩)) := by rw [← hW1]; exact cel_new w _ _ 1 rfl
  have hc2 : W1.cell? ⟨w.heap.size, 2, none⟩ = some (.int .u64 150) := by rw [← hW1]; exact cel_new w _ _ 2 rfl
  have f1 := as_vElem ⟨a, 0, none⟩ ⟨b, 0, none⟩ W1 (celB hB1 ha)
  obtain ⟨W2, hW2⟩ : ∃ W2, W1.alloc (.cells #[.int .i64 n] 76) = W2 := ⟨_, rfl⟩
  have hB2 : Below w.heap.size w W2 := by rw [← hW2]; exact below_al hB1 _
  have hb2 := celB hB2 hb
  have hf2 : W2.frozen? ⟨b, 0, none⟩ = false := by rw [← hf]; unfold World.frozen?; simp only []; rw [hB2.block b hbl]
  have hq : W2.cell? ⟨W1.heap.size, 0, none⟩ = some (.int .i64 n) := by rw [← hW2]; exact cel_new W1 _ _ 0 rfl
  have f2 := as_set b W1.heap.size n _ W2 hb2 hf2 hq
  have hg : w.grownBy (W2.setCell ⟨b, 0, none⟩ (.int .i64 n)) (some b) := Lib.grownBy_setB (grown_of_below hB2 _) 0 _
  have hd : (W2.setCell ⟨b, 0, none⟩ (.int .i64 n)).cell? ⟨b, 0, none⟩ = some (.int .i64 n) := World.cell?_setCell_same' _ _ _ (by rw [hb2]; rfl)
  unfold wrongV
  go_enter Tryd.func52, Tryd.ntmps52
  go_wp2
  refine wp_loop_rounds 1 ?_
  rw [rounds_succ]
  go_wp2
  go_ret
  exact ⟨rfl, hg, hd⟩

set_option maxHeartbeats 4000000 in
theorem As_ (n : Int) (b : Nat) (w : World) (hG : GW w) (hb : w.cell? ⟨b, 0, none⟩ = some (.int .i64 0)) (hf : w.frozen? ⟨b, 0, none⟩ = false) :
    Calls Tryd.prog 35 #[wrongV n, .iface 78 (.pointer (some ⟨b, 0, none⟩))] w fun e w' =>
      e = .returned (.bool true) ∧ w.grownBy w' (some b) ∧ w'.cell? ⟨b, 0, none⟩ = some (.int .i64 n) := by
  have hbl := World.block_lt_of_cell? w _ hb
  obtain ⟨_, _, _, _, _, _, _, _, _, _, _, g6⟩ := id hG
  have e8 := ex_valueOf
  have e9 := as_vP
  have e10 := ex_type
  have e11 := as_ty
  have e12 := ex_kind
  have e13 := as_kiP
  have e14 := as_kiE
  have e15 := as_mKind
  have e16 := ex_isNil
  have e17 := ex_elem
  have e18 := as_el
  have e19 := as_mElem
  have e20 := ex_impl
  have e21 := as_im
  have e22 := as_mImpl
  obtain ⟨W1, hW1⟩ : ∃ W1, w.alloc (.cells #[.pointer (some ⟨b, 0, none⟩)] 78) = W1 := ⟨_, rfl⟩
  have hB1 : Below w.heap.size w W1 := by rw [← hW1]; exact below_one _ _
  have hz1 : W1.heap.size = w.heap.size + 1 := by rw [← hW1]; simp
  have hx1 : W1.cell? ⟨w.heap.size, 0, none⟩ = some (.pointer (some ⟨b, 0, none⟩)) := by rw [← hW1]; exact cel_new w _ _ 0 rfl
  obtain ⟨W2, hW2⟩ : ∃ W2, W1.alloc (.cells #[.pointer (some ⟨4, 78, none⟩), .pointer (some ⟨w.heap.size, 0, none⟩), .int .u64 150] 102) = W2 := ⟨_, rfl⟩
  have hB2 : Below w.heap.size w W2 := by rw [← hW2]; exact below_al hB1 _
  have hc0 : W2.cell? ⟨w.heap.size + 1, 0, none⟩ = some (.pointer (some ⟨4, 78, none⟩)) := by rw [← hW2, ← hz1]; exact cel_new W1 _ _ 0 rfl
  have hc1 : W2.cell? ⟨w.heap.size + 1, 1, none⟩ = some (.pointer (some ⟨w.heap.size, 0, none⟩)) := by rw [← hW2, ← hz1]; exact cel_new W1 _ _ 1 rfl
  have hc2 : W2.cell? ⟨w.heap.size + 1, 2, none⟩ = some (.int .u64 150) := by rw [← hW2, ← hz1]; exact cel_new W1 _ _ 2 rfl
  have hx2 : W2.cell? ⟨w.heap.size, 0, none⟩ = some (.pointer (some ⟨b, 0, none⟩)) := by rw [← hW2]; exact cel_al hx1 _
  have f1 := as_isNil ⟨w.heap.size, 0, none⟩ ⟨b, 0, none⟩ W2 hx2
  have hb2 := celB hB2 hb
  have hf2 : W2.frozen? ⟨b, 0, none⟩ = false := by rw [← hf]; unfold World.frozen?; simp only []; rw [hB2.block b hbl]
  have g62 := celB hB2 g6
  have HA := as_ n b w.heap.size W2 hb2 hf2 hx2
  unfold wrongV at HA ⊢
  have HA := Lib.hid HA
  go_enter Tryd.func35, Tryd.ntmps35
  go_wp2_with fail
  refine HA.out.mono ?_
  rintro e W3 ⟨rfl, hg3, hd3⟩
  go_wp2
  go_ret
  exact ⟨rfl, ⟨hg3.os.trans hB2.os, hg3.tape.trans hB2.tape, hg3.output.trans hB2.output, Nat.le_trans hB2.size hg3.size, fun i hi hr => (hg3.block i (Nat.lt_of_lt_of_le hi hB2.size) hr).trans (hB2.block i hi)⟩, hd3⟩

set_option maxHeartbeats 4000000 in
theorem pax_told (n : Int) (w : World) (hG : GW w) :
    Calls Tryd.prog 23 #[wrongV n] w fun e w' => e = .returned (.tuple #[.int .i64 n, .int .i64 90]) ∧ Below w.heap.size w w' := by
  have hA := As_ n w.heap.size (w.alloc (.cells #[.int .i64 0] 76)) (hG.below (below_one _ _)) (cel_new w _ _ 0 rfl) (by unfold World.frozen?; simp only []; rw [World.alloc_heap_new]; rfl)
  have HA := Lib.hid hA
  clear hA
  go_enter Tryd.func23, Tryd.ntmps23
  go_wp2_with fail
  refine HA.out.mono ?_
  rintro e W1 ⟨rfl, hg, hd⟩
  go_wp2
  exact bodyPost_ret (v := .tuple #[.int .i64 n, .int .i64 90]) (by simp [results, Tryd.results23, go_sem]) rfl ⟨rfl, (below_one w (.cells #[.int .i64 0] 76)).trans ⟨hg.os, hg.tape, hg.output, hg.size, fun i hi => hg.block i (by simp; omega) (by intro e; injection e; omega)⟩⟩
end Go.Proofs.YtbcjhmeeonhmaaaDoor.H
end

/-
A range over a function, where the round's variable has a block of its own (it is captured, or its address is taken): one law for the caller, out of the iterator's contract. Over any program. By this session.
-/
section
set_option linter.unusedVariables false
namespace Go.Proofs.YtbcjhmeeonhmaaaDoor.H
open Go Go.RowKit

theorem wp_rangeFunc_iterA {P : Program} {α : Type} {g : Operand} {ps : Array Tmp} {assign body : Code} {Q : Exit → Act → World → Prop} {a : Act} {w : World}
    {gf : Nat} {lb : Array Value} (hg : a.eval g = .func (.func gf) #[] lb) (eg : ∀ args w, (callFunc gf args).run P w = .ok (.enter gf args) w)
    {encs : α → Array Value} {St Kp : World → World → Prop} {Yp : List α → α → World → Prop} {S Sp : List α → World → Prop} {P0 : World → Prop} (hseq : Iter P gf lb encs St Kp Yp S Sp P0)
    (hSt : ∀ A B, St A B → ∀ k o, w.heap.size ≤ k → A.heap[k]? = some o → o.isCells = false → o.isWalk = false → B.heap[k]? = some o) (hP0 : ∀ W, Below w.heap.size w W → P0 W)
    (hKt : ∀ {A B C : World}, Kp A B → Kp B C → Kp A C) (hKa : ∀ (W : World) (o : Obj), w.heap.size ≤ W.heap.size → Kp W (W.alloc o)) (hKb : ∀ (W : World) (l : Nat) (o o' : Obj), w.heap.size ≤ l → W.heap[l]? = some o → o.isCells = false → o.isWalk = false → Kp W (W.putObj l o')) (hps : ∀ x, (encs x).size = ps.size)
    (I : List α → World → Prop) (Ix : Code → List α → World → Prop) (hI : OwnFrom w.heap.size I) (hIx : ∀ c, OwnFrom w.heap.size (Ix c))
    (hIs : ∀ s A B, I s A → St A B → I s B) (hIxs : ∀ c s A B, Ix c s A → St A B → Ix c s B)
    (hY : ∀ x, OwnFrom w.heap.size (fun pre W => Yp pre x W)) (hS : OwnFrom w.heap.size S) (hSp : OwnFrom w.heap.size Sp) (h0 : I [] w) (a₁ : α → Nat → Act) (ob : α → Obj) (hob : ∀ x, (ob x).isCells = true)
    (hassign : ∀ (l : Nat) (x : α) (W : World) (K : Act → World → Prop), K (a₁ x W.heap.size) (W.alloc (ob x)) →
      assign.wpIn (Fence.wide.inRound l) 0 P (Exit.then K (fun _ _ _ => False)) { tmps := (ps.zip (encs x)).foldl (fun t (p, v) => t.setIfInBounds p v) a.tmps, defers := [] } W)
    (hbody : ∀ (l : Nat) (pre : List α) (x : α) (W : World) (b : Nat), w.heap.size ≤ b → W.heap[b]? = some (ob x) → I pre W → Yp pre x W → body.wpIn (Fence.wide.inRound l) 0 P (iterPost w.heap.size Kp I Ix (pre ++ [x]) W) (a₁ x b) W)
    (hdone : ∀ (D : Nat) (xs : List α) (W : World), w.heap.size ≤ D → S xs W → I xs W → W.heap[D]? = some (.deferred (some [])) → Q .normal { a with defers := { target := .collected D, args := #[] } :: a.defers } W)
    (hstop : ∀ (D : Nat) (c : Code) (pre : List α) (W : World), w.heap.size ≤ D → Sp pre W → Ix c pre W → W.heap[D]? = some (.deferred (some [])) → c.wpIn Fence.wide 0 P Q { a with defers := { target := .collected D, args := #[] } :: a.defers } W) :
    (Code.rangeFunc g ps assign body).wpIn Fence.wide 0 P Q a w := by
  refine wpIn_rangeFunc ?_
  intro fn hfn
  rw [Fence.wide_round]
  obtain ⟨rec, hrec⟩ : ∃ rec : LoopState → Option Code → Loop, rec = fun st pe => { state := st, pending := pe, fn, tmps := a.tmps, params := ps, assign, body, defers := w.heap.size } := ⟨_, rfl⟩
  obtain ⟨W1, hW1⟩ : ∃ W1, (w.alloc (.deferred (some []))).alloc (.loop (rec .ready none)) = W1 := ⟨_, rfl⟩
  have hL1 : W1.heap[w.heap.size + 1]? = some (.loop (rec .ready none)) := by
    rw [← hW1]; have := World.alloc_heap_new (w.alloc (.deferred (some []))) (.loop (rec .ready none)); rwa [World.size_alloc] at this
  have hK1 : W1.heap[w.heap.size]? = some (.deferred (some [])) := by
    rw [← hW1]; exact (Below.heap_alloc _ _ _ (by simp)).trans (World.alloc_heap_new w _)
  have own_al : ∀ {β : Type} {I : β → World → Prop} (_ : OwnFrom w.heap.size I) {s : β} {W : World} (o : Obj), I s W → I s (W.alloc o) := fun h s W o hs => h _ _ _ none hs (World.grownBy_alloc W o none) (fun r e => by cases e)
  have own_put : ∀ {β : Type} {I : β → World → Prop} (_ : OwnFrom w.heap.size I) {s : β} {W : World} {l : Nat} {o : Obj} (o' : Obj), I s W → w.heap.size ≤ l → W.heap[l]? = some o → o.isCells = false → I s (W.putObj l o') :=
    fun h s W l o o' hs hl ho hc => h _ _ _ (some l) hs (grownBy_putObj' W l o') (fun r e => by cases e; exact ⟨hl, o, ho, hc⟩)
  have hI1 : I [] W1 := by rw [← hW1]; exact own_al hI _ (own_al hI _ h0)
  have hb1 : Below w.heap.size w W1 := by
    rw [← hW1]; exact ((Below.refl _ w).alloc (Nat.le_refl _) _).alloc (by simp) _
  refine ⟨w.heap.size + 1, [{ target := .collected w.heap.size, args := #[] }], W1, { target := .fn (.func gf) lb, args := #[.func (.yield (w.heap.size + 1)) #[] #[]] }, W1, gf,
    #[.func (.yield (w.heap.size + 1)) #[] #[]] ++ lb, W1, ?_, ?_, ?_, ?_, (fun h => by cases h), ?_⟩
  · rw [← hW1, hrec]; exact run_enterLoop_outer _ _ _ _ _
  · simp only [resolve, hg]
    simp [go_sem]
  · intro f' hf'; trivial
  · simp [invoke, go_sem, eg]
  · refine callsIn_wide.2 ?_
    refine (hseq (w.heap.size + 1)
      (fun pre W => I pre W ∧ W.heap[w.heap.size + 1]? = some (.loop (rec .ready none)) ∧ W.heap[w.heap.size]? = some (.deferred (some [])))
      (fun pre W => ∃ c, Ix c pre W ∧ W.heap[w.heap.size + 1]? = some (.loop (rec .done (some c))) ∧ W.heap[w.heap.size]? = some (.deferred (some [])))
      W1
      (fun s A B hs hst => ⟨hIs s A B hs.1 hst, hSt A B hst _ _ (by omega) hs.2.1 rfl rfl, hSt A B hst _ _ (Nat.le_refl _) hs.2.2 rfl rfl⟩)
      (fun s A B hs hst => by
        obtain ⟨c, hc, hl, hk⟩ := hs
        exact ⟨c, hIxs c s A B hc hst, hSt A B hst _ _ (by omega) hl rfl rfl, hSt A B hst _ _ (Nat.le_refl _) hk rfl rfl⟩)
      (hP0 W1 hb1) ?_ ⟨hI1, hL1, hK1⟩).mono ?_
    · -- ONE ROUND
      rintro pre x W ⟨hi, hl, hk⟩ hyp
      have hlt0 : w.heap.size + 1 < W.heap.size := (Array.getElem?_eq_some_iff.1 hl).1
      have hy := run_yield (P := P) (args := encs x) hl (by rw [hrec]; exact hps x)
      rw [hrec] at hy
      obtain ⟨Wa, hWa⟩ : ∃ Wa, W.alloc (ob x) = Wa := ⟨_, rfl⟩
      have hbx : Wa.heap[W.heap.size]? = some (ob x) := by rw [← hWa]; exact World.alloc_heap_new _ _
      have hla : Wa.heap[w.heap.size + 1]? = some (.loop (rec .ready none)) := by rw [← hWa]; exact (Below.heap_alloc _ _ _ hlt0).trans hl
      have hka : Wa.heap[w.heap.size]? = some (.deferred (some [])) := by rw [← hWa]; exact (Below.heap_alloc _ _ _ (by omega)).trans hk
      have hia : I pre Wa := by rw [← hWa]; exact own_al hI _ hi
      have hya : Yp pre x Wa := by rw [← hWa]; exact own_al (I := fun pre W => Yp pre x W) (hY x) _ hyp
      have hKaa : Kp W Wa := by rw [← hWa]; exact hKa _ _ (by omega)
      have hlt : w.heap.size + 1 < Wa.heap.size := (Array.getElem?_eq_some_iff.1 hla).1
      have hne : W.heap.size ≠ w.heap.size + 1 := by omega
      refine ⟨fn, _, assign, body, hy, roundIn_of_wpIn trivial (hassign _ x W _ ?_)⟩
      rw [hWa]
      refine ⟨_, run_beginRound hla (by rw [hrec]), ?_⟩
      have hl2 : (Wa.putObj (w.heap.size + 1) (.loop { rec .ready none with state := .busy })).heap[w.heap.size + 1]? = some (.loop { rec .ready none with state := .busy }) := World.putObj_heap_same hlt
      have hk2 : (Wa.putObj (w.heap.size + 1) (.loop { rec .ready none with state := .busy })).heap[w.heap.size]? = some (.deferred (some [])) := (World.putObj_heap_other (by omega)).trans hka
      have hw2 : Kp W (Wa.putObj (w.heap.size + 1) (.loop { rec .ready none with state := .busy })) := hKt hKaa (hKb _ _ _ _ (by omega) hla rfl rfl)
      refine wpIn_mono (hbody _ pre x _ W.heap.size (by omega) ((World.putObj_heap_other hne).trans hbx) (own_put hI _ hia (by omega) hla rfl) (own_put (I := fun pre W => Yp pre x W) (hY x) _ hya (by omega) hla rfl)) ?_
      have fin : ∀ (jump : Option Code) (W3 : World), KeepsFrom w.heap.size (Wa.putObj (w.heap.size + 1) (.loop { rec .ready none with state := .busy })) W3 →
          (Instr.endRound (w.heap.size + 1) jump).run P W3 = .ok (.bool jump.isNone) (W3.putObj (w.heap.size + 1) (.loop (rec (if jump.isNone then .ready else .done) jump))) ∧
          W3.heap[w.heap.size + 1]? = some (.loop { rec .ready none with state := .busy }) ∧
          (W3.putObj (w.heap.size + 1) (.loop (rec (if jump.isNone then .ready else .done) jump))).heap[w.heap.size + 1]? = some (.loop (rec (if jump.isNone then .ready else .done) jump)) ∧
          (W3.putObj (w.heap.size + 1) (.loop (rec (if jump.isNone then .ready else .done) jump))).heap[w.heap.size]? = some (.deferred (some [])) := fun jump W3 hk3 => by
        have hl3 := hk3.same _ _ (by omega) hl2 rfl
        have := run_endRound (P := P) jump hl3
        rw [hrec] at this ⊢
        exact ⟨this, by rw [hrec] at hl3; exact hl3, World.putObj_heap_same (Array.getElem?_eq_some_iff.1 hl3).1, (World.putObj_heap_other (by omega)).trans (hk3.same _ _ (Nat.le_refl _) hk2 rfl)⟩
      have lv : ∀ (c : Code) (W3 : World), KeepsFrom w.heap.size (Wa.putObj (w.heap.size + 1) (.loop { rec .ready none with state := .busy })) W3 → Kp (Wa.putObj (w.heap.size + 1) (.loop { rec .ready none with state := .busy })) W3 → Ix c (pre ++ [x]) W3 →
          ∃ v w', (Instr.endRound (w.heap.size + 1) (some c)).run P W3 = .ok v w' ∧ ((Ending.returned v = .returned (.bool true) ∧ (I (pre ++ [x]) w' ∧ w'.heap[w.heap.size + 1]? = some (.loop (rec .ready none)) ∧ w'.heap[w.heap.size]? = some (.deferred (some []))) ∧ Kp W w') ∨
            (Ending.returned v = .returned (.bool false) ∧ (∃ c, Ix c (pre ++ [x]) w' ∧ w'.heap[w.heap.size + 1]? = some (.loop (rec .done (some c))) ∧ w'.heap[w.heap.size]? = some (.deferred (some []))) ∧ Kp W w')) := fun c W3 hk3 hkp3 hi3 => by
        obtain ⟨hr, hl3, hl4, hk4⟩ := fin (some c) W3 hk3
        exact ⟨_, _, hr, .inr ⟨rfl, ⟨c, own_put (hIx c) _ hi3 (by omega) hl3 rfl, hl4, hk4⟩, hKt (hKt hw2 hkp3) (hKb _ _ _ _ (by omega) hl3 rfl rfl)⟩⟩
      rintro e a3 W3 hp
      cases e with
      | normal =>
        obtain ⟨hk3, hkp3, hi3⟩ := hp
        obtain ⟨hr, hl3, hl4, hk4⟩ := fin none W3 hk3
        exact ⟨_, _, hr, .inl ⟨rfl, ⟨own_put hI _ hi3 (by omega) hl3 rfl, hl4, hk4⟩, hKt (hKt hw2 hkp3) (hKb _ _ _ _ (by omega) hl3 rfl rfl)⟩⟩
      | ret => exact lv _ W3 hp.1 hp.2.1 hp.2.2
      | exit id => exact lv _ W3 hp.1 hp.2.1 hp.2.2
      | goto t => exact lv _ W3 hp.1 hp.2.1 hp.2.2
      | panic ch => exact hp.elim
      | outgrown => exact hp.elim
    · -- BEHIND THE ITERATOR
      rintro e W2 ⟨⟨v, rfl⟩, (⟨xs, hS2, hi, hl, hk⟩ | ⟨pre, hSp2, c, hi, hl, hk⟩)⟩
      · exact ⟨none, _, by have := run_endLoop (P := P) hl (by rw [hrec]; simp); rw [hrec] at this; exact this, hdone _ xs _ (Nat.le_refl _) (own_put hS _ hS2 (by omega) hl rfl) (own_put hI _ hi (by omega) hl rfl) ((World.putObj_heap_other (by omega)).trans hk)⟩
      · exact ⟨some c, _, by have := run_endLoop (P := P) hl (by rw [hrec]; simp); rw [hrec] at this; exact this, hstop _ c pre _ (Nat.le_refl _) (own_put hSp _ hSp2 (by omega) hl rfl) (own_put (hIx c) _ hi (by omega) hl rfl) ((World.putObj_heap_other (by omega)).trans hk)⟩
end Go.Proofs.YtbcjhmeeonhmaaaDoor.H
end

/-
pax.Get, walked.
-/
section
set_option linter.unusedVariables false
set_option maxRecDepth 100000
namespace Go.Proofs.YtbcjhmeeonhmaaaDoor.H
open Go Go.RowKit Go.Proofs.YtbcjhmeeonhmaaaDoorW.PrintWords Go.Proofs.YtbcjhmeeonhmaaaDoorW.PrintMore Go.Proofs.YtbcjhmeeonhmaaaDoor.M
attribute [local go_sem] Oper.semAt_some

/-- The records of bytes, and where there is none. -/
def recF : Nat → List S31 → ByteArray → List S31 × Option ByteArray
  | 0, pre, t => (pre, none)
  | k + 1, pre, t => if t.size = 0 then (pre, none) else match firstS t with
    | none => (pre, some t)
    | some (n, v, m) => if pre.length + 1 ≤ 30 ∧ n ∉ pre.map (·.f0) then recF k (pre ++ [⟨n, v⟩]) (t.extract m t.size) else (pre, some t)
def getsS (s : ByteArray) : List S31 × Int × Int := match recF 40 [] s with
  | (xs, none) => (xs, 0, 0)
  | (_, some t) => ([], (s.size : Int) - t.size, 90)
theorem Rec.run {s t : ByteArray} {pre : List S31} (h : Rec s pre t) : ∀ k, recF (pre.length + k) [] s = recF k pre t := by
  induction h with
  | nil => intro k; simp
  | snoc h h0 hf hn ih =>
    intro k
    rw [List.length_append, List.length_singleton, Nat.add_assoc, ih, Nat.add_comm 1 k]
    simp only [recF, if_neg h0, hf]
    rw [if_pos hn]
theorem getsS_done {s t : ByteArray} {xs : List S31} (h : Rec s xs t) (ht : t.size = 0) : getsS s = (xs, 0, 0) := by
  have hl := h.size
  have := h.run (39 - xs.length + 1)
  rw [show xs.length + (39 - xs.length + 1) = 40 from by omega] at this
  unfold getsS
  rw [this, recF, if_pos ht]
theorem getsS_bad {s t : ByteArray} {xs : List S31} (h : Rec s xs t) (hb : Bad xs t) : getsS s = ([], (s.size : Int) - t.size, 90) := by
  have hl := h.size
  have := h.run (39 - xs.length + 1)
  rw [show xs.length + (39 - xs.length + 1) = 40 from by omega] at this
  unfold getsS
  rw [this, recF, if_neg hb.1]
  rcases hb.2 with h1 | ⟨n, v, k, h1, h2⟩
  · rw [h1]
  · rw [h1]; simp only []; rw [if_neg h2]

theorem records_mk (X : Nat) (w : World) : Calls Tryd.prog 22 #[.pointer (some ⟨X, 0, none⟩)] w fun e w' =>
    e = .returned (.func (.func 33) #[] #[.pointer (some ⟨w.heap.size, 0, none⟩)]) ∧ w.alloc (.cells #[.pointer (some ⟨X, 0, none⟩)] 41) = w' := by
  have hmf : ∀ (fn : Fn) (first cap : Array Value) (w : World), (Instr.makeFunc fn first cap).run Tryd.prog w = .ok (.func fn first cap) w := fun _ _ _ _ => rfl
  go_enter Tryd.func22, Tryd.ntmps22
  go_wp2
  go_ret
  exact ⟨rfl, rfl⟩

/-- Records' cells. -/
def cellsA (xs : List S31) : List Value := xs.flatMap fun x => [.string x.f0, .string x.f1]
theorem cellsA_snoc (xs : List S31) (x : S31) : cellsA (xs ++ [x]) = cellsA xs ++ [.string x.f0, .string x.f1] := by simp [cellsA]
theorem R_of_cells {w : World} {base : Nat} {v : Value} {xs : List S31} (h : w.ownsRow base 31 2 v xs.length (cellsA xs)) : Kd.R k31 31 w base (fun _ => True) v xs := by
  refine ⟨fun _ _ => trivial, _, h, ?_⟩
  clear h
  have : ∀ (R : S31 → List Value → Prop), (∀ x : S31, R x [.string x.f0, .string x.f1]) → Reps R 2 xs (cellsA xs) := by
    intro R hR
    induction xs with
    | nil => exact Reps.none _ _
    | cons x t ih =>
      show Reps R 2 (x :: t) (Value.string x.f0 :: Value.string x.f1 :: cellsA t)
      exact Reps.c2 (hR x) ih
  exact this _ (fun x => k31_mkM _ _ _ x)

theorem cell_two_new (w : World) (x y : Value) (t : TypeId) : ∀ j u, [x, y][j]? = some u → (w.alloc (.cells #[x, y] t)).cell? ((⟨w.heap.size, 0, none⟩ : Addr).add j) = some u := by
  intro j u hj
  have h := two_cells (World.alloc_heap_new w (.cells #[x, y] t))
  match j, hj with
  | 0, hj => simp at hj; subst hj; exact h.1
  | 1, hj => simp at hj; subst hj; exact h.2.1
  | j + 2, hj => simp at hj
theorem own_block_kind {W : World} {base : Nat} {e : TypeId} {size n : Nat} {v : Value} {xs : List Value} (hr : W.ownsRow base e size v n xs) {k : Nat} {o : Obj} (hk : W.heap[k]? = some o) (ho : ∀ c fz, o ≠ .cells c e fz) : some k ≠ v.ownBlock := by
  rcases hr.2 with ⟨rfl, _⟩ | ⟨g, cap, cur, rfl, hb, hgb, _⟩
  · simp [Value.ownBlock]
  · intro h
    simp only [Value.ownBlock, Option.some.injEq] at h
    subst h
    rw [hgb] at hk
    exact ho _ _ (Option.some.inj hk).symm
theorem ownsRow_step {w0 W W' : World} {R base : Nat} {e : TypeId} {size n : Nat} {v : Value} {xs : List Value} (hr : W.ownsRow base e size v n xs) (h : RecStep w0 R W W') (hR : R < base) (he : e ≠ 69) : W'.ownsRow base e size v n xs := by
  refine ⟨hr.1, ?_⟩
  rcases hr.2 with h1 | ⟨g, cap, cur, h1, hb, hg, h2⟩
  · exact .inl h1
  · exact .inr ⟨g, cap, cur, h1, hb, h.1.2.2.2.2 g _ hg (by omega) (by intro c fz e'; injection e' with _ e' _; exact he e') rfl, h2⟩
theorem boxed_step {w0 W W' : World} {R B : Nat} {t : TypeId} {v : Value} (h : Boxed W B t v) (hs : RecStep w0 R W W') (hB : B ≠ R) (ht : t ≠ 69) : Boxed W' B t v :=
  hs.1.2.2.2.2 B _ h hB (by intro c fz e'; injection e' with _ e' _; exact ht e') rfl
/-- What Get hands back. -/
def GotA (s : ByteArray) (w : World) (e : Ending) (w' : World) : Prop :=
  ∃ v0 : Value, e = .returned (.tuple #[v0, .int .i64 (getsS s).2.1, .int .i64 (getsS s).2.2]) ∧ Kd.R k31 31 w' w.heap.size (fun _ => True) v0 (getsS s).1 ∧ Below w.heap.size w w'

set_option maxHeartbeats 4000000 in
theorem paxGet (s : ByteArray) (w : World) (hG : GW w) (hs : s.size ≤ 1073741824) : Calls Tryd.prog 10 #[.string s] w (GotA s w) := by
  have HS := Lib.hid hs
  obtain ⟨i0, hi, hz0, hz1, hz2⟩ := info_parts info31
  refine (callsIn_wide (n := 0)).1 ?_
  refine callsIn_of_wp_marks Tryd.func10 rfl trivial ?_ rfl
  simp only [Tryd.ntmps10, List.size_toArray, List.length_cons, List.length_nil, Nat.reduceAdd, Nat.reduceSub, Array.replicate_succ, Array.replicate_zero, List.push_toArray, List.append_toArray, List.nil_append, List.cons_append]
  gi_wp2_with (refine ⟨trivial, rfl, ?_⟩; gi_at_call 22; refine callsIn_wide.2 ((records_mk _ _).mono ?_); rintro e w' ⟨rfl, rfl⟩)
  obtain ⟨W0, hW0⟩ : ∃ W0, ((w.alloc (.cells #[.string s, .int .i64 s.size, .nilIface] 47)).alloc (.cells #[.slice none 0 0] 23)).alloc (.cells #[.pointer (some ⟨w.heap.size, 0, none⟩)] 41) = W0 := ⟨_, rfl⟩
  have hz : W0.heap.size = w.heap.size + 3 := by rw [← hW0]; simp
  have hB0 : Below w.heap.size w W0 := by rw [← hW0]; exact (((Below.refl _ w).alloc (Nat.le_refl _) _).alloc (by simp) _).alloc (by simp; omega) _
  have hRd : RdAt w.heap.size s s.size .nilIface W0 := by rw [← hW0]; exact heap_al (heap_al (World.alloc_heap_new _ _) _) _
  have hbL : Boxed W0 (w.heap.size + 1) 23 (.slice none 0 0) := by rw [← hW0]; have := Boxed.new (w.alloc (.cells #[.string s, .int .i64 s.size, .nilIface] 47)) 23 (.slice none 0 0); rw [World.size_alloc] at this; exact this.alloc _
  have hbB : Boxed W0 (w.heap.size + 1 + 1) 41 (.pointer (some ⟨w.heap.size, 0, none⟩)) := by rw [← hW0]; have := Boxed.new ((w.alloc (.cells #[.string s, .int .i64 s.size, .nilIface] 47)).alloc (.cells #[.slice none 0 0] 23)) 41 (.pointer (some ⟨w.heap.size, 0, none⟩)); rw [World.size_alloc, World.size_alloc] at this; exact this
  rw [hW0]
  clear hW0 hs
  refine wp_rangeFunc_iterA (gf := 33) (lb := #[.pointer (some ⟨w.heap.size + 1 + 1, 0, none⟩)]) rfl (enters_of Tryd.func33 (by kernel_rfl) rfl)
    (records_iter w hG w.heap.size (w.heap.size + 1 + 1) (Nat.le_refl _) s HS.out)
    (fun A B h k o hk h1 h2 h3 => h.1.2.2.2.2 k o h1 (by omega) (by rintro c fz rfl; cases h2) h3)
    (fun W h => ⟨celB (h.mono (Nat.le_refl _)) hbB.cell, hRd.below h, hB0.trans (h.mono (by omega)), by omega⟩)
    (fun h k => ⟨k.1.trans h.1, k.2.1.trans h.2.1, fun i c fz e => k.2.2.1 i c fz (h.2.2.1 i c fz e), fun i es c e => k.2.2.2.1 i es c (h.2.2.2.1 i es c e), fun b => k.2.2.2.2 (h.2.2.2.2 b)⟩)
    (fun W o hW => ⟨Below.heap_alloc _ _ _ (by omega), Below.heap_alloc _ _ _ (by omega), fun i c fz e => heap_al e _, fun i es c e => heap_al e _, fun b => b.alloc b.size _⟩)
    (fun W l o o' hl h h1 h2 => ⟨World.putObj_heap_other (by omega), World.putObj_heap_other (by omega), fun i c fz e => (World.putObj_heap_other (by rintro rfl; rw [h] at e; cases e; cases h1)).trans e, fun i es c e => (World.putObj_heap_other (by rintro rfl; rw [h] at e; cases e; cases h2)).trans e,
      fun b => b.trans ⟨rfl, rfl, rfl, by rw [World.putObj_size]; exact Nat.le_refl _, fun i hi => World.putObj_heap_other (by have := b.size; omega)⟩⟩) (fun _ => rfl)
    (fun pre W => (∃ v, Boxed W (w.heap.size + 1) 23 v ∧ W.ownsRow (w.heap.size + 1) 31 2 v pre.length (cellsA pre)) ∧ Boxed W (w.heap.size + 1 + 1) 41 (.pointer (some ⟨w.heap.size, 0, none⟩)) ∧ Below w.heap.size w W ∧ w.heap.size + 3 ≤ W.heap.size ∧ w.heap.size < W.heap.size)
    (fun _ _ _ => False) ?hI (fun _ _ _ _ _ hs _ _ => hs) ?hIs (fun _ _ _ _ h _ => h) ?hY ?hS ?hSp
    ⟨⟨_, hbL, World.ownsRow_nil _ _ _ _⟩, hbB, hB0, by omega, by omega⟩
    (fun x b => { tmps := #[.string s, undef, .slice none 0 0, .int .i64 0, .int .i64 0, .pointer (some ⟨w.heap.size, 0, none⟩), .pointer (some ⟨w.heap.size + 1, 0, none⟩), .pointer (some ⟨b, 0, none⟩), undef, undef, .string s, .agg #[.string s], .string s, .int .i64 s.size, .agg #[.string s, .int .i64 s.size, .nilIface], .pointer (some ⟨w.heap.size, 0, none⟩), .pointer (some ⟨w.heap.size, 0, none⟩), .func (.func 33) #[] #[.pointer (some ⟨w.heap.size + 1 + 1, 0, none⟩)], .agg #[.string x.f0, .string x.f1], undef, undef, undef, undef, undef, undef, undef, undef, undef, undef, undef, undef, undef, undef, undef, undef, undef, undef, undef, undef], defers := [] })
    (fun x => .cells #[.string x.f0, .string x.f1] 31) (fun _ => rfl) ?assign ?body ?done ?stop
  case hI =>
    rintro pre A B row ⟨⟨v, hv, hr⟩, hBx, hB, hz', hz''⟩ hg hrow
    exact ⟨⟨v, hv.kept hg (fun e => by have := hrow _ e.symm; omega), hr.kept hg (ownBlock_ne_row hr hrow)⟩, hBx.kept hg (fun e => by have := hrow _ e.symm; omega), hB.grown hg (by omega) (fun k e => by have := hrow _ e; omega), Nat.le_trans hz' hg.size, by have := hg.size; omega⟩
  case hIs =>
    rintro pre A B ⟨⟨v, hv, hr⟩, hBx, hB, hz', hz''⟩ hst
    exact ⟨⟨v, boxed_step hv hst (by omega) (by decide), ownsRow_step hr hst (by omega) (by decide)⟩, boxed_step hBx hst (by omega) (by decide), hst.2 hB, Nat.le_trans hz' hst.1.2.2.2.1, by have := hst.1.2.2.2.1; omega⟩
  case hY => intro x; exact ownFrom_pure _ _
  case hS =>
    rintro xs A B row ⟨t, h1, h2⟩ hg hrow
    have hk : ∀ {t' : ByteArray} {ev : Value}, RdAt w.heap.size t' s.size ev A → RdAt w.heap.size t' s.size ev B := fun h => h.same (hg.block _ (lt_of_heap h) (fun e => by have := hrow _ e.symm; omega))
    exact ⟨t, h1, h2.elim (fun ⟨a, t', b⟩ => .inl ⟨a, t', hk b⟩) (fun ⟨a, t', b⟩ => .inr ⟨a, t', hk b⟩)⟩
  case hSp => exact ownFrom_pure _ _
  case assign =>
    intro l x W K hK
    unfold encA
    gi_wp2
    exact hK
  case stop =>
    rintro D c pre W _ _ h _
    exact h.elim
  case body =>
    rintro l pre x W b hb0 hbx ⟨⟨v, hv, hrow⟩, hBx, hB, hz', hz''⟩ ⟨hlen, _⟩
    have hc := hv.cell
    obtain ⟨x0, x1, _⟩ := two_cells hbx
    gi_wp2_with (gi_at_builtin; refine wpListIn_append_own _ rfl _ _ 23 rfl (w.heap.size + 1) 31 i0 (.agg #[.string ⟨#[]⟩, .string ⟨#[]⟩]) 2 32 Tryd.underlying23 hi hz0 hz1 hz2 rfl (by decide) _ _ _ rfl (hrow.alloc _) ⟨W.heap.size, 0, none⟩ 1 1 [.string x.f0, .string x.f1] rfl rfl (cell_two_new _ _ _ _) (by simp [Value.oneCell']) (by unfold maxLen; omega) (by omega) (by have := hB.size; simp; omega) ?_; intro v' w1 hown' hgrow _; obtain ⟨g', cap', rfl⟩ := ownsRow_succ hown'; obtain ⟨hv1, hv2, hr2, hk2, hb2⟩ := hv.appended (by decide) hrow (by omega) (Nat.le_refl _) hown' hgrow; have hc1 := hv1.cell; have hf1 := hv1.frozen)
    have hg2 : (W.alloc (.cells #[.string x.f0, .string x.f1] 31)).grownBy w1 v.ownBlock := hgrow
    have oth : ∀ (C : Nat) (o : Obj), W.heap[C]? = some o → (∀ c fz, o ≠ .cells c 31 fz) → C ≠ w.heap.size + 1 → (w1.setCell ⟨w.heap.size + 1, 0, none⟩ (.slice (some ⟨g', 0, none⟩) (pre.length + 1) cap')).heap[C]? = some o := fun C o h1 h2 h3 =>
      (appended_other (C := C) (v' := .slice (some ⟨g', 0, none⟩) (pre.length + 1) cap') hg2 (lt_of_heap h1) (B := w.heap.size + 1) h3 (own_block_kind hrow h1 h2)).trans h1
    have oX := appended_other (C := w.heap.size) (v' := .slice (some ⟨g', 0, none⟩) (pre.length + 1) cap') hg2 (by omega) (B := w.heap.size + 1) (by omega) (fun e => by rcases ownBlock_ne_of_base hrow (X := w.heap.size) (by omega) with h | h; rw [h] at e; cases e; exact h e.symm)
    have oB := appended_other (C := w.heap.size + 1 + 1) (v' := .slice (some ⟨g', 0, none⟩) (pre.length + 1) cap') hg2 (by omega) (B := w.heap.size + 1) (by omega) (hBx.not_row (by decide) hrow)
    have hBn : ∀ c fz, W.heap[w.heap.size + 1]? ≠ some (.cells c 69 fz) := fun c fz e => by rw [show W.heap[w.heap.size + 1]? = _ from hv] at e; injection e with e; injection e with _ e _; cases e
    have hBm : ∀ es c, W.heap[w.heap.size + 1]? ≠ some (.map es c) := fun es c e => by rw [show W.heap[w.heap.size + 1]? = _ from hv] at e; cases e
    have hBB : Below w.heap.size w (w1.setCell ⟨w.heap.size + 1, 0, none⟩ (.slice (some ⟨g', 0, none⟩) (pre.length + 1) cap')) := hB.trans (hb2.mono (by omega))
    exact ⟨hk2.from _, ⟨oX, oB, fun k c fz e => oth k _ e (by intro c' fz' e'; injection e' with _ e' _; cases e') (by rintro rfl; exact hBn _ _ e), fun k es c e => oth k _ e (by intro c' fz' e'; cases e') (by rintro rfl; exact hBm _ _ e), fun _ => hBB⟩,
      ⟨⟨_, hv2, by rw [cellsA_snoc]; simpa using hr2⟩, oB.trans hBx, hBB, by have := hb2.size; omega, by have := hb2.size; omega⟩⟩
  case done =>
    rintro D ys W hD ⟨t, hE, hend⟩ ⟨⟨v, hv, hrow⟩, hBx, hB, hz', hz''⟩ hK
    have hc := hv.cell
    rcases hend with ⟨ht, t', hR⟩ | ⟨hbad, t', hR⟩
    · have hg := getsS_done hE ht
      have c2 := hR.c2
      have HGS := Lib.hid hg
      clear hg ht hE
      gi_wp2
      refine ⟨by simp, .inl ⟨_, _, rfl, run_takeDeferred hK, ?_⟩⟩
      refine ⟨_, results_tmp3 rfl _ _ _, ?_⟩
      refine ⟨v, by rw [HGS.out]; rfl, ?_, ?_⟩
      · rw [HGS.out]; exact R_of_cells (ownsRow_base (ownsRow_putObj (W := W) (l := D) hrow _ hK rfl) (by omega))
      · exact hB.trans (belowK_b (w := w) (Nat.le_refl _) W D _ _ (by omega) hK rfl rfl)
    · have hg := getsS_bad hE hbad
      have c2 := hR.c2
      have HGS := Lib.hid hg
      obtain ⟨n, hn⟩ : ∃ n, (s.size : Int) - t.size = n := ⟨_, rfl⟩
      rw [hn] at HGS c2
      have HT := Lib.hid (pax_told n W (hG.below hB))
      unfold wrongV at c2 HT
      clear hg hbad hE hn
      gi_wp2_with fail
      refine ⟨trivial, rfl, callsIn_wide.2 (HT.out.mono ?_)⟩
      rintro _ W2 ⟨rfl, hb2⟩
      have hK2 := heapB hb2 (lt_of_heap hK) hK
      gi_wp2
      refine ⟨by simp, .inl ⟨_, _, rfl, run_takeDeferred hK2, ?_⟩⟩
      refine ⟨_, results_tmp3 rfl _ _ _, ?_⟩
      refine ⟨.slice none 0 0, by rw [HGS.out]; rfl, ?_, ?_⟩
      · rw [HGS.out]; exact Kd.R_nil _ _ _ _ _
      · exact (hB.trans (hb2.mono hB.size)).trans (belowK_b (w := w) (Nat.le_refl _) W2 D _ _ (by omega) hK2 rfl rfl)
end Go.Proofs.YtbcjhmeeonhmaaaDoor.H
end

-- Laid by a program of this session for this claim.
section
namespace Go.Proofs.YtbcjhmeeonhmaaaDoor.M
open Go.RowKit Go.Proofs.YtbcjhmeeonhmaaaDoorW.PrintWords Go.Proofs.YtbcjhmeeonhmaaaDoorW.PrintLast Go.Proofs.YtbcjhmeeonhmaaaDoorW.PrintMore
attribute [local go_sem] max2_int min2_int max_two min_two max_three min_three max_four min_four   -- for this text's walks alone
set_option linter.unusedVariables false
set_option linter.unusedSimpArgs false

/-! ### pax_Get: function 10 -/
-- IMPORT Derived.Test.YtbcjhmeeonhmaaaDoorHPaxGet Derived.Test.YtbcjhmeeonhmaaaDoorHGm
def pax_Get.f (a0 : ByteArray) : Option (List S31 × Int × Int) := if a0.size ≤ 1073741824 then some (H.getsS a0) else none
theorem pax_Get.calls (a0 : ByteArray) (r1 : List S31) (r2 : Int) (r3 : Int) (w : World) (hG : GW w) (h : pax_Get.f a0 = some (r1, r2, r3)) :
    Calls Tryd.prog 10 #[.string a0] w fun e w' => ∃ v0_ : Value, e = .returned (.tuple #[v0_, .int .i64 r2, .int .i64 r3]) ∧ Kd.R k31 31 w' w.heap.size (fun _ => True) v0_ r1 ∧ Below w.heap.size w w' := by
  unfold pax_Get.f at h
  by_cases hh : a0.size ≤ 1073741824
  · rw [if_pos hh] at h
    have := H.paxGet a0 w hG hh
    unfold H.GotA at this
    rw [Option.some.inj h] at this
    exact this
  · rw [if_neg hh] at h; cases h

end Go.Proofs.YtbcjhmeeonhmaaaDoor.M
end

-- Laid by a program of this session for this claim.
section
namespace Go.Proofs.YtbcjhmeeonhmaaaDoor.M
open Go.RowKit Go.Proofs.YtbcjhmeeonhmaaaDoorW.PrintWords Go.Proofs.YtbcjhmeeonhmaaaDoorW.PrintLast Go.Proofs.YtbcjhmeeonhmaaaDoorW.PrintMore
attribute [local go_sem] max2_int min2_int max_two min_two max_three min_three max_four min_four   -- for this text's walks alone
set_option linter.unusedVariables false
set_option linter.unusedSimpArgs false

/-! ### pax_One: function 15 -/
-- IMPORT Derived.Test.YtbcjhmeeonhmaaaDoorHOneW
def pax_One.f (a0_0 : ByteArray) (a0_1 : ByteArray) : Option (ByteArray × Int) := some (H.oneS a0_0 a0_1)
theorem pax_One.calls (a0_0 : ByteArray) (a0_1 : ByteArray) (r1 : ByteArray) (r2 : Int) (w : World) (h : pax_One.f a0_0 a0_1 = some (r1, r2)) :
    Calls Tryd.prog 15 #[.agg #[.string a0_0, .string a0_1]] w fun e w' => e = .returned (.tuple #[.string r1, .int .i64 r2]) ∧ Below w.heap.size w w' := by
  have := H.one a0_0 a0_1 w
  rw [Option.some.inj h] at this
  exact this

end Go.Proofs.YtbcjhmeeonhmaaaDoor.M
end

-- Laid by a program of this session for this claim.
section
namespace Go.Proofs.YtbcjhmeeonhmaaaDoor.M
open Go.RowKit Go.Proofs.YtbcjhmeeonhmaaaDoorW.PrintWords Go.Proofs.YtbcjhmeeonhmaaaDoorW.PrintLast Go.Proofs.YtbcjhmeeonhmaaaDoorW.PrintMore
attribute [local go_sem] max2_int min2_int max_two min_two max_three min_three max_four min_four   -- for this text's walks alone
set_option linter.unusedVariables false
set_option linter.unusedSimpArgs false

/-! ### pax_Size: function 14 -/
def pax_Size.f (a0_0 : ByteArray) (a0_1 : ByteArray) : Option (Int) := (pax_One.f a0_0 a0_1).bind fun bt179 => (some (bt179.1.size : Int))
set_option maxHeartbeats 8000000 in
set_option maxRecDepth 100000 in
theorem pax_Size.calls (a0_0 : ByteArray) (a0_1 : ByteArray) (r : Int) (w : World) (h : pax_Size.f a0_0 a0_1 = some r) :
    Calls Tryd.prog 14 #[.agg #[.string a0_0, .string a0_1]] w fun e w' => e = .returned (.int .i64 r) ∧ Below w.heap.size w w' := by
  have hu31 := Tryd.underlying31
  have HB := Aside0.mk (Below.refl w.heap.size w)
  have H : ((pax_One.f a0_0 a0_1).bind fun bt179 => (some (bt179.1.size : Int))) = some r := h
  clear h
  replace H := Option.bind_eq_some_iff.mp H
  obtain ⟨⟨t179, t180⟩, A20, H⟩ := H
  replace H : (some (t179.size : Int)) = some r := H
  have A2 := Aside0.mk A20
  clear A20
  obtain rfl := Option.some.inj H
  go_enter Tryd.func14, Tryd.ntmps14
  go_wp2_with (first | ((with_reducible refine gate_dst (N := 1) rfl ?_); refine box_event ?hg (N := 1) ?hd (cs := #[.string a0_0, .string a0_1]) (t := 31) ?hr ?_; (case hd => rfl); (case hg => rfl); (case hr => first | (go_simp; done) | (go_simp; rfl)); intro gb178 hg w3 hbox hb; have n0_ := Aside0.mk (below_step (by repeat (first | (with_reducible first | exact HB.out | apply below_alloc | apply pw_below_drewN | apply below_drew1) | exact HB.out)) hb); have n1_ := Aside0.mk (hbox); have n2_ := Aside0.mk ((by rw [hg]; exact (below_size (by repeat (first | (with_reducible first | exact HB.out | apply below_alloc | apply pw_below_drewN | apply below_drew1) | exact HB.out))) : w.heap.size ≤ gb178)); have n3_ := Aside0.mk ((by rw [hg]; exact (below_size (by repeat (first | (with_reducible first | exact HB.out | apply below_alloc | apply pw_below_drewN | apply below_drew1) | exact HB.out))) : w.heap.size ≤ gb178)); clear HB; have HB := n0_; have BK178 := n1_; have GW178 := n2_; have GE178 := n3_; clear n0_ n1_ n2_ n3_; clear hb hbox hg; have hcz4_0 : w3.cell? ⟨gb178, 0, none⟩ = some (.string a0_0) := (blk_cell BK178.out 0).trans rfl; have hcz4_1 : w3.cell? ⟨gb178, 1, none⟩ = some (.string a0_1) := (blk_cell BK178.out 1).trans rfl; have hfz4_0 := blk_frozen BK178.out 0; have hfz4_1 := blk_frozen BK178.out 1) | ((with_reducible refine gate_callee (f := 15) rfl ?_); refine goesL_ (some 7) rfl rfl Tryd.func15 (by kernel_rfl) rfl #[.agg #[.string a0_0, .string a0_1]] rfl (by (try simp only [List.map_toArray, List.map_cons, List.map_nil]); first | done | rfl | (simp only [List.length_drop, List.length_take]; rfl)) ?_; (with_reducible refine (pax_One.calls a0_0 a0_1 t179 t180 _ A2.out).mono ?_); rintro e w5 ⟨rfl, hb⟩; refine ⟨_, rfl, ?_⟩; have n0_ := Aside0.mk (blk_below (g := gb178) (o := .cells #[.string a0_0, .string a0_1] 31 (0, 0)) (by (with_reducible repeat (first | refine blk_drewN ?_ _ | refine blk_drew ?_ | refine blk_alloc ?_ _)); exact BK178.out) hb); have n1_ := Aside0.mk (below_step (by repeat (first | (with_reducible first | exact HB.out | apply below_alloc | apply pw_below_drewN | apply below_drew1 | refine below_set ?_ GE178.out) | exact HB.out)) hb); clear BK178; clear HB; have BK178 := n0_; have HB := n1_; clear n0_ n1_; (try clear hb); (try clear hb2); (try clear hk); (try clear hi)))
  go_ret
  exact ⟨by first | rfl | (simp [errW_none, errW_some] <;> rfl) | (simp [*, errW_none, errW_some] <;> rfl), by repeat (first | (with_reducible first | exact HB.out | apply below_alloc | apply pw_below_drewN | apply below_drew1 | refine below_set ?_ GE178.out) | exact HB.out)⟩

end Go.Proofs.YtbcjhmeeonhmaaaDoor.M
end

-- Laid by a program of this session for this claim.
section
namespace Go.Proofs.YtbcjhmeeonhmaaaDoor.M
open Go.RowKit Go.Proofs.YtbcjhmeeonhmaaaDoorW.PrintWords Go.Proofs.YtbcjhmeeonhmaaaDoorW.PrintLast Go.Proofs.YtbcjhmeeonhmaaaDoorW.PrintMore
attribute [local go_sem] max2_int min2_int max_two min_two max_three min_three max_four min_four   -- for this text's walks alone
set_option linter.unusedVariables false
set_option linter.unusedSimpArgs false

/-! ### pleacherlaw09_shown: function 9 -/
def pleacherlaw09_shown.f  : Option (Bool) := (pax_One.f (⟨#[112, 97, 116, 104]⟩ : ByteArray) (⟨#[97]⟩ : ByteArray)).bind fun bt181 => ((pax_Get.f (⟨#[57, 32, 112, 97, 116, 104, 61, 97, 10, 53, 32, 107, 61, 10]⟩ : ByteArray)).bind fun bt183 => ((pax_Get.f (⟨#[57, 32, 112, 97, 116, 104, 61, 97, 10, 54, 32, 107, 61, 10]⟩ : ByteArray)).bind fun bt188 => (if bt181.1.toList = ([57, 32, 112, 97, 116, 104, 61, 97, 10] : List UInt8) then (if bt181.2 = 0 then (if (bt183.1.length : Int) = 2 then (if bt183.2.1 = 0 then (if bt183.2.2 = 0 then (if bt188.2.1 = 9 then (if bt188.2.2 = 90 then ((pax_Size.f (⟨#[107]⟩ : ByteArray) (⟨#[]⟩ : ByteArray)).bind fun t193 => (some (t193 == 5))) else (some false)) else (some false)) else (some false)) else (some false)) else (some false)) else (some false)) else (some false))))
set_option maxHeartbeats 8000000 in
set_option maxRecDepth 100000 in
theorem pleacherlaw09_shown.calls  (r : Bool) (w : World) (hG : GW w) (h : pleacherlaw09_shown.f  = some r) :
    Calls Tryd.prog 9 #[] w fun e w' => e = .returned (.bool r) ∧ Below w.heap.size w w' := by
  have HG := Aside0.mk hG
  clear hG
  have hu31 := Tryd.underlying31
  have HB := Aside0.mk (Below.refl w.heap.size w)
  have H : ((pax_One.f (⟨#[112, 97, 116, 104]⟩ : ByteArray) (⟨#[97]⟩ : ByteArray)).bind fun bt181 => ((pax_Get.f (⟨#[57, 32, 112, 97, 116, 104, 61, 97, 10, 53, 32, 107, 61, 10]⟩ : ByteArray)).bind fun bt183 => ((pax_Get.f (⟨#[57, 32, 112, 97, 116, 104, 61, 97, 10, 54, 32, 107, 61, 10]⟩ : ByteArray)).bind fun bt188 => (if bt181.1.toList = ([57, 32, 112, 97, 116, 104, 61, 97, 10] : List UInt8) then (if bt181.2 = 0 then (if (bt183.1.length : Int) = 2 then (if bt183.2.1 = 0 then (if bt183.2.2 = 0 then (if bt188.2.1 = 9 then (if bt188.2.2 = 90 then ((pax_Size.f (⟨#[107]⟩ : ByteArray) (⟨#[]⟩ : ByteArray)).bind fun t193 => (some (t193 == 5))) else (some false)) else (some false)) else (some false)) else (some false)) else (some false)) else (some false)) else (some false))))) = some r := h
  clear h
  replace H := Option.bind_eq_some_iff.mp H
  obtain ⟨⟨t181, t182⟩, A10, H⟩ := H
  replace H : ((pax_Get.f (⟨#[57, 32, 112, 97, 116, 104, 61, 97, 10, 53, 32, 107, 61, 10]⟩ : ByteArray)).bind fun bt183 => ((pax_Get.f (⟨#[57, 32, 112, 97, 116, 104, 61, 97, 10, 54, 32, 107, 61, 10]⟩ : ByteArray)).bind fun bt188 => (if t181.toList = ([57, 32, 112, 97, 116, 104, 61, 97, 10] : List UInt8) then (if t182 = 0 then (if (bt183.1.length : Int) = 2 then (if bt183.2.1 = 0 then (if bt183.2.2 = 0 then (if bt188.2.1 = 9 then (if bt188.2.2 = 90 then ((pax_Size.f (⟨#[107]⟩ : ByteArray) (⟨#[]⟩ : ByteArray)).bind fun t193 => (some (t193 == 5))) else (some false)) else (some false)) else (some false)) else (some false)) else (some false)) else (some false)) else (some false)))) = some r := H
  have A1 := Aside0.mk A10
  clear A10
  replace H := Option.bind_eq_some_iff.mp H
  obtain ⟨⟨t183, t184, t185⟩, A20, H⟩ := H
  replace H : ((pax_Get.f (⟨#[57, 32, 112, 97, 116, 104, 61, 97, 10, 54, 32, 107, 61, 10]⟩ : ByteArray)).bind fun bt188 => (if t181.toList = ([57, 32, 112, 97, 116, 104, 61, 97, 10] : List UInt8) then (if t182 = 0 then (if (t183.length : Int) = 2 then (if t184 = 0 then (if t185 = 0 then (if bt188.2.1 = 9 then (if bt188.2.2 = 90 then ((pax_Size.f (⟨#[107]⟩ : ByteArray) (⟨#[]⟩ : ByteArray)).bind fun t193 => (some (t193 == 5))) else (some false)) else (some false)) else (some false)) else (some false)) else (some false)) else (some false)) else (some false))) = some r := H
  have A2 := Aside0.mk A20
  clear A20
  replace H := Option.bind_eq_some_iff.mp H
  obtain ⟨⟨t188, t189, t190⟩, A30, H⟩ := H
  replace H : (if t181.toList = ([57, 32, 112, 97, 116, 104, 61, 97, 10] : List UInt8) then (if t182 = 0 then (if (t183.length : Int) = 2 then (if t184 = 0 then (if t185 = 0 then (if t189 = 9 then (if t190 = 90 then ((pax_Size.f (⟨#[107]⟩ : ByteArray) (⟨#[]⟩ : ByteArray)).bind fun t193 => (some (t193 == 5))) else (some false)) else (some false)) else (some false)) else (some false)) else (some false)) else (some false)) else (some false)) = some r := H
  have A3 := Aside0.mk A30
  clear A30
  by_cases c4 : t181.toList = ([57, 32, 112, 97, 116, 104, 61, 97, 10] : List UInt8)
  · rw [if_pos c4] at H
    have c4b0 : (t181.toList == ([57, 32, 112, 97, 116, 104, 61, 97, 10] : List UInt8)) = true := beq_iff_eq.mpr c4
    have c4b1 : (t181.toList != ([57, 32, 112, 97, 116, 104, 61, 97, 10] : List UInt8)) = false := bne_eq_false_iff_eq.mpr c4
    clear c4
    by_cases c5 : t182 = 0
    · rw [if_pos c5] at H
      have c5b0 : (t182 == 0) = true := beq_iff_eq.mpr c5
      have c5b1 : (t182 != 0) = false := bne_eq_false_iff_eq.mpr c5
      clear c5
      by_cases c6 : (t183.length : Int) = 2
      · rw [if_pos c6] at H
        have c6b0 : ((t183.length : Int) == 2) = true := beq_iff_eq.mpr c6
        have c6b1 : ((t183.length : Int) != 2) = false := bne_eq_false_iff_eq.mpr c6
        clear c6
        by_cases c7 : t184 = 0
        · rw [if_pos c7] at H
          have c7b0 : (t184 == 0) = true := beq_iff_eq.mpr c7
          have c7b1 : (t184 != 0) = false := bne_eq_false_iff_eq.mpr c7
          clear c7
          by_cases c8 : t185 = 0
          · rw [if_pos c8] at H
            have c8b0 : (t185 == 0) = true := beq_iff_eq.mpr c8
            have c8b1 : (t185 != 0) = false := bne_eq_false_iff_eq.mpr c8
            clear c8
            by_cases c9 : t189 = 9
            · rw [if_pos c9] at H
              have c9b0 : (t189 == 9) = true := beq_iff_eq.mpr c9
              have c9b1 : (t189 != 9) = false := bne_eq_false_iff_eq.mpr c9
              clear c9
              by_cases c10 : t190 = 90
              · rw [if_pos c10] at H
                have c10b0 : (t190 == 90) = true := beq_iff_eq.mpr c10
                have c10b1 : (t190 != 90) = false := bne_eq_false_iff_eq.mpr c10
                clear c10
                replace H := Option.bind_eq_some_iff.mp H
                obtain ⟨t193, A110, H⟩ := H
                replace H : (some (t193 == 5)) = some r := H
                have A11 := Aside0.mk A110
                clear A110
                obtain rfl := Option.some.inj H
                go_enter Tryd.func9, Tryd.ntmps9
                go_wp2_with (first | ((with_reducible refine gate_callee (f := 15) rfl ?_); refine goesL_ (some 11) rfl rfl Tryd.func15 (by kernel_rfl) rfl #[.agg #[.string (⟨#[112, 97, 116, 104]⟩ : ByteArray), .string (⟨#[97]⟩ : ByteArray)]] rfl (by (try simp only [List.map_toArray, List.map_cons, List.map_nil]); first | done | rfl | (simp only [List.length_drop, List.length_take]; rfl)) ?_; (with_reducible refine (pax_One.calls (⟨#[112, 97, 116, 104]⟩ : ByteArray) (⟨#[97]⟩ : ByteArray) t181 t182 _ A1.out).mono ?_); rintro e w12 ⟨rfl, hb⟩; refine ⟨_, rfl, ?_⟩; have n0_ := Aside0.mk (below_step (by repeat (first | (with_reducible first | exact HB.out | apply below_alloc | apply pw_below_drewN | apply below_drew1) | exact HB.out)) hb); clear HB; have HB := n0_; clear n0_; (try clear hb); (try clear hb2); (try clear hk); (try clear hi)) | ((with_reducible refine gate_callee (f := 10) rfl ?_); refine goesL_ (some 15) rfl rfl Tryd.func10 (by kernel_rfl) rfl #[.string (⟨#[57, 32, 112, 97, 116, 104, 61, 97, 10, 53, 32, 107, 61, 10]⟩ : ByteArray)] rfl (by (try simp only [List.map_toArray, List.map_cons, List.map_nil]); first | done | rfl | (simp only [List.length_drop, List.length_take]; rfl)) ?_; (with_reducible refine (pax_Get.calls (⟨#[57, 32, 112, 97, 116, 104, 61, 97, 10, 53, 32, 107, 61, 10]⟩ : ByteArray) t183 t184 t185 _ ?side1 A2.out).mono ?_); (case side1 => exact GW.below HG.out (by repeat (first | (with_reducible first | exact HB.out | apply below_alloc | apply pw_below_drewN | apply below_drew1) | exact HB.out))); rintro e w13 ⟨v186, rfl, ho0, hb⟩; refine ⟨_, rfl, ?_⟩; have n0_ := Aside0.mk (Kd.R_lower ho0 (below_size (by repeat (first | (with_reducible first | exact HB.out | apply below_alloc | apply pw_below_drewN | apply below_drew1) | exact HB.out)))); have n1_ := Aside0.mk (below_step (by repeat (first | (with_reducible first | exact HB.out | apply below_alloc | apply pw_below_drewN | apply below_drew1) | exact HB.out)) hb); clear HB; have HO187 := n0_; have HB := n1_; clear n0_ n1_; (try clear hb); (try clear hb2); (try clear hk); (try clear hi); (try clear ho0)) | ((with_reducible refine gate_callee (f := 10) rfl ?_); refine goesL_ (some 20) rfl rfl Tryd.func10 (by kernel_rfl) rfl #[.string (⟨#[57, 32, 112, 97, 116, 104, 61, 97, 10, 54, 32, 107, 61, 10]⟩ : ByteArray)] rfl (by (try simp only [List.map_toArray, List.map_cons, List.map_nil]); first | done | rfl | (simp only [List.length_drop, List.length_take]; rfl)) ?_; (with_reducible refine (pax_Get.calls (⟨#[57, 32, 112, 97, 116, 104, 61, 97, 10, 54, 32, 107, 61, 10]⟩ : ByteArray) t188 t189 t190 _ ?side1 A3.out).mono ?_); (case side1 => exact GW.below HG.out (by repeat (first | (with_reducible first | exact HB.out | apply below_alloc | apply pw_below_drewN | apply below_drew1) | exact HB.out))); rintro e w14 ⟨v191, rfl, ho0, hb⟩; refine ⟨_, rfl, ?_⟩; have n0_ := Aside0.mk (Kd.R_elder' (by (with_reducible repeat (first | apply Kd.R_alloc | apply Kd.R_drewN | apply Kd.R_drew)); exact HO187.out) (Kd.R_base ho0) hb); have n1_ := Aside0.mk (Kd.R_lower (Kd.R_new' ho0 (Kd.R_lt (by (with_reducible repeat (first | apply Kd.R_alloc | apply Kd.R_drewN | apply Kd.R_drew)); exact HO187.out))) (below_size (by repeat (first | (with_reducible first | exact HB.out | apply below_alloc | apply pw_below_drewN | apply below_drew1) | exact HB.out)))); have n2_ := Aside0.mk (below_step (by repeat (first | (with_reducible first | exact HB.out | apply below_alloc | apply pw_below_drewN | apply below_drew1) | exact HB.out)) hb); clear HO187; clear HB; have HO187 := n0_; have HO192 := n1_; have HB := n2_; clear n0_ n1_ n2_; (try clear hb); (try clear hb2); (try clear hk); (try clear hi); (try clear ho0); obtain ⟨Ao15, co15, eo15⟩ := Kd.R_slice HO187.out; subst eo15) | (go_at_call 14; (with_reducible refine (pax_Size.calls (⟨#[107]⟩ : ByteArray) (⟨#[]⟩ : ByteArray) t193 _ A11.out).mono ?_); rintro e w16 ⟨rfl, hb⟩; have n0_ := Aside0.mk (Kd.R_below (by (with_reducible repeat (first | apply Kd.R_alloc | apply Kd.R_drewN | apply Kd.R_drew)); exact HO187.out) hb); have n1_ := Aside0.mk (Kd.R_below (by (with_reducible repeat (first | apply Kd.R_alloc | apply Kd.R_drewN | apply Kd.R_drew)); exact HO192.out) hb); have n2_ := Aside0.mk (below_step (by repeat (first | (with_reducible first | exact HB.out | apply below_alloc | apply pw_below_drewN | apply below_drew1) | exact HB.out)) hb); clear HO187; clear HO192; clear HB; have HO187 := n0_; have HO192 := n1_; have HB := n2_; clear n0_ n1_ n2_; (try clear hb); (try clear hb2); (try clear hk); (try clear hi)))
                go_ret
                exact ⟨by first | rfl | (simp [errW_none, errW_some] <;> rfl) | (simp [*, errW_none, errW_some] <;> rfl), by repeat (first | (with_reducible first | exact HB.out | apply below_alloc | apply pw_below_drewN | apply below_drew1) | exact HB.out)⟩
              · rw [if_neg c10] at H
                have c10b0 : (t190 == 90) = false := beq_eq_false_iff_ne.mpr c10
                have c10b1 : (t190 != 90) = true := bne_iff_ne.mpr c10
                obtain rfl := Option.some.inj H
                go_enter Tryd.func9, Tryd.ntmps9
                go_wp2_with (first | ((with_reducible refine gate_callee (f := 15) rfl ?_); refine goesL_ (some 11) rfl rfl Tryd.func15 (by kernel_rfl) rfl #[.agg #[.string (⟨#[112, 97, 116, 104]⟩ : ByteArray), .string (⟨#[97]⟩ : ByteArray)]] rfl (by (try simp only [List.map_toArray, List.map_cons, List.map_nil]); first | done | rfl | (simp only [List.length_drop, List.length_take]; rfl)) ?_; (with_reducible refine (pax_One.calls (⟨#[112, 97, 116, 104]⟩ : ByteArray) (⟨#[97]⟩ : ByteArray) t181 t182 _ A1.out).mono ?_); rintro e w17 ⟨rfl, hb⟩; refine ⟨_, rfl, ?_⟩; have n0_ := Aside0.mk (below_step (by repeat (first | (with_reducible first | exact HB.out | apply below_alloc | apply pw_below_drewN | apply below_drew1) | exact HB.out)) hb); clear HB; have HB := n0_; clear n0_; (try clear hb); (try clear hb2); (try clear hk); (try clear hi)) | ((with_reducible refine gate_callee (f := 10) rfl ?_); refine goesL_ (some 15) rfl rfl Tryd.func10 (by kernel_rfl) rfl #[.string (⟨#[57, 32, 112, 97, 116, 104, 61, 97, 10, 53, 32, 107, 61, 10]⟩ : ByteArray)] rfl (by (try simp only [List.map_toArray, List.map_cons, List.map_nil]); first | done | rfl | (simp only [List.length_drop, List.length_take]; rfl)) ?_; (with_reducible refine (pax_Get.calls (⟨#[57, 32, 112, 97, 116, 104, 61, 97, 10, 53, 32, 107, 61, 10]⟩ : ByteArray) t183 t184 t185 _ ?side1 A2.out).mono ?_); (case side1 => exact GW.below HG.out (by repeat (first | (with_reducible first | exact HB.out | apply below_alloc | apply pw_below_drewN | apply below_drew1) | exact HB.out))); rintro e w18 ⟨v186, rfl, ho0, hb⟩; refine ⟨_, rfl, ?_⟩; have n0_ := Aside0.mk (Kd.R_lower ho0 (below_size (by repeat (first | (with_reducible first | exact HB.out | apply below_alloc | apply pw_below_drewN | apply below_drew1) | exact HB.out)))); have n1_ := Aside0.mk (below_step (by repeat (first | (with_reducible first | exact HB.out | apply below_alloc | apply pw_below_drewN | apply below_drew1) | exact HB.out)) hb); clear HB; have HO187 := n0_; have HB := n1_; clear n0_ n1_; (try clear hb); (try clear hb2); (try clear hk); (try clear hi); (try clear ho0)) | ((with_reducible refine gate_callee (f := 10) rfl ?_); refine goesL_ (some 20) rfl rfl Tryd.func10 (by kernel_rfl) rfl #[.string (⟨#[57, 32, 112, 97, 116, 104, 61, 97, 10, 54, 32, 107, 61, 10]⟩ : ByteArray)] rfl (by (try simp only [List.map_toArray, List.map_cons, List.map_nil]); first | done | rfl | (simp only [List.length_drop, List.length_take]; rfl)) ?_; (with_reducible refine (pax_Get.calls (⟨#[57, 32, 112, 97, 116, 104, 61, 97, 10, 54, 32, 107, 61, 10]⟩ : ByteArray) t188 t189 t190 _ ?side1 A3.out).mono ?_); (case side1 => exact GW.below HG.out (by repeat (first | (with_reducible first | exact HB.out | apply below_alloc | apply pw_below_drewN | apply below_drew1) | exact HB.out))); rintro e w19 ⟨v191, rfl, ho0, hb⟩; refine ⟨_, rfl, ?_⟩; have n0_ := Aside0.mk (Kd.R_elder' (by (with_reducible repeat (first | apply Kd.R_alloc | apply Kd.R_drewN | apply Kd.R_drew)); exact HO187.out) (Kd.R_base ho0) hb); have n1_ := Aside0.mk (Kd.R_lower (Kd.R_new' ho0 (Kd.R_lt (by (with_reducible repeat (first | apply Kd.R_alloc | apply Kd.R_drewN | apply Kd.R_drew)); exact HO187.out))) (below_size (by repeat (first | (with_reducible first | exact HB.out | apply below_alloc | apply pw_below_drewN | apply below_drew1) | exact HB.out)))); have n2_ := Aside0.mk (below_step (by repeat (first | (with_reducible first | exact HB.out | apply below_alloc | apply pw_below_drewN | apply below_drew1) | exact HB.out)) hb); clear HO187; clear HB; have HO187 := n0_; have HO192 := n1_; have HB := n2_; clear n0_ n1_ n2_; (try clear hb); (try clear hb2); (try clear hk); (try clear hi); (try clear ho0); obtain ⟨Ao20, co20, eo20⟩ := Kd.R_slice HO187.out; subst eo20))
                go_ret
                exact ⟨by first | rfl | (simp [errW_none, errW_some] <;> rfl) | (simp [*, errW_none, errW_some] <;> rfl), by repeat (first | (with_reducible first | exact HB.out | apply below_alloc | apply pw_below_drewN | apply below_drew1) | exact HB.out)⟩
            · rw [if_neg c9] at H
              have c9b0 : (t189 == 9) = false := beq_eq_false_iff_ne.mpr c9
              have c9b1 : (t189 != 9) = true := bne_iff_ne.mpr c9
              obtain rfl := Option.some.inj H
              go_enter Tryd.func9, Tryd.ntmps9
              go_wp2_with (first | ((with_reducible refine gate_callee (f := 15) rfl ?_); refine goesL_ (some 11) rfl rfl Tryd.func15 (by kernel_rfl) rfl #[.agg #[.string (⟨#[112, 97, 116, 104]⟩ : ByteArray), .string (⟨#[97]⟩ : ByteArray)]] rfl (by (try simp only [List.map_toArray, List.map_cons, List.map_nil]); first | done | rfl | (simp only [List.length_drop, List.length_take]; rfl)) ?_; (with_reducible refine (pax_One.calls (⟨#[112, 97, 116, 104]⟩ : ByteArray) (⟨#[97]⟩ : ByteArray) t181 t182 _ A1.out).mono ?_); rintro e w21 ⟨rfl, hb⟩; refine ⟨_, rfl, ?_⟩; have n0_ := Aside0.mk (below_step (by repeat (first | (with_reducible first | exact HB.out | apply below_alloc | apply pw_below_drewN | apply below_drew1) | exact HB.out)) hb); clear HB; have HB := n0_; clear n0_; (try clear hb); (try clear hb2); (try clear hk); (try clear hi)) | ((with_reducible refine gate_callee (f := 10) rfl ?_); refine goesL_ (some 15) rfl rfl Tryd.func10 (by kernel_rfl) rfl #[.string (⟨#[57, 32, 112, 97, 116, 104, 61, 97, 10, 53, 32, 107, 61, 10]⟩ : ByteArray)] rfl (by (try simp only [List.map_toArray, List.map_cons, List.map_nil]); first | done | rfl | (simp only [List.length_drop, List.length_take]; rfl)) ?_; (with_reducible refine (pax_Get.calls (⟨#[57, 32, 112, 97, 116, 104, 61, 97, 10, 53, 32, 107, 61, 10]⟩ : ByteArray) t183 t184 t185 _ ?side1 A2.out).mono ?_); (case side1 => exact GW.below HG.out (by repeat (first | (with_reducible first | exact HB.out | apply below_alloc | apply pw_below_drewN | apply below_drew1) | exact HB.out))); rintro e w22 ⟨v186, rfl, ho0, hb⟩; refine ⟨_, rfl, ?_⟩; have n0_ := Aside0.mk (Kd.R_lower ho0 (below_size (by repeat (first | (with_reducible first | exact HB.out | apply below_alloc | apply pw_below_drewN | apply below_drew1) | exact HB.out)))); have n1_ := Aside0.mk (below_step (by repeat (first | (with_reducible first | exact HB.out | apply below_alloc | apply pw_below_drewN | apply below_drew1) | exact HB.out)) hb); clear HB; have HO187 := n0_; have HB := n1_; clear n0_ n1_; (try clear hb); (try clear hb2); (try clear hk); (try clear hi); (try clear ho0)) | ((with_reducible refine gate_callee (f := 10) rfl ?_); refine goesL_ (some 20) rfl rfl Tryd.func10 (by kernel_rfl) rfl #[.string (⟨#[57, 32, 112, 97, 116, 104, 61, 97, 10, 54, 32, 107, 61, 10]⟩ : ByteArray)] rfl (by (try simp only [List.map_toArray, List.map_cons, List.map_nil]); first | done | rfl | (simp only [List.length_drop, List.length_take]; rfl)) ?_; (with_reducible refine (pax_Get.calls (⟨#[57, 32, 112, 97, 116, 104, 61, 97, 10, 54, 32, 107, 61, 10]⟩ : ByteArray) t188 t189 t190 _ ?side1 A3.out).mono ?_); (case side1 => exact GW.below HG.out (by repeat (first | (with_reducible first | exact HB.out | apply below_alloc | apply pw_below_drewN | apply below_drew1) | exact HB.out))); rintro e w23 ⟨v191, rfl, ho0, hb⟩; refine ⟨_, rfl, ?_⟩; have n0_ := Aside0.mk (Kd.R_elder' (by (with_reducible repeat (first | apply Kd.R_alloc | apply Kd.R_drewN | apply Kd.R_drew)); exact HO187.out) (Kd.R_base ho0) hb); have n1_ := Aside0.mk (Kd.R_lower (Kd.R_new' ho0 (Kd.R_lt (by (with_reducible repeat (first | apply Kd.R_alloc | apply Kd.R_drewN | apply Kd.R_drew)); exact HO187.out))) (below_size (by repeat (first | (with_reducible first | exact HB.out | apply below_alloc | apply pw_below_drewN | apply below_drew1) | exact HB.out)))); have n2_ := Aside0.mk (below_step (by repeat (first | (with_reducible first | exact HB.out | apply below_alloc | apply pw_below_drewN | apply below_drew1) | exact HB.out)) hb); clear HO187; clear HB; have HO187 := n0_; have HO192 := n1_; have HB := n2_; clear n0_ n1_ n2_; (try clear hb); (try clear hb2); (try clear hk); (try clear hi); (try clear ho0); obtain ⟨Ao24, co24, eo24⟩ := Kd.R_slice HO187.out; subst eo24))
              go_ret
              exact ⟨by first | rfl | (simp [errW_none, errW_some] <;> rfl) | (simp [*, errW_none, errW_some] <;> rfl), by repeat (first | (with_reducible first | exact HB.out | apply below_alloc | apply pw_below_drewN | apply below_drew1) | exact HB.out)⟩
          · rw [if_neg c8] at H
            have c8b0 : (t185 == 0) = false := beq_eq_false_iff_ne.mpr c8
            have c8b1 : (t185 != 0) = true := bne_iff_ne.mpr c8
            obtain rfl := Option.some.inj H
            go_enter Tryd.func9, Tryd.ntmps9
            go_wp2_with (first | ((with_reducible refine gate_callee (f := 15) rfl ?_); refine goesL_ (some 11) rfl rfl Tryd.func15 (by kernel_rfl) rfl #[.agg #[.string (⟨#[112, 97, 116, 104]⟩ : ByteArray), .string (⟨#[97]⟩ : ByteArray)]] rfl (by (try simp only [List.map_toArray, List.map_cons, List.map_nil]); first | done | rfl | (simp only [List.length_drop, List.length_take]; rfl)) ?_; (with_reducible refine (pax_One.calls (⟨#[112, 97, 116, 104]⟩ : ByteArray) (⟨#[97]⟩ : ByteArray) t181 t182 _ A1.out).mono ?_); rintro e w25 ⟨rfl, hb⟩; refine ⟨_, rfl, ?_⟩; have n0_ := Aside0.mk (below_step (by repeat (first | (with_reducible first | exact HB.out | apply below_alloc | apply pw_below_drewN | apply below_drew1) | exact HB.out)) hb); clear HB; have HB := n0_; clear n0_; (try clear hb); (try clear hb2); (try clear hk); (try clear hi)) | ((with_reducible refine gate_callee (f := 10) rfl ?_); refine goesL_ (some 15) rfl rfl Tryd.func10 (by kernel_rfl) rfl #[.string (⟨#[57, 32, 112, 97, 116, 104, 61, 97, 10, 53, 32, 107, 61, 10]⟩ : ByteArray)] rfl (by (try simp only [List.map_toArray, List.map_cons, List.map_nil]); first | done | rfl | (simp only [List.length_drop, List.length_take]; rfl)) ?_; (with_reducible refine (pax_Get.calls (⟨#[57, 32, 112, 97, 116, 104, 61, 97, 10, 53, 32, 107, 61, 10]⟩ : ByteArray) t183 t184 t185 _ ?side1 A2.out).mono ?_); (case side1 => exact GW.below HG.out (by repeat (first | (with_reducible first | exact HB.out | apply below_alloc | apply pw_below_drewN | apply below_drew1) | exact HB.out))); rintro e w26 ⟨v186, rfl, ho0, hb⟩; refine ⟨_, rfl, ?_⟩; have n0_ := Aside0.mk (Kd.R_lower ho0 (below_size (by repeat (first | (with_reducible first | exact HB.out | apply below_alloc | apply pw_below_drewN | apply below_drew1) | exact HB.out)))); have n1_ := Aside0.mk (below_step (by repeat (first | (with_reducible first | exact HB.out | apply below_alloc | apply pw_below_drewN | apply below_drew1) | exact HB.out)) hb); clear HB; have HO187 := n0_; have HB := n1_; clear n0_ n1_; (try clear hb); (try clear hb2); (try clear hk); (try clear hi); (try clear ho0)) | ((with_reducible refine gate_callee (f := 10) rfl ?_); refine goesL_ (some 20) rfl rfl Tryd.func10 (by kernel_rfl) rfl #[.string (⟨#[57, 32, 112, 97, 116, 104, 61, 97, 10, 54, 32, 107, 61, 10]⟩ : ByteArray)] rfl (by (try simp only [List.map_toArray, List.map_cons, List.map_nil]); first | done | rfl | (simp only [List.length_drop, List.length_take]; rfl)) ?_; (with_reducible refine (pax_Get.calls (⟨#[57, 32, 112, 97, 116, 104, 61, 97, 10, 54, 32, 107, 61, 10]⟩ : ByteArray) t188 t189 t190 _ ?side1 A3.out).mono ?_); (case side1 => exact GW.below HG.out (by repeat (first | (with_reducible first | exact HB.out | apply below_alloc | apply pw_below_drewN | apply below_drew1) | exact HB.out))); rintro e w27 ⟨v191, rfl, ho0, hb⟩; refine ⟨_, rfl, ?_⟩; have n0_ := Aside0.mk (Kd.R_elder' (by (with_reducible repeat (first | apply Kd.R_alloc | apply Kd.R_drewN | apply Kd.R_drew)); exact HO187.out) (Kd.R_base ho0) hb); have n1_ := Aside0.mk (Kd.R_lower (Kd.R_new' ho0 (Kd.R_lt (by (with_reducible repeat (first | apply Kd.R_alloc | apply Kd.R_drewN | apply Kd.R_drew)); exact HO187.out))) (below_size (by repeat (first | (with_reducible first | exact HB.out | apply below_alloc | apply pw_below_drewN | apply below_drew1) | exact HB.out)))); have n2_ := Aside0.mk (below_step (by repeat (first | (with_reducible first | exact HB.out | apply below_alloc | apply pw_below_drewN | apply below_drew1) | exact HB.out)) hb); clear HO187; clear HB; have HO187 := n0_; have HO192 := n1_; have HB := n2_; clear n0_ n1_ n2_; (try clear hb); (try clear hb2); (try clear hk); (try clear hi); (try clear ho0); obtain ⟨Ao28, co28, eo28⟩ := Kd.R_slice HO187.out; subst eo28))
            go_ret
            exact ⟨by first | rfl | (simp [errW_none, errW_some] <;> rfl) | (simp [*, errW_none, errW_some] <;> rfl), by repeat (first | (with_reducible first | exact HB.out | apply below_alloc | apply pw_below_drewN | apply below_drew1) | exact HB.out)⟩
        · rw [if_neg c7] at H
          have c7b0 : (t184 == 0) = false := beq_eq_false_iff_ne.mpr c7
          have c7b1 : (t184 != 0) = true := bne_iff_ne.mpr c7
          obtain rfl := Option.some.inj H
          go_enter Tryd.func9, Tryd.ntmps9
          go_wp2_with (first | ((with_reducible refine gate_callee (f := 15) rfl ?_); refine goesL_ (some 11) rfl rfl Tryd.func15 (by kernel_rfl) rfl #[.agg #[.string (⟨#[112, 97, 116, 104]⟩ : ByteArray), .string (⟨#[97]⟩ : ByteArray)]] rfl (by (try simp only [List.map_toArray, List.map_cons, List.map_nil]); first | done | rfl | (simp only [List.length_drop, List.length_take]; rfl)) ?_; (with_reducible refine (pax_One.calls (⟨#[112, 97, 116, 104]⟩ : ByteArray) (⟨#[97]⟩ : ByteArray) t181 t182 _ A1.out).mono ?_); rintro e w29 ⟨rfl, hb⟩; refine ⟨_, rfl, ?_⟩; have n0_ := Aside0.mk (below_step (by repeat (first | (with_reducible first | exact HB.out | apply below_alloc | apply pw_below_drewN | apply below_drew1) | exact HB.out)) hb); clear HB; have HB := n0_; clear n0_; (try clear hb); (try clear hb2); (try clear hk); (try clear hi)) | ((with_reducible refine gate_callee (f := 10) rfl ?_); refine goesL_ (some 15) rfl rfl Tryd.func10 (by kernel_rfl) rfl #[.string (⟨#[57, 32, 112, 97, 116, 104, 61, 97, 10, 53, 32, 107, 61, 10]⟩ : ByteArray)] rfl (by (try simp only [List.map_toArray, List.map_cons, List.map_nil]); first | done | rfl | (simp only [List.length_drop, List.length_take]; rfl)) ?_; (with_reducible refine (pax_Get.calls (⟨#[57, 32, 112, 97, 116, 104, 61, 97, 10, 53, 32, 107, 61, 10]⟩ : ByteArray) t183 t184 t185 _ ?side1 A2.out).mono ?_); (case side1 => exact GW.below HG.out (by repeat (first | (with_reducible first | exact HB.out | apply below_alloc | apply pw_below_drewN | apply below_drew1) | exact HB.out))); rintro e w30 ⟨v186, rfl, ho0, hb⟩; refine ⟨_, rfl, ?_⟩; have n0_ := Aside0.mk (Kd.R_lower ho0 (below_size (by repeat (first | (with_reducible first | exact HB.out | apply below_alloc | apply pw_below_drewN | apply below_drew1) | exact HB.out)))); have n1_ := Aside0.mk (below_step (by repeat (first | (with_reducible first | exact HB.out | apply below_alloc | apply pw_below_drewN | apply below_drew1) | exact HB.out)) hb); clear HB; have HO187 := n0_; have HB := n1_; clear n0_ n1_; (try clear hb); (try clear hb2); (try clear hk); (try clear hi); (try clear ho0)) | ((with_reducible refine gate_callee (f := 10) rfl ?_); refine goesL_ (some 20) rfl rfl Tryd.func10 (by kernel_rfl) rfl #[.string (⟨#[57, 32, 112, 97, 116, 104, 61, 97, 10, 54, 32, 107, 61, 10]⟩ : ByteArray)] rfl (by (try simp only [List.map_toArray, List.map_cons, List.map_nil]); first | done | rfl | (simp only [List.length_drop, List.length_take]; rfl)) ?_; (with_reducible refine (pax_Get.calls (⟨#[57, 32, 112, 97, 116, 104, 61, 97, 10, 54, 32, 107, 61, 10]⟩ : ByteArray) t188 t189 t190 _ ?side1 A3.out).mono ?_); (case side1 => exact GW.below HG.out (by repeat (first | (with_reducible first | exact HB.out | apply below_alloc | apply pw_below_drewN | apply below_drew1) | exact HB.out))); rintro e w31 ⟨v191, rfl, ho0, hb⟩; refine ⟨_, rfl, ?_⟩; have n0_ := Aside0.mk (Kd.R_elder' (by (with_reducible repeat (first | apply Kd.R_alloc | apply Kd.R_drewN | apply Kd.R_drew)); exact HO187.out) (Kd.R_base ho0) hb); have n1_ := Aside0.mk (Kd.R_lower (Kd.R_new' ho0 (Kd.R_lt (by (with_reducible repeat (first | apply Kd.R_alloc | apply Kd.R_drewN | apply Kd.R_drew)); exact HO187.out))) (below_size (by repeat (first | (with_reducible first | exact HB.out | apply below_alloc | apply pw_below_drewN | apply below_drew1) | exact HB.out)))); have n2_ := Aside0.mk (below_step (by repeat (first | (with_reducible first | exact HB.out | apply below_alloc | apply pw_below_drewN | apply below_drew1) | exact HB.out)) hb); clear HO187; clear HB; have HO187 := n0_; have HO192 := n1_; have HB := n2_; clear n0_ n1_ n2_; (try clear hb); (try clear hb2); (try clear hk); (try clear hi); (try clear ho0); obtain ⟨Ao32, co32, eo32⟩ := Kd.R_slice HO187.out; subst eo32))
          go_ret
          exact ⟨by first | rfl | (simp [errW_none, errW_some] <;> rfl) | (simp [*, errW_none, errW_some] <;> rfl), by repeat (first | (with_reducible first | exact HB.out | apply below_alloc | apply pw_below_drewN | apply below_drew1) | exact HB.out)⟩
      · rw [if_neg c6] at H
        have c6b0 : ((t183.length : Int) == 2) = false := beq_eq_false_iff_ne.mpr c6
        have c6b1 : ((t183.length : Int) != 2) = true := bne_iff_ne.mpr c6
        obtain rfl := Option.some.inj H
        go_enter Tryd.func9, Tryd.ntmps9
        go_wp2_with (first | ((with_reducible refine gate_callee (f := 15) rfl ?_); refine goesL_ (some 11) rfl rfl Tryd.func15 (by kernel_rfl) rfl #[.agg #[.string (⟨#[112, 97, 116, 104]⟩ : ByteArray), .string (⟨#[97]⟩ : ByteArray)]] rfl (by (try simp only [List.map_toArray, List.map_cons, List.map_nil]); first | done | rfl | (simp only [List.length_drop, List.length_take]; rfl)) ?_; (with_reducible refine (pax_One.calls (⟨#[112, 97, 116, 104]⟩ : ByteArray) (⟨#[97]⟩ : ByteArray) t181 t182 _ A1.out).mono ?_); rintro e w33 ⟨rfl, hb⟩; refine ⟨_, rfl, ?_⟩; have n0_ := Aside0.mk (below_step (by repeat (first | (with_reducible first | exact HB.out | apply below_alloc | apply pw_below_drewN | apply below_drew1) | exact HB.out)) hb); clear HB; have HB := n0_; clear n0_; (try clear hb); (try clear hb2); (try clear hk); (try clear hi)) | ((with_reducible refine gate_callee (f := 10) rfl ?_); refine goesL_ (some 15) rfl rfl Tryd.func10 (by kernel_rfl) rfl #[.string (⟨#[57, 32, 112, 97, 116, 104, 61, 97, 10, 53, 32, 107, 61, 10]⟩ : ByteArray)] rfl (by (try simp only [List.map_toArray, List.map_cons, List.map_nil]); first | done | rfl | (simp only [List.length_drop, List.length_take]; rfl)) ?_; (with_reducible refine (pax_Get.calls (⟨#[57, 32, 112, 97, 116, 104, 61, 97, 10, 53, 32, 107, 61, 10]⟩ : ByteArray) t183 t184 t185 _ ?side1 A2.out).mono ?_); (case side1 => exact GW.below HG.out (by repeat (first | (with_reducible first | exact HB.out | apply below_alloc | apply pw_below_drewN | apply below_drew1) | exact HB.out))); rintro e w34 ⟨v186, rfl, ho0, hb⟩; refine ⟨_, rfl, ?_⟩; have n0_ := Aside0.mk (Kd.R_lower ho0 (below_size (by repeat (first | (with_reducible first | exact HB.out | apply below_alloc | apply pw_below_drewN | apply below_drew1) | exact HB.out)))); have n1_ := Aside0.mk (below_step (by repeat (first | (with_reducible first | exact HB.out | apply below_alloc | apply pw_below_drewN | apply below_drew1) | exact HB.out)) hb); clear HB; have HO187 := n0_; have HB := n1_; clear n0_ n1_; (try clear hb); (try clear hb2); (try clear hk); (try clear hi); (try clear ho0)) | ((with_reducible refine gate_callee (f := 10) rfl ?_); refine goesL_ (some 20) rfl rfl Tryd.func10 (by kernel_rfl) rfl #[.string (⟨#[57, 32, 112, 97, 116, 104, 61, 97, 10, 54, 32, 107, 61, 10]⟩ : ByteArray)] rfl (by (try simp only [List.map_toArray, List.map_cons, List.map_nil]); first | done | rfl | (simp only [List.length_drop, List.length_take]; rfl)) ?_; (with_reducible refine (pax_Get.calls (⟨#[57, 32, 112, 97, 116, 104, 61, 97, 10, 54, 32, 107, 61, 10]⟩ : ByteArray) t188 t189 t190 _ ?side1 A3.out).mono ?_); (case side1 => exact GW.below HG.out (by repeat (first | (with_reducible first | exact HB.out | apply below_alloc | apply pw_below_drewN | apply below_drew1) | exact HB.out))); rintro e w35 ⟨v191, rfl, ho0, hb⟩; refine ⟨_, rfl, ?_⟩; have n0_ := Aside0.mk (Kd.R_elder' (by (with_reducible repeat (first | apply Kd.R_alloc | apply Kd.R_drewN | apply Kd.R_drew)); exact HO187.out) (Kd.R_base ho0) hb); have n1_ := Aside0.mk (Kd.R_lower (Kd.R_new' ho0 (Kd.R_lt (by (with_reducible repeat (first | apply Kd.R_alloc | apply Kd.R_drewN | apply Kd.R_drew)); exact HO187.out))) (below_size (by repeat (first | (with_reducible first | exact HB.out | apply below_alloc | apply pw_below_drewN | apply below_drew1) | exact HB.out)))); have n2_ := Aside0.mk (below_step (by repeat (first | (with_reducible first | exact HB.out | apply below_alloc | apply pw_below_drewN | apply below_drew1) | exact HB.out)) hb); clear HO187; clear HB; have HO187 := n0_; have HO192 := n1_; have HB := n2_; clear n0_ n1_ n2_; (try clear hb); (try clear hb2); (try clear hk); (try clear hi); (try clear ho0); obtain ⟨Ao36, co36, eo36⟩ := Kd.R_slice HO187.out; subst eo36))
        go_ret
        exact ⟨by first | rfl | (simp [errW_none, errW_some] <;> rfl) | (simp [*, errW_none, errW_some] <;> rfl), by repeat (first | (with_reducible first | exact HB.out | apply below_alloc | apply pw_below_drewN | apply below_drew1) | exact HB.out)⟩
    · rw [if_neg c5] at H
      have c5b0 : (t182 == 0) = false := beq_eq_false_iff_ne.mpr c5
      have c5b1 : (t182 != 0) = true := bne_iff_ne.mpr c5
      obtain rfl := Option.some.inj H
      go_enter Tryd.func9, Tryd.ntmps9
      go_wp2_with (first | ((with_reducible refine gate_callee (f := 15) rfl ?_); refine goesL_ (some 11) rfl rfl Tryd.func15 (by kernel_rfl) rfl #[.agg #[.string (⟨#[112, 97, 116, 104]⟩ : ByteArray), .string (⟨#[97]⟩ : ByteArray)]] rfl (by (try simp only [List.map_toArray, List.map_cons, List.map_nil]); first | done | rfl | (simp only [List.length_drop, List.length_take]; rfl)) ?_; (with_reducible refine (pax_One.calls (⟨#[112, 97, 116, 104]⟩ : ByteArray) (⟨#[97]⟩ : ByteArray) t181 t182 _ A1.out).mono ?_); rintro e w37 ⟨rfl, hb⟩; refine ⟨_, rfl, ?_⟩; have n0_ := Aside0.mk (below_step (by repeat (first | (with_reducible first | exact HB.out | apply below_alloc | apply pw_below_drewN | apply below_drew1) | exact HB.out)) hb); clear HB; have HB := n0_; clear n0_; (try clear hb); (try clear hb2); (try clear hk); (try clear hi)) | ((with_reducible refine gate_callee (f := 10) rfl ?_); refine goesL_ (some 15) rfl rfl Tryd.func10 (by kernel_rfl) rfl #[.string (⟨#[57, 32, 112, 97, 116, 104, 61, 97, 10, 53, 32, 107, 61, 10]⟩ : ByteArray)] rfl (by (try simp only [List.map_toArray, List.map_cons, List.map_nil]); first | done | rfl | (simp only [List.length_drop, List.length_take]; rfl)) ?_; (with_reducible refine (pax_Get.calls (⟨#[57, 32, 112, 97, 116, 104, 61, 97, 10, 53, 32, 107, 61, 10]⟩ : ByteArray) t183 t184 t185 _ ?side1 A2.out).mono ?_); (case side1 => exact GW.below HG.out (by repeat (first | (with_reducible first | exact HB.out | apply below_alloc | apply pw_below_drewN | apply below_drew1) | exact HB.out))); rintro e w38 ⟨v186, rfl, ho0, hb⟩; refine ⟨_, rfl, ?_⟩; have n0_ := Aside0.mk (Kd.R_lower ho0 (below_size (by repeat (first | (with_reducible first | exact HB.out | apply below_alloc | apply pw_below_drewN | apply below_drew1) | exact HB.out)))); have n1_ := Aside0.mk (below_step (by repeat (first | (with_reducible first | exact HB.out | apply below_alloc | apply pw_below_drewN | apply below_drew1) | exact HB.out)) hb); clear HB; have HO187 := n0_; have HB := n1_; clear n0_ n1_; (try clear hb); (try clear hb2); (try clear hk); (try clear hi); (try clear ho0)) | ((with_reducible refine gate_callee (f := 10) rfl ?_); refine goesL_ (some 20) rfl rfl Tryd.func10 (by kernel_rfl) rfl #[.string (⟨#[57, 32, 112, 97, 116, 104, 61, 97, 10, 54, 32, 107, 61, 10]⟩ : ByteArray)] rfl (by (try simp only [List.map_toArray, List.map_cons, List.map_nil]); first | done | rfl | (simp only [List.length_drop, List.length_take]; rfl)) ?_; (with_reducible refine (pax_Get.calls (⟨#[57, 32, 112, 97, 116, 104, 61, 97, 10, 54, 32, 107, 61, 10]⟩ : ByteArray) t188 t189 t190 _ ?side1 A3.out).mono ?_); (case side1 => exact GW.below HG.out (by repeat (first | (with_reducible first | exact HB.out | apply below_alloc | apply pw_below_drewN | apply below_drew1) | exact HB.out))); rintro e w39 ⟨v191, rfl, ho0, hb⟩; refine ⟨_, rfl, ?_⟩; have n0_ := Aside0.mk (Kd.R_elder' (by (with_reducible repeat (first | apply Kd.R_alloc | apply Kd.R_drewN | apply Kd.R_drew)); exact HO187.out) (Kd.R_base ho0) hb); have n1_ := Aside0.mk (Kd.R_lower (Kd.R_new' ho0 (Kd.R_lt (by (with_reducible repeat (first | apply Kd.R_alloc | apply Kd.R_drewN | apply Kd.R_drew)); exact HO187.out))) (below_size (by repeat (first | (with_reducible first | exact HB.out | apply below_alloc | apply pw_below_drewN | apply below_drew1) | exact HB.out)))); have n2_ := Aside0.mk (below_step (by repeat (first | (with_reducible first | exact HB.out | apply below_alloc | apply pw_below_drewN | apply below_drew1) | exact HB.out)) hb); clear HO187; clear HB; have HO187 := n0_; have HO192 := n1_; have HB := n2_; clear n0_ n1_ n2_; (try clear hb); (try clear hb2); (try clear hk); (try clear hi); (try clear ho0)))
      go_ret
      exact ⟨by first | rfl | (simp [errW_none, errW_some] <;> rfl) | (simp [*, errW_none, errW_some] <;> rfl), by repeat (first | (with_reducible first | exact HB.out | apply below_alloc | apply pw_below_drewN | apply below_drew1) | exact HB.out)⟩
  · rw [if_neg c4] at H
    have c4b0 : (t181.toList == ([57, 32, 112, 97, 116, 104, 61, 97, 10] : List UInt8)) = false := beq_eq_false_iff_ne.mpr c4
    have c4b1 : (t181.toList != ([57, 32, 112, 97, 116, 104, 61, 97, 10] : List UInt8)) = true := bne_iff_ne.mpr c4
    obtain rfl := Option.some.inj H
    go_enter Tryd.func9, Tryd.ntmps9
    go_wp2_with (first | ((with_reducible refine gate_callee (f := 15) rfl ?_); refine goesL_ (some 11) rfl rfl Tryd.func15 (by kernel_rfl) rfl #[.agg #[.string (⟨#[112, 97, 116, 104]⟩ : ByteArray), .string (⟨#[97]⟩ : ByteArray)]] rfl (by (try simp only [List.map_toArray, List.map_cons, List.map_nil]); first | done | rfl | (simp only [List.length_drop, List.length_take]; rfl)) ?_; (with_reducible refine (pax_One.calls (⟨#[112, 97, 116, 104]⟩ : ByteArray) (⟨#[97]⟩ : ByteArray) t181 t182 _ A1.out).mono ?_); rintro e w40 ⟨rfl, hb⟩; refine ⟨_, rfl, ?_⟩; have n0_ := Aside0.mk (below_step (by repeat (first | (with_reducible first | exact HB.out | apply below_alloc | apply pw_below_drewN | apply below_drew1) | exact HB.out)) hb); clear HB; have HB := n0_; clear n0_; (try clear hb); (try clear hb2); (try clear hk); (try clear hi)) | ((with_reducible refine gate_callee (f := 10) rfl ?_); refine goesL_ (some 15) rfl rfl Tryd.func10 (by kernel_rfl) rfl #[.string (⟨#[57, 32, 112, 97, 116, 104, 61, 97, 10, 53, 32, 107, 61, 10]⟩ : ByteArray)] rfl (by (try simp only [List.map_toArray, List.map_cons, List.map_nil]); first | done | rfl | (simp only [List.length_drop, List.length_take]; rfl)) ?_; (with_reducible refine (pax_Get.calls (⟨#[57, 32, 112, 97, 116, 104, 61, 97, 10, 53, 32, 107, 61, 10]⟩ : ByteArray) t183 t184 t185 _ ?side1 A2.out).mono ?_); (case side1 => exact GW.below HG.out (by repeat (first | (with_reducible first | exact HB.out | apply below_alloc | apply pw_below_drewN | apply below_drew1) | exact HB.out))); rintro e w41 ⟨v186, rfl, ho0, hb⟩; refine ⟨_, rfl, ?_⟩; have n0_ := Aside0.mk (Kd.R_lower ho0 (below_size (by repeat (first | (with_reducible first | exact HB.out | apply below_alloc | apply pw_below_drewN | apply below_drew1) | exact HB.out)))); have n1_ := Aside0.mk (below_step (by repeat (first | (with_reducible first | exact HB.out | apply below_alloc | apply pw_below_drewN | apply below_drew1) | exact HB.out)) hb); clear HB; have HO187 := n0_; have HB := n1_; clear n0_ n1_; (try clear hb); (try clear hb2); (try clear hk); (try clear hi); (try clear ho0)) | ((with_reducible refine gate_callee (f := 10) rfl ?_); refine goesL_ (some 20) rfl rfl Tryd.func10 (by kernel_rfl) rfl #[.string (⟨#[57, 32, 112, 97, 116, 104, 61, 97, 10, 54, 32, 107, 61, 10]⟩ : ByteArray)] rfl (by (try simp only [List.map_toArray, List.map_cons, List.map_nil]); first | done | rfl | (simp only [List.length_drop, List.length_take]; rfl)) ?_; (with_reducible refine (pax_Get.calls (⟨#[57, 32, 112, 97, 116, 104, 61, 97, 10, 54, 32, 107, 61, 10]⟩ : ByteArray) t188 t189 t190 _ ?side1 A3.out).mono ?_); (case side1 => exact GW.below HG.out (by repeat (first | (with_reducible first | exact HB.out | apply below_alloc | apply pw_below_drewN | apply below_drew1) | exact HB.out))); rintro e w42 ⟨v191, rfl, ho0, hb⟩; refine ⟨_, rfl, ?_⟩; have n0_ := Aside0.mk (Kd.R_elder' (by (with_reducible repeat (first | apply Kd.R_alloc | apply Kd.R_drewN | apply Kd.R_drew)); exact HO187.out) (Kd.R_base ho0) hb); have n1_ := Aside0.mk (Kd.R_lower (Kd.R_new' ho0 (Kd.R_lt (by (with_reducible repeat (first | apply Kd.R_alloc | apply Kd.R_drewN | apply Kd.R_drew)); exact HO187.out))) (below_size (by repeat (first | (with_reducible first | exact HB.out | apply below_alloc | apply pw_below_drewN | apply below_drew1) | exact HB.out)))); have n2_ := Aside0.mk (below_step (by repeat (first | (with_reducible first | exact HB.out | apply below_alloc | apply pw_below_drewN | apply below_drew1) | exact HB.out)) hb); clear HO187; clear HB; have HO187 := n0_; have HO192 := n1_; have HB := n2_; clear n0_ n1_ n2_; (try clear hb); (try clear hb2); (try clear hk); (try clear hi); (try clear ho0)))
    go_ret
    exact ⟨by first | rfl | (simp [errW_none, errW_some] <;> rfl) | (simp [*, errW_none, errW_some] <;> rfl), by repeat (first | (with_reducible first | exact HB.out | apply below_alloc | apply pw_below_drewN | apply below_drew1) | exact HB.out)⟩

end Go.Proofs.YtbcjhmeeonhmaaaDoor.M
end

/-
The law's examples.
-/
section
set_option linter.unusedVariables false
set_option maxRecDepth 100000
namespace Go.Proofs.YtbcjhmeeonhmaaaDoor.H
open Go Go.RowKit Go.Proofs.YtbcjhmeeonhmaaaDoorW.PrintWords Go.Proofs.YtbcjhmeeonhmaaaDoorW.PrintMore Go.Proofs.YtbcjhmeeonhmaaaDoor.M

/-- Digits by rounds: what the kernel can reckon. -/
def dgcF : Nat → Nat → Nat → List Int
  | 0, b, n => [chr (n % b)]
  | k + 1, b, n => if n / b = 0 ∨ b < 2 then [chr (n % b)] else chr (n % b) :: dgcF k b (n / b)
theorem dgcF_eq (b : Nat) : ∀ (k n : Nat), n ≤ k → dgc b n = dgcF k b n
  | 0, n, h => by
    obtain rfl : n = 0 := by omega
    rw [dgc_stop (by simp)]; rfl
  | k + 1, n, h => by
    unfold dgcF
    by_cases hc : n / b = 0 ∨ b < 2
    · rw [if_pos hc]
      rw [dgc, dif_pos hc]
    · rw [if_neg hc, dgc_more (by omega) (by omega)]
      rw [dgcF_eq b k (n / b) (by have := Nat.div_lt_self (n := n) (k := b) (by rcases Nat.eq_zero_or_pos n with h0 | h0; (subst h0; simp at hc); exact h0) (by omega); omega)]
def putF (b n : Nat) : ByteArray := strOfNums (dgcF n b n).reverse
theorem putS_eq : putS = putF := by
  funext b n
  unfold putS putF
  rw [dgcF_eq b n n (Nat.le_refl _)]
theorem sh1 : oneS ⟨#[112, 97, 116, 104]⟩ ⟨#[97]⟩ = (⟨#[57, 32, 112, 97, 116, 104, 61, 97, 10]⟩, 0) := by
  simp only [oneS, szL, dgl, putS_eq]; decide +kernel
theorem sh2 : oneS ⟨#[107]⟩ ⟨#[]⟩ = (⟨#[53, 32, 107, 61, 10]⟩, 0) := by
  simp only [oneS, szL, dgl, putS_eq]; decide +kernel
theorem sh3 : firstS ⟨#[57, 32, 112, 97, 116, 104, 61, 97, 10, 53, 32, 107, 61, 10]⟩ = some (⟨#[112, 97, 116, 104]⟩, ⟨#[97]⟩, 9) := by
  simp only [firstS, ownC, oneS, szL, dgl, putS_eq]; decide +kernel
theorem sh4 : firstS ⟨#[53, 32, 107, 61, 10]⟩ = some (⟨#[107]⟩, ⟨#[]⟩, 5) := by
  simp only [firstS, ownC, oneS, szL, dgl, putS_eq]; decide +kernel
theorem sh5 : firstS ⟨#[57, 32, 112, 97, 116, 104, 61, 97, 10, 54, 32, 107, 61, 10]⟩ = some (⟨#[112, 97, 116, 104]⟩, ⟨#[97]⟩, 9) := by
  simp only [firstS, ownC, oneS, szL, dgl, putS_eq]; decide +kernel
theorem sh6 : firstS ⟨#[54, 32, 107, 61, 10]⟩ = none := by
  simp only [firstS, ownC, oneS, szL, dgl, putS_eq]; decide +kernel
theorem sg1 : getsS ⟨#[57, 32, 112, 97, 116, 104, 61, 97, 10, 53, 32, 107, 61, 10]⟩ = ([⟨⟨#[112, 97, 116, 104]⟩, ⟨#[97]⟩⟩, ⟨⟨#[107]⟩, ⟨#[]⟩⟩], 0, 0) := by
  have r1 := Rec.snoc (.nil ⟨#[57, 32, 112, 97, 116, 104, 61, 97, 10, 53, 32, 107, 61, 10]⟩) (by decide) sh3 ⟨by decide, by simp⟩
  have e1 : (⟨#[57, 32, 112, 97, 116, 104, 61, 97, 10, 53, 32, 107, 61, 10]⟩ : ByteArray).extract 9 (⟨#[57, 32, 112, 97, 116, 104, 61, 97, 10, 53, 32, 107, 61, 10]⟩ : ByteArray).size = ⟨#[53, 32, 107, 61, 10]⟩ := by decide
  rw [e1] at r1
  have r2 := Rec.snoc r1 (by decide) sh4 ⟨by decide, by decide⟩
  have e2 : (⟨#[53, 32, 107, 61, 10]⟩ : ByteArray).extract 5 (⟨#[53, 32, 107, 61, 10]⟩ : ByteArray).size = ⟨#[]⟩ := by decide
  rw [e2] at r2
  exact getsS_done r2 rfl
theorem sg2 : getsS ⟨#[57, 32, 112, 97, 116, 104, 61, 97, 10, 54, 32, 107, 61, 10]⟩ = ([], 9, 90) := by
  have r1 := Rec.snoc (.nil ⟨#[57, 32, 112, 97, 116, 104, 61, 97, 10, 54, 32, 107, 61, 10]⟩) (by decide) sh5 ⟨by decide, by simp⟩
  have e1 : (⟨#[57, 32, 112, 97, 116, 104, 61, 97, 10, 54, 32, 107, 61, 10]⟩ : ByteArray).extract 9 (⟨#[57, 32, 112, 97, 116, 104, 61, 97, 10, 54, 32, 107, 61, 10]⟩ : ByteArray).size = ⟨#[54, 32, 107, 61, 10]⟩ := by decide
  rw [e1] at r1
  exact getsS_bad r1 ⟨by decide, .inl sh6⟩
theorem size_f (n v : ByteArray) : pax_Size.f n v = some ((oneS n v).1.size : Int) := by
  unfold pax_Size.f pax_One.f; rfl
theorem shown_f : pleacherlaw09_shown.f = some true := by
  unfold pleacherlaw09_shown.f pax_One.f pax_Get.f
  rw [if_pos (by decide), if_pos (by decide), sh1, sg1, sg2]
  simp only [Option.bind_some, size_f, sh2, toList_data]
  decide
end Go.Proofs.YtbcjhmeeonhmaaaDoor.H
end

-- Laid by a program of this session for this claim.
section
namespace Go.Proofs.YtbcjhmeeonhmaaaDoor.M
open Go.RowKit Go.Proofs.YtbcjhmeeonhmaaaDoorW.PrintWords Go.Proofs.YtbcjhmeeonhmaaaDoorW.PrintLast Go.Proofs.YtbcjhmeeonhmaaaDoorW.PrintMore
attribute [local go_sem] max2_int min2_int max_two min_two max_three min_three max_four min_four   -- for this text's walks alone
set_option linter.unusedVariables false
set_option linter.unusedSimpArgs false

/-! ### pleacherlaw09_one: function 27 -/
end Go.Proofs.YtbcjhmeeonhmaaaDoor.M
end

-- Laid by a program of this session for this claim.
section
namespace Go.Proofs.YtbcjhmeeonhmaaaDoor.M
open Go.RowKit Go.Proofs.YtbcjhmeeonhmaaaDoorW.PrintWords Go.Proofs.YtbcjhmeeonhmaaaDoorW.PrintLast Go.Proofs.YtbcjhmeeonhmaaaDoorW.PrintMore
attribute [local go_sem] max2_int min2_int max_two min_two max_three min_three max_four min_four   -- for this text's walks alone
set_option linter.unusedVariables false
set_option linter.unusedSimpArgs false

/-! ### pleacherlaw09_Few: function 16 -/
end Go.Proofs.YtbcjhmeeonhmaaaDoor.M
end

-- Laid by a program of this session for this claim.
section
namespace Go.Proofs.YtbcjhmeeonhmaaaDoor.M
open Go.RowKit Go.Proofs.YtbcjhmeeonhmaaaDoorW.PrintWords Go.Proofs.YtbcjhmeeonhmaaaDoorW.PrintLast Go.Proofs.YtbcjhmeeonhmaaaDoorW.PrintMore
attribute [local go_sem] max2_int min2_int max_two min_two max_three min_three max_four min_four   -- for this text's walks alone
set_option linter.unusedVariables false
set_option linter.unusedSimpArgs false

/-! ### pleacherref09_One: function 19 -/
-- IMPORT Derived.Test.YtbcjhmeeonhmaaaDoorHOneW
end Go.Proofs.YtbcjhmeeonhmaaaDoor.M
end

-- Laid by a program of this session for this claim.
section
namespace Go.Proofs.YtbcjhmeeonhmaaaDoor.M
open Go.RowKit Go.Proofs.YtbcjhmeeonhmaaaDoorW.PrintWords Go.Proofs.YtbcjhmeeonhmaaaDoorW.PrintLast Go.Proofs.YtbcjhmeeonhmaaaDoorW.PrintMore
attribute [local go_sem] max2_int min2_int max_two min_two max_three min_three max_four min_four   -- for this text's walks alone
set_option linter.unusedVariables false
set_option linter.unusedSimpArgs false

/-! ### pleacherref09_Find: function 21 -/
end Go.Proofs.YtbcjhmeeonhmaaaDoor.M
end

-- Laid by a program of this session for this claim.
section
namespace Go.Proofs.YtbcjhmeeonhmaaaDoor.M
open Go.RowKit Go.Proofs.YtbcjhmeeonhmaaaDoorW.PrintWords Go.Proofs.YtbcjhmeeonhmaaaDoorW.PrintLast Go.Proofs.YtbcjhmeeonhmaaaDoorW.PrintMore
attribute [local go_sem] max2_int min2_int max_two min_two max_three min_three max_four min_four   -- for this text's walks alone
set_option linter.unusedVariables false
set_option linter.unusedSimpArgs false

/-! ### pleacherref09_Put: function 18 -/
end Go.Proofs.YtbcjhmeeonhmaaaDoor.M
end

-- Laid by a program of this session for this claim.
section
namespace Go.Proofs.YtbcjhmeeonhmaaaDoor.M
open Go.RowKit Go.Proofs.YtbcjhmeeonhmaaaDoorW.PrintWords Go.Proofs.YtbcjhmeeonhmaaaDoorW.PrintLast Go.Proofs.YtbcjhmeeonhmaaaDoorW.PrintMore
attribute [local go_sem] max2_int min2_int max_two min_two max_three min_three max_four min_four   -- for this text's walks alone
set_option linter.unusedVariables false
set_option linter.unusedSimpArgs false

/-! ### pax_Find: function 20 -/
end Go.Proofs.YtbcjhmeeonhmaaaDoor.M
end

-- Laid by a program of this session for this claim.
section
namespace Go.Proofs.YtbcjhmeeonhmaaaDoor.M
open Go.RowKit Go.Proofs.YtbcjhmeeonhmaaaDoorW.PrintWords Go.Proofs.YtbcjhmeeonhmaaaDoorW.PrintLast Go.Proofs.YtbcjhmeeonhmaaaDoorW.PrintMore
attribute [local go_sem] max2_int min2_int max_two min_two max_three min_three max_four min_four   -- for this text's walks alone
set_option linter.unusedVariables false
set_option linter.unusedSimpArgs false

/-! ### pax_Put: function 17 -/
-- IMPORT Derived.Test.YtbcjhmeeonhmaaaDoorHPaxPut
end Go.Proofs.YtbcjhmeeonhmaaaDoor.M
end

/-
Lists of records: what the law's helpers, pax.Find and the document's Find and Put say.
-/
section
set_option linter.unusedVariables false
set_option maxRecDepth 100000
namespace Go.Proofs.YtbcjhmeeonhmaaaDoor.H
open Go Go.RowKit Go.Proofs.YtbcjhmeeonhmaaaDoorW.PrintWords Go.Proofs.YtbcjhmeeonhmaaaDoorW.PrintMore Go.Proofs.YtbcjhmeeonhmaaaDoor.M

abbrev At := S31
theorem mn_le (x : Int) (k : Int) : mn x k ≤ k ∧ mn x k ≤ x ∧ (mn x k = x ∨ mn x k = k) := by unfold mn; split <;> omega
/-! Put -/
end Go.Proofs.YtbcjhmeeonhmaaaDoor.H
end

/-
What the rows of this seat share: what 'laid' gives a walk, the witness' world, arguments opened.
-/
section
set_option linter.unusedVariables false
set_option maxRecDepth 100000
namespace Go.Proofs.YtbcjhmeeonhmaaaDoor.H
open Go Go.ChangeShapes Go.WideShapes Go.ChangeAt Go.RowKit Go.Proofs.YtbcjhmeeonhmaaaDoorW.PrintWords Go.Proofs.YtbcjhmeeonhmaaaDoorW.PrintMore Go.Proofs.YtbcjhmeeonhmaaaDoor.M

theorem own : ownKnob Tryd.prog.godebug = none := by kernel_rfl
theorem gType : Tryd.prog.globalNamed "errors.errorType" = some 0 := by kernel_rfl
theorem gBase : Tryd.prog.globalNamed "pleacher/num.errBase" = some 1 := by kernel_rfl
theorem gNum : Tryd.prog.globalNamed "pleacher/num.errNum" = some 2 := by kernel_rfl
theorem gBaseT : (Tryd.prog.globals[1]?).map (·.type) = some 45 := by kernel_rfl
theorem gNumT : (Tryd.prog.globals[2]?).map (·.type) = some 45 := by kernel_rfl
theorem rtT : (Tryd.prog.cutTypes.find? (·.1 == "internal/reflectlite.rtype")).map (·.2) = some 124 := by kernel_rfl
theorem sizeT : Tryd.prog.types.size = 211 := by kernel_rfl
theorem oneErr : ((List.range 211).filter fun t => Tryd.prog.rowNamed t [101, 114, 114, 111, 114]) = [45] := by kernel_rfl
theorem laidTwo {W : World} (h : laidMetH Tryd.prog Rows.paxPutsRow.laid W) : laidMet Tryd.prog [("pleacher/num.errBase", Rows.laid_pleacher_num_errBase), ("pleacher/num.errNum", Rows.laid_pleacher_num_errNum)] W ∧ handlesMet Tryd.prog [("errors.errorType", Rows.laid_errors_errorType)] W := h

theorem cellsE : Tryd.prog.cellsOf 199 = 1 := by kernel_rfl
theorem cellsS : Tryd.prog.cellsOf 9 = 1 := by kernel_rfl
theorem starE : "*" ++ "errors.errorString" = "*errors.errorString" := by decide
theorem rowE (u : TypeId) (h : Tryd.prog.typeName? 3 u = some "*errors.errorString") : u = 179 :=
  typeName_ptr_named (nm := "errors.errorString") (by rw [starE]; kernel_rfl) (by kernel_rfl) (by decide) u (by rw [starE]; exact h)
/-- WHAT 'laid' GIVES: the two sentinels, and the type's handle. -/
theorem gw_of_laid {W : World} (h : laidMetH Tryd.prog Rows.paxPutsRow.laid W) : GW W := by
  obtain ⟨h1, h2⟩ := laidTwo h
  obtain ⟨a0, a1, s0, s1, c0, c1, t0, t1, v0, v1, _, _, _, _, _, _, hne, b0, b1⟩ := Go.laid_sentinels2 h1 gBase gBaseT gNum gNumT Tryd.underlying45 rowE Tryd.underlying179 Tryd.underlying199 rfl rfl Tryd.underlying9 cellsE cellsS
  obtain ⟨name, u, ty, e1, e2, e3, e4, e5⟩ := h2 _ (List.mem_singleton.2 rfl)
  have en : name = [101, 114, 114, 111, 114] := (Option.some.inj e1).symm
  subst en
  obtain rfl := Option.some.inj (rtT.symm.trans e2)
  have hm : ty ∈ (List.range 211).filter fun t => Tryd.prog.rowNamed t [101, 114, 114, 111, 114] := List.mem_filter.2 ⟨List.mem_range.2 (by rw [← sizeT]; exact e3), e4⟩
  rw [oneErr] at hm
  obtain rfl := List.mem_singleton.1 hm
  have hh : typeHandle Tryd.prog 45 = .pointer (some ⟨4, 45, none⟩) := by kernel_rfl
  rw [hh] at e5
  exact ⟨a0, a1, c0, c1, t0, t1, by simpa using World.var?_cell gBase v0 0, by simpa using World.var?_cell gNum v1 0, hne, b0, b1, by simpa using World.var?_cell gType e5 0⟩
/-- A WORLD FOR THE WITNESS: as the program's own start lays the three. -/
theorem door_met (os : Os) (args : Array Value) : laidMetH Tryd.prog Rows.paxPutsRow.laid ((World.doorLaid Tryd.prog 54 os).forCall (fun _ _ => 0) ⟨#[], args, []⟩).memory :=
  laidMetH_of_parts (laidMet_of_run' 8 (by kernel_rfl) (by kernel_rfl)) (by kernel_rfl)

theorem cellsA31 : Tryd.prog.cellsOf 31 = 2 := by kernel_rfl
theorem laidOutA : laidOutB Tryd.prog = true := by kernel_rfl
instance : Inhabited At := ⟨z31⟩
/-- POST where nothing below the old heap's end has turned, and 'true' is handed back. -/
theorem post_true {H : Type} {enc : TypeId × Value → H} {f : Func} {s : ChangeSpec} {apart fresh handsOn : Bool} {W W' : World} {args : Array Value} {ds gs : List (DataW H)} {before pa : List MemPlace}
    (hW : DataW.Whole enc Tryd.prog f.params.toList s.vars apart W args.toList ds gs before) (hvars : s.vars = []) (hr : f.resultTypes = #[4])
    (hfn : (s.fn H (ds ++ gs)).results = [.lit (.bool true)] ∧ (s.fn H (ds ++ gs)).args = ds ∧ (s.fn H (ds ++ gs)).vars = [])
    (hargs : DataW.TrodAll enc Tryd.prog W' 0 (fun b => decide (b < W.heap.size)) true f.params.toList args.toList ds pa) (hb : Below W.heap.size W W') (hpa : before = pa) :
    s.post enc Tryd.prog f apart fresh handsOn false W args (.bool true) W' := by
  refine ⟨ds, gs, before, [], pa, [], hW, ?_, ?_, ?_, hb.frame _, fun h => by cases h⟩
  · rw [hr, hfn.1]
    exact trodAll_cons_mk (shut_bool Tryd.underlying4 _) trodAll_mk0
  · rw [hfn.2.1]; exact hargs
  · rw [hvars, hfn.2.2]; rfl

end Go.Proofs.YtbcjhmeeonhmaaaDoor.H
end

/-
Put, told in plain words.
-/
section
set_option linter.unusedVariables false
set_option maxRecDepth 100000
namespace Go.Proofs.YtbcjhmeeonhmaaaDoor.H
open Go Go.RowKit Go.Proofs.YtbcjhmeeonhmaaaDoorW.PrintWords Go.Proofs.YtbcjhmeeonhmaaaDoorW.PrintMore Go.Proofs.YtbcjhmeeonhmaaaDoor.M
theorem nil_toList : (⟨#[]⟩ : ByteArray).toList = [] := (nil_iff _).2 rfl
end Go.Proofs.YtbcjhmeeonhmaaaDoor.H
end

/-
Records and their bytes are one to one: what Put makes, Get reads, and the other way round.
-/
section
set_option linter.unusedVariables false
set_option maxRecDepth 100000
namespace Go.Proofs.YtbcjhmeeonhmaaaDoor.H
open Go Go.RowKit Go.Proofs.YtbcjhmeeonhmaaaDoorW.PrintWords Go.Proofs.YtbcjhmeeonhmaaaDoorW.PrintMore Go.Proofs.YtbcjhmeeonhmaaaDoor.M

theorem data_ext {a b : ByteArray} (h : a.data.toList = b.data.toList) : a = b := ByteArray.ext (Array.toList_inj.1 h)
theorem ext_list (s : ByteArray) (i j : Nat) : (s.extract i j).data.toList = (s.data.toList.drop i).take (j - i) := by simp [List.extract]
theorem app_list (s t : ByteArray) : (s ++ t).data.toList = s.data.toList ++ t.data.toList := by simp
theorem dig_all : ∀ m : Nat, m < 1000 → ownC 10 (putF 10 m) = ((m : Int), 0) ∧ (putF 10 m).size ≤ 5 ∧ (32 : UInt8) ∉ (putF 10 m).data.toList := by decide +kernel
theorem own_put {m : Nat} (h : m < 1000) : ownC 10 (putS 10 m) = ((m : Int), 0) ∧ (putS 10 m).size ≤ 5 ∧ (32 : UInt8) ∉ (putS 10 m).data.toList := by rw [putS_eq]; exact dig_all m h
end Go.Proofs.YtbcjhmeeonhmaaaDoor.H
end

/-
UTF-8 of two texts, put together.
-/
section
set_option linter.unusedVariables false
set_option maxRecDepth 100000
namespace Go.Proofs.YtbcjhmeeonhmaaaDoor.H
open Go Go.RowKit Go.Proofs.YtbcjhmeeonhmaaaDoorW.PrintWords Go.Proofs.YtbcjhmeeonhmaaaDoorW.PrintMore Go.Proofs.YtbcjhmeeonhmaaaDoor.M

theorem bytes_list (s : ByteArray) (i : Nat) (h : i < s.size) : s.data.toList[i]? = some (s[i]'h) := by
  have : i < s.data.toList.length := by rw [size_data]; exact h
  rw [List.getElem?_eq_getElem this]; rfl
theorem bt_app (s t : ByteArray) (i : Nat) (h : i < s.size) : bt (s ++ t) (i : Int) = bt s (i : Int) := by
  have h2 : i < (s ++ t).size := by rw [ByteArray.size_append]; omega
  have e1 := bt_at s (i : Int) (by simpa using h)
  have e2 := bt_at (s ++ t) (i : Int) (by simpa using h2)
  rw [← e1, ← e2]
  have g1 := bytes_list s i h
  have g2 := bytes_list (s ++ t) i h2
  rw [app_list, List.getElem?_append_left (by rw [size_data]; exact h), g1] at g2
  have := Option.some.inj g2
  simp only [Int.toNat_natCast]
  rw [this]
theorem ext_app_l (s t : ByteArray) (i j : Nat) (hj : j ≤ s.size) : (s ++ t).extract i j = s.extract i j := by
  have hs := size_data s
  refine data_ext ?_
  rw [ext_list, ext_list, app_list]
  by_cases h : i ≤ j
  · rw [List.drop_append_of_le_length (by omega), List.take_append_of_le_length (by rw [List.length_drop]; omega)]
  · rw [show j - i = 0 from by omega, List.take_zero, List.take_zero]
theorem decR_app {s : ByteArray} (t : ByteArray) (h : (decR s).2.2 = 0) : decR (s ++ t) = decR s := by
  have hz := ByteArray.size_append (a := s) (b := t)
  unfold decR at h ⊢
  by_cases h0 : s.size = 0
  · rw [if_pos h0] at h; cases h
  · rw [if_neg h0] at h ⊢
    rw [if_neg (by omega)]
    have hb : bt (s ++ t) 0 = bt s 0 := bt_app s t 0 (by omega)
    rw [hb]
    obtain ⟨m, r, hh⟩ := head_some (bt s 0)
    rw [hh] at h ⊢
    simp only [] at h ⊢
    by_cases h1 : m < 0
    · rw [if_pos h1] at h; cases h
    · rw [if_neg h1] at h ⊢
      rw [if_neg h1]
      by_cases h2 : (s.size : Int) ≤ m
      · rw [if_pos h2] at h; cases h
      · rw [if_neg h2, if_neg (by omega)]
        unfold decEnd
        rw [ext_app_l s t 1 (m.toNat + 1) (by omega)]
theorem ext_app_r (s t : ByteArray) (n : Nat) (h : n ≤ s.size) : (s ++ t).extract n (s ++ t).size = s.extract n s.size ++ t := by
  have hs := size_data s
  have ht := size_data t
  refine data_ext ?_
  rw [app_list, ext_list, ext_list, app_list, ByteArray.size_append, List.drop_append_of_le_length (by omega), List.take_of_length_le (by rw [List.length_append, List.length_drop]; omega), List.take_of_length_le (by rw [List.length_drop]; omega)]
theorem nil_of_size {s : ByteArray} (h : s.size = 0) : s = ⟨#[]⟩ := data_ext (List.eq_nil_of_length_eq_zero (by rw [size_data]; exact h))
theorem nil_app (t : ByteArray) : (⟨#[]⟩ : ByteArray) ++ t = t := by refine data_ext ?_; rw [app_list]; simp
theorem eatF_app : ∀ (k : Nat) (s t : ByteArray) (j : Nat), s.size ≤ k → (eatF k s).2.size = 0 → t.size ≤ j → eatF (k + j) (s ++ t) = ((eatF k s).1 ++ (eatF j t).1, (eatF j t).2)
  | 0, s, t, j, h1, h2, h3 => by
    obtain rfl := nil_of_size (s := s) (by omega)
    rw [nil_app, Nat.zero_add]; rfl
  | k + 1, s, t, j, h1, h2, h3 => by
    by_cases h0 : s.size = 0
    · obtain rfl := nil_of_size h0
      have e0 : (decR (⟨#[]⟩ : ByteArray)).2.2 ≠ 0 := by rw [decR, if_pos (show (⟨#[]⟩ : ByteArray).size = 0 from rfl)]; decide
      rw [nil_app, eatF_stop (t := ⟨#[]⟩) e0, List.nil_append, eatF_fuel (k + 1 + j) j t (by omega) h3]
    · by_cases h : (decR s).2.2 = 0
      · have happ := decR_app t h
        obtain ⟨r, m, e, hd⟩ : ∃ r m e, decR s = (r, m, e) := ⟨_, _, _, rfl⟩
        rw [hd] at h happ
        obtain rfl : e = 0 := h
        have hb := decR_n hd
        rw [show k + 1 + j = (k + j) + 1 from by omega]
        have u : ∀ (q : Nat) (x : ByteArray), eatF (q + 1) x = if (decR x).2.2 = 0 then ((decR x).1 :: (eatF q (x.extract (decR x).2.1.toNat x.size)).1, (eatF q (x.extract (decR x).2.1.toNat x.size)).2) else ([], x) := fun _ _ => rfl
        rw [u, hd] at h2
        rw [u, u, hd, happ]
        simp only [if_true] at h2 ⊢
        rw [ext_app_r s t m.toNat (by omega), eatF_app k (s.extract m.toNat s.size) t j (by rw [ByteArray.size_extract]; omega) h2 h3]
        rfl
      · rw [eatF_stop h] at h2
        exact absurd h2 h0
theorem eat_app {s : ByteArray} (t : ByteArray) (h : (eat s).2.size = 0) : eat (s ++ t) = ((eat s).1 ++ (eat t).1, (eat t).2) := by
  unfold eat at h ⊢
  rw [ByteArray.size_append]
  exact eatF_app _ _ _ _ (Nat.le_refl _) h (Nat.le_refl _)
theorem vld_app {s t : ByteArray} (h : (vld s).2 = true) : (vld (s ++ t)).2 = (vld t).2 := by
  unfold vld at h ⊢
  have h0 : (eat s).2.size = 0 := by
    simp only [beq_iff_eq] at h; omega
  simp only []
  rw [eat_app t h0]
theorem vld_x : (vld ⟨#[120]⟩).2 = true := by decide +kernel
end Go.Proofs.YtbcjhmeeonhmaaaDoor.H
end

/-
Sums of two short lengths, not wrapped.
-/
section
set_option linter.unusedVariables false
namespace Go.Proofs.YtbcjhmeeonhmaaaDoor.H
open Go Go.RowKit Go.Proofs.YtbcjhmeeonhmaaaDoorW.PrintWords Go.Proofs.YtbcjhmeeonhmaaaDoorW.PrintMore Go.Proofs.YtbcjhmeeonhmaaaDoor.M

theorem wq {a b : Int} (h0 : 0 ≤ a) (h1 : a ≤ 410) (h2 : 0 ≤ b) (h3 : b ≤ 399) : wrap64 (wrap64 (max a 0 + max b 0) + 6) = max a 0 + max b 0 + 6 := by
  rw [Int.max_eq_left h0, Int.max_eq_left h2, w64 (x := a + b) (by omega) (by omega), w64 (by omega) (by omega)]
theorem wq4 {x y : ByteArray} {i j : Int} (h0 : 0 ≤ i) (h1 : i ≤ 410) (h2 : 0 ≤ j) (h3 : j ≤ 399) (hx : i ≤ (x.size : Int)) (hy : j ≤ (y.size : Int)) :
    wrap64 ((wrap64 (((x.extract 0 (i : Int).toNat).size : Int) + ((y.extract 0 (j : Int).toNat).size : Int))) + 4) = max i 0 + max j 0 + 4 := by
  have z0 : ((x.extract 0 (i : Int).toNat).size : Int) = i := by rw [ByteArray.size_extract]; omega
  have z1 : ((y.extract 0 (j : Int).toNat).size : Int) = j := by rw [ByteArray.size_extract]; omega
  rw [z0, z1, Int.max_eq_left h0, Int.max_eq_left h2, w64 (x := i + j) (by omega) (by omega), w64 (by omega) (by omega)]
end Go.Proofs.YtbcjhmeeonhmaaaDoor.H
end

-- Laid by a program of this session for this claim.
section
namespace Go.Proofs.YtbcjhmeeonhmaaaDoor.M
open Go.RowKit Go.Proofs.YtbcjhmeeonhmaaaDoorW.PrintWords Go.Proofs.YtbcjhmeeonhmaaaDoorW.PrintLast Go.Proofs.YtbcjhmeeonhmaaaDoorW.PrintMore
attribute [local go_sem] max2_int min2_int max_two min_two max_three min_three max_four min_four   -- for this text's walks alone
set_option linter.unusedVariables false
set_option linter.unusedSimpArgs false

/-! ### pleacherlaw09_PaxCounts: function 4 -/
def pleacherlaw09_PaxCounts.f (a0_0 : ByteArray) (a0_1 : ByteArray) : Option (Bool) := (pleacherlaw09_shown.f).bind fun t294 => (if 0 ≤ (mn (a0_0.size : Int) 410) then (if (mn (a0_0.size : Int) 410) ≤ (a0_0.size : Int) then (if 0 ≤ (mn (a0_1.size : Int) 399) then (if (mn (a0_1.size : Int) 399) ≤ (a0_1.size : Int) then ((pax_Size.f (a0_0.extract 0 ((mn (a0_0.size : Int) 410) : Int).toNat) (a0_1.extract 0 ((mn (a0_1.size : Int) 399) : Int).toNat)).bind fun t295 => ((pax_One.f (a0_0.extract 0 ((mn (a0_0.size : Int) 410) : Int).toNat) (a0_1.extract 0 ((mn (a0_1.size : Int) 399) : Int).toNat)).bind fun bt296 => (if bt296.2 = 0 then (if (a0_1.extract 0 ((mn (a0_1.size : Int) 399) : Int).toNat).size + 1 ≤ 9223372036854775807 then ((pax_Size.f (a0_0.extract 0 ((mn (a0_0.size : Int) 410) : Int).toNat) ((a0_1.extract 0 ((mn (a0_1.size : Int) 399) : Int).toNat) ++ (⟨#[120]⟩ : ByteArray))).bind fun t298 => (if t294 = true then (if t295 = (bt296.1.size : Int) then (if t298 = (wrap64 (t295 + 1)) then (if t295 ≥ (wrap64 ((wrap64 (((a0_0.extract 0 ((mn (a0_0.size : Int) 410) : Int).toNat).size : Int) + ((a0_1.extract 0 ((mn (a0_1.size : Int) 399) : Int).toNat).size : Int))) + 4)) then (some (decide (t295 ≤ (wrap64 ((wrap64 (((a0_0.extract 0 ((mn (a0_0.size : Int) 410) : Int).toNat).size : Int) + ((a0_1.extract 0 ((mn (a0_1.size : Int) 399) : Int).toNat).size : Int))) + 6))))) else (some false)) else (if t298 = (wrap64 (t295 + 2)) then (if t295 ≥ (wrap64 ((wrap64 (((a0_0.extract 0 ((mn (a0_0.size : Int) 410) : Int).toNat).size : Int) + ((a0_1.extract 0 ((mn (a0_1.size : Int) 399) : Int).toNat).size : Int))) + 4)) then (some (decide (t295 ≤ (wrap64 ((wrap64 (((a0_0.extract 0 ((mn (a0_0.size : Int) 410) : Int).toNat).size : Int) + ((a0_1.extract 0 ((mn (a0_1.size : Int) 399) : Int).toNat).size : Int))) + 6))))) else (some false)) else (some false))) else (some false)) else (some false))) else (none)) else (if t294 = true then (if t295 = 0 then (some (bt296.1.toList == ([] : List UInt8))) else (some false)) else (some false))))) else (none)) else (none)) else (none)) else (none))
def pleacherlaw09_PaxCounts.T2 : Bool × List (List Nat × List Nat) := (true, [([], []), ([0], [0]), ([], []), ([2], [2]), ([3], [3]), ([4], [4]), ([1, 5], [1, 5]), ([], []), ([7], [7]), ([], []), ([9], [9]), ([10], [10]), ([11], [11]), ([8, 12], [8, 12]), ([6, 13], [6, 13]), ([14, 0, 1, 2, 3, 4, 5, 6, 7, 8, 9, 10, 11, 12, 13, 14], [14])])
def pleacherlaw09_PaxCounts.B2 : List Nat := [0, 1, 0, 4, 12, 28, 63, 0, 128, 0, 512, 1536, 3584, 8064, 16383, 32767]
theorem pleacherlaw09_PaxCounts.tab2 : rtab .any (opsOf Tryd.f4 2) = pleacherlaw09_PaxCounts.T2 := by kernel_rfl
theorem pleacherlaw09_PaxCounts.bits2 : waitsOk pleacherlaw09_PaxCounts.T2.2 pleacherlaw09_PaxCounts.B2 = true := by kernel_rfl
set_option maxHeartbeats 8000000 in
set_option maxRecDepth 100000 in
theorem pleacherlaw09_PaxCounts.calls (a0_0 : ByteArray) (a0_1 : ByteArray) (r : Bool) (hr : r = true) (w : World) (hG : GW w) (h : pleacherlaw09_PaxCounts.f a0_0 a0_1 = some r) :
    Calls Tryd.prog 4 #[.agg #[.string a0_0, .string a0_1]] w fun e w' => e = .returned (.bool r) ∧ Below w.heap.size w w' := by
  have HG := Aside0.mk hG
  clear hG
  have hu31 := Tryd.underlying31
  have HB := Aside0.mk (Below.refl w.heap.size w)
  have H : ((pleacherlaw09_shown.f).bind fun t294 => (if 0 ≤ (mn (a0_0.size : Int) 410) then (if (mn (a0_0.size : Int) 410) ≤ (a0_0.size : Int) then (if 0 ≤ (mn (a0_1.size : Int) 399) then (if (mn (a0_1.size : Int) 399) ≤ (a0_1.size : Int) then ((pax_Size.f (a0_0.extract 0 ((mn (a0_0.size : Int) 410) : Int).toNat) (a0_1.extract 0 ((mn (a0_1.size : Int) 399) : Int).toNat)).bind fun t295 => ((pax_One.f (a0_0.extract 0 ((mn (a0_0.size : Int) 410) : Int).toNat) (a0_1.extract 0 ((mn (a0_1.size : Int) 399) : Int).toNat)).bind fun bt296 => (if bt296.2 = 0 then (if (a0_1.extract 0 ((mn (a0_1.size : Int) 399) : Int).toNat).size + 1 ≤ 9223372036854775807 then ((pax_Size.f (a0_0.extract 0 ((mn (a0_0.size : Int) 410) : Int).toNat) ((a0_1.extract 0 ((mn (a0_1.size : Int) 399) : Int).toNat) ++ (⟨#[120]⟩ : ByteArray))).bind fun t298 => (if t294 = true then (if t295 = (bt296.1.size : Int) then (if t298 = (wrap64 (t295 + 1)) then (if t295 ≥ (wrap64 ((wrap64 (((a0_0.extract 0 ((mn (a0_0.size : Int) 410) : Int).toNat).size : Int) + ((a0_1.extract 0 ((mn (a0_1.size : Int) 399) : Int).toNat).size : Int))) + 4)) then (some (decide (t295 ≤ (wrap64 ((wrap64 (((a0_0.extract 0 ((mn (a0_0.size : Int) 410) : Int).toNat).size : Int) + ((a0_1.extract 0 ((mn (a0_1.size : Int) 399) : Int).toNat).size : Int))) + 6))))) else (some false)) else (if t298 = (wrap64 (t295 + 2)) then (if t295 ≥ (wrap64 ((wrap64 (((a0_0.extract 0 ((mn (a0_0.size : Int) 410) : Int).toNat).size : Int) + ((a0_1.extract 0 ((mn (a0_1.size : Int) 399) : Int).toNat).size : Int))) + 4)) then (some (decide (t295 ≤ (wrap64 ((wrap64 (((a0_0.extract 0 ((mn (a0_0.size : Int) 410) : Int).toNat).size : Int) + ((a0_1.extract 0 ((mn (a0_1.size : Int) 399) : Int).toNat).size : Int))) + 6))))) else (some false)) else (some false))) else (some false)) else (some false))) else (none)) else (if t294 = true then (if t295 = 0 then (some (bt296.1.toList == ([] : List UInt8))) else (some false)) else (some false))))) else (none)) else (none)) else (none)) else (none))) = some r := h
  clear h
  replace H := Option.bind_eq_some_iff.mp H
  obtain ⟨t294, A20, H⟩ := H
  replace H : (if 0 ≤ (mn (a0_0.size : Int) 410) then (if (mn (a0_0.size : Int) 410) ≤ (a0_0.size : Int) then (if 0 ≤ (mn (a0_1.size : Int) 399) then (if (mn (a0_1.size : Int) 399) ≤ (a0_1.size : Int) then ((pax_Size.f (a0_0.extract 0 ((mn (a0_0.size : Int) 410) : Int).toNat) (a0_1.extract 0 ((mn (a0_1.size : Int) 399) : Int).toNat)).bind fun t295 => ((pax_One.f (a0_0.extract 0 ((mn (a0_0.size : Int) 410) : Int).toNat) (a0_1.extract 0 ((mn (a0_1.size : Int) 399) : Int).toNat)).bind fun bt296 => (if bt296.2 = 0 then (if (a0_1.extract 0 ((mn (a0_1.size : Int) 399) : Int).toNat).size + 1 ≤ 9223372036854775807 then ((pax_Size.f (a0_0.extract 0 ((mn (a0_0.size : Int) 410) : Int).toNat) ((a0_1.extract 0 ((mn (a0_1.size : Int) 399) : Int).toNat) ++ (⟨#[120]⟩ : ByteArray))).bind fun t298 => (if t294 = true then (if t295 = (bt296.1.size : Int) then (if t298 = (wrap64 (t295 + 1)) then (if t295 ≥ (wrap64 ((wrap64 (((a0_0.extract 0 ((mn (a0_0.size : Int) 410) : Int).toNat).size : Int) + ((a0_1.extract 0 ((mn (a0_1.size : Int) 399) : Int).toNat).size : Int))) + 4)) then (some (decide (t295 ≤ (wrap64 ((wrap64 (((a0_0.extract 0 ((mn (a0_0.size : Int) 410) : Int).toNat).size : Int) + ((a0_1.extract 0 ((mn (a0_1.size : Int) 399) : Int).toNat).size : Int))) + 6))))) else (some false)) else (if t298 = (wrap64 (t295 + 2)) then (if t295 ≥ (wrap64 ((wrap64 (((a0_0.extract 0 ((mn (a0_0.size : Int) 410) : Int).toNat).size : Int) + ((a0_1.extract 0 ((mn (a0_1.size : Int) 399) : Int).toNat).size : Int))) + 4)) then (some (decide (t295 ≤ (wrap64 ((wrap64 (((a0_0.extract 0 ((mn (a0_0.size : Int) 410) : Int).toNat).size : Int) + ((a0_1.extract 0 ((mn (a0_1.size : Int) 399) : Int).toNat).size : Int))) + 6))))) else (some false)) else (some false))) else (some false)) else (some false))) else (none)) else (if t294 = true then (if t295 = 0 then (some (bt296.1.toList == ([] : List UInt8))) else (some false)) else (some false))))) else (none)) else (none)) else (none)) else (none)) = some r := H
  have A2 := Aside0.mk A20
  clear A20
  obtain ⟨ji3, hji3⟩ : ∃ j_ : Int, (mn (a0_0.size : Int) 410) = j_ := ⟨_, rfl⟩
  replace H : (if 0 ≤ (ji3) then (if (ji3) ≤ (a0_0.size : Int) then (if 0 ≤ (mn (a0_1.size : Int) 399) then (if (mn (a0_1.size : Int) 399) ≤ (a0_1.size : Int) then ((pax_Size.f (a0_0.extract 0 ((ji3) : Int).toNat) (a0_1.extract 0 ((mn (a0_1.size : Int) 399) : Int).toNat)).bind fun t295 => ((pax_One.f (a0_0.extract 0 ((ji3) : Int).toNat) (a0_1.extract 0 ((mn (a0_1.size : Int) 399) : Int).toNat)).bind fun bt296 => (if bt296.2 = 0 then (if (a0_1.extract 0 ((mn (a0_1.size : Int) 399) : Int).toNat).size + 1 ≤ 9223372036854775807 then ((pax_Size.f (a0_0.extract 0 ((ji3) : Int).toNat) ((a0_1.extract 0 ((mn (a0_1.size : Int) 399) : Int).toNat) ++ (⟨#[120]⟩ : ByteArray))).bind fun t298 => (if t294 = true then (if t295 = (bt296.1.size : Int) then (if t298 = (wrap64 (t295 + 1)) then (if t295 ≥ (wrap64 ((wrap64 (((a0_0.extract 0 ((ji3) : Int).toNat).size : Int) + ((a0_1.extract 0 ((mn (a0_1.size : Int) 399) : Int).toNat).size : Int))) + 4)) then (some (decide (t295 ≤ (wrap64 ((wrap64 (((a0_0.extract 0 ((ji3) : Int).toNat).size : Int) + ((a0_1.extract 0 ((mn (a0_1.size : Int) 399) : Int).toNat).size : Int))) + 6))))) else (some false)) else (if t298 = (wrap64 (t295 + 2)) then (if t295 ≥ (wrap64 ((wrap64 (((a0_0.extract 0 ((ji3) : Int).toNat).size : Int) + ((a0_1.extract 0 ((mn (a0_1.size : Int) 399) : Int).toNat).size : Int))) + 4)) then (some (decide (t295 ≤ (wrap64 ((wrap64 (((a0_0.extract 0 ((ji3) : Int).toNat).size : Int) + ((a0_1.extract 0 ((mn (a0_1.size : Int) 399) : Int).toNat).size : Int))) + 6))))) else (some false)) else (some false))) else (some false)) else (some false))) else (none)) else (if t294 = true then (if t295 = 0 then (some (bt296.1.toList == ([] : List UInt8))) else (some false)) else (some false))))) else (none)) else (none)) else (none)) else (none)) = some r := by first | (rw [hji3] at H; exact H) | (simp only [hji3] at H ⊢; exact H)
  (try rw [hji3] at A2)
  (try (have hji3h : ji3 ≤ 410 := by (rw [← hji3]; unfold mn; (repeat' split) <;> omega)))
  (try (have hji3g : ji3 ≤ 64 := by omega))
  (try (have hji3l : 0 ≤ ji3 := by (rw [← hji3]; unfold mn; (repeat' split) <;> omega)))
  (try (have hji3m : 0 ≤ ji3 := by omega))
  have hji3_ : (if 410 < (a0_0.size : Int) then 410 else (a0_0.size : Int)) = ji3 := hji3
  by_cases c4 : 0 ≤ (ji3)
  · rw [if_pos c4] at H
    have c4b0 := eq_true c4
    have c4b1 : decide (0 ≤ (ji3)) = true := decide_eq_true c4
    clear c4
    by_cases c5 : (ji3) ≤ (a0_0.size : Int)
    · rw [if_pos c5] at H
      have c5b0 := eq_true c5
      have c5b1 : decide ((ji3) ≤ (a0_0.size : Int)) = true := decide_eq_true c5
      clear c5
      obtain ⟨ji6, hji6⟩ : ∃ j_ : Int, (mn (a0_1.size : Int) 399) = j_ := ⟨_, rfl⟩
      replace H : (if 0 ≤ (ji6) then (if (ji6) ≤ (a0_1.size : Int) then ((pax_Size.f (a0_0.extract 0 ((ji3) : Int).toNat) (a0_1.extract 0 ((ji6) : Int).toNat)).bind fun t295 => ((pax_One.f (a0_0.extract 0 ((ji3) : Int).toNat) (a0_1.extract 0 ((ji6) : Int).toNat)).bind fun bt296 => (if bt296.2 = 0 then (if (a0_1.extract 0 ((ji6) : Int).toNat).size + 1 ≤ 9223372036854775807 then ((pax_Size.f (a0_0.extract 0 ((ji3) : Int).toNat) ((a0_1.extract 0 ((ji6) : Int).toNat) ++ (⟨#[120]⟩ : ByteArray))).bind fun t298 => (if t294 = true then (if t295 = (bt296.1.size : Int) then (if t298 = (wrap64 (t295 + 1)) then (if t295 ≥ (wrap64 ((wrap64 (((a0_0.extract 0 ((ji3) : Int).toNat).size : Int) + ((a0_1.extract 0 ((ji6) : Int).toNat).size : Int))) + 4)) then (some (decide (t295 ≤ (wrap64 ((wrap64 (((a0_0.extract 0 ((ji3) : Int).toNat).size : Int) + ((a0_1.extract 0 ((ji6) : Int).toNat).size : Int))) + 6))))) else (some false)) else (if t298 = (wrap64 (t295 + 2)) then (if t295 ≥ (wrap64 ((wrap64 (((a0_0.extract 0 ((ji3) : Int).toNat).size : Int) + ((a0_1.extract 0 ((ji6) : Int).toNat).size : Int))) + 4)) then (some (decide (t295 ≤ (wrap64 ((wrap64 (((a0_0.extract 0 ((ji3) : Int).toNat).size : Int) + ((a0_1.extract 0 ((ji6) : Int).toNat).size : Int))) + 6))))) else (some false)) else (some false))) else (some false)) else (some false))) else (none)) else (if t294 = true then (if t295 = 0 then (some (bt296.1.toList == ([] : List UInt8))) else (some false)) else (some false))))) else (none)) else (none)) = some r := by first | (rw [hji6] at H; exact H) | (simp only [hji6] at H ⊢; exact H)
      (try rw [hji6] at A2)
      (try (have hji6h : ji6 ≤ 399 := by (rw [← hji6]; unfold mn; (repeat' split) <;> omega)))
      (try (have hji6g : ji6 ≤ 64 := by omega))
      (try (have hji6l : 0 ≤ ji6 := by (rw [← hji6]; unfold mn; (repeat' split) <;> omega)))
      (try (have hji6m : 0 ≤ ji6 := by omega))
      have hji6_ : (if 399 < (a0_1.size : Int) then 399 else (a0_1.size : Int)) = ji6 := hji6
      by_cases c7 : 0 ≤ (ji6)
      · rw [if_pos c7] at H
        have c7b0 := eq_true c7
        have c7b1 : decide (0 ≤ (ji6)) = true := decide_eq_true c7
        clear c7
        by_cases c8 : (ji6) ≤ (a0_1.size : Int)
        · rw [if_pos c8] at H
          have c8b0 := eq_true c8
          have c8b1 : decide ((ji6) ≤ (a0_1.size : Int)) = true := decide_eq_true c8
          clear c8
          have hwq4 : wrap64 ((wrap64 (((a0_0.extract 0 ((ji3) : Int).toNat).size : Int) + ((a0_1.extract 0 ((ji6) : Int).toNat).size : Int))) + 4) = max ji3 0 + max ji6 0 + 4 := Go.Proofs.YtbcjhmeeonhmaaaDoor.H.wq4 hji3l hji3h hji6l hji6h (of_eq_true c5b0) (of_eq_true c8b0)
          have HWQ := Aside0.mk (Go.Proofs.YtbcjhmeeonhmaaaDoor.H.wq hji3l hji3h hji6l hji6h)
          replace H := Option.bind_eq_some_iff.mp H
          obtain ⟨t295, A90, H⟩ := H
          replace H : ((pax_One.f (a0_0.extract 0 ((ji3) : Int).toNat) (a0_1.extract 0 ((ji6) : Int).toNat)).bind fun bt296 => (if bt296.2 = 0 then (if (a0_1.extract 0 ((ji6) : Int).toNat).size + 1 ≤ 9223372036854775807 then ((pax_Size.f (a0_0.extract 0 ((ji3) : Int).toNat) ((a0_1.extract 0 ((ji6) : Int).toNat) ++ (⟨#[120]⟩ : ByteArray))).bind fun t298 => (if t294 = true then (if t295 = (bt296.1.size : Int) then (if t298 = (wrap64 (t295 + 1)) then (if t295 ≥ (wrap64 ((wrap64 (((a0_0.extract 0 ((ji3) : Int).toNat).size : Int) + ((a0_1.extract 0 ((ji6) : Int).toNat).size : Int))) + 4)) then (some (decide (t295 ≤ (wrap64 ((wrap64 (((a0_0.extract 0 ((ji3) : Int).toNat).size : Int) + ((a0_1.extract 0 ((ji6) : Int).toNat).size : Int))) + 6))))) else (some false)) else (if t298 = (wrap64 (t295 + 2)) then (if t295 ≥ (wrap64 ((wrap64 (((a0_0.extract 0 ((ji3) : Int).toNat).size : Int) + ((a0_1.extract 0 ((ji6) : Int).toNat).size : Int))) + 4)) then (some (decide (t295 ≤ (wrap64 ((wrap64 (((a0_0.extract 0 ((ji3) : Int).toNat).size : Int) + ((a0_1.extract 0 ((ji6) : Int).toNat).size : Int))) + 6))))) else (some false)) else (some false))) else (some false)) else (some false))) else (none)) else (if t294 = true then (if t295 = 0 then (some (bt296.1.toList == ([] : List UInt8))) else (some false)) else (some false)))) = some r := H
          have A9 := Aside0.mk A90
          clear A90
          replace H := Option.bind_eq_some_iff.mp H
          obtain ⟨⟨t296, t297⟩, A100, H⟩ := H
          replace H : (if t297 = 0 then (if (a0_1.extract 0 ((ji6) : Int).toNat).size + 1 ≤ 9223372036854775807 then ((pax_Size.f (a0_0.extract 0 ((ji3) : Int).toNat) ((a0_1.extract 0 ((ji6) : Int).toNat) ++ (⟨#[120]⟩ : ByteArray))).bind fun t298 => (if t294 = true then (if t295 = (t296.size : Int) then (if t298 = (wrap64 (t295 + 1)) then (if t295 ≥ (wrap64 ((wrap64 (((a0_0.extract 0 ((ji3) : Int).toNat).size : Int) + ((a0_1.extract 0 ((ji6) : Int).toNat).size : Int))) + 4)) then (some (decide (t295 ≤ (wrap64 ((wrap64 (((a0_0.extract 0 ((ji3) : Int).toNat).size : Int) + ((a0_1.extract 0 ((ji6) : Int).toNat).size : Int))) + 6))))) else (some false)) else (if t298 = (wrap64 (t295 + 2)) then (if t295 ≥ (wrap64 ((wrap64 (((a0_0.extract 0 ((ji3) : Int).toNat).size : Int) + ((a0_1.extract 0 ((ji6) : Int).toNat).size : Int))) + 4)) then (some (decide (t295 ≤ (wrap64 ((wrap64 (((a0_0.extract 0 ((ji3) : Int).toNat).size : Int) + ((a0_1.extract 0 ((ji6) : Int).toNat).size : Int))) + 6))))) else (some false)) else (some false))) else (some false)) else (some false))) else (none)) else (if t294 = true then (if t295 = 0 then (some (t296.toList == ([] : List UInt8))) else (some false)) else (some false))) = some r := H
          have A10 := Aside0.mk A100
          clear A100
          by_cases c11 : t297 = 0
          · rw [if_pos c11] at H
            have c11b0 : (t297 == 0) = true := beq_iff_eq.mpr c11
            have c11b1 : (t297 != 0) = false := bne_eq_false_iff_eq.mpr c11
            clear c11
            by_cases c12 : (a0_1.extract 0 ((ji6) : Int).toNat).size + 1 ≤ 9223372036854775807
            · rw [if_pos c12] at H
              have c12b0 := eq_true c12
              have c12b1 : decide ((a0_1.extract 0 ((ji6) : Int).toNat).size + 1 ≤ 9223372036854775807) = true := decide_eq_true c12
              try have c12b2 : (9223372036854775807 < (a0_1.extract 0 ((ji6) : Int).toNat).size + 1) = False := eq_false (Nat.not_lt.2 c12)
              replace H := Option.bind_eq_some_iff.mp H
              obtain ⟨t298, A130, H⟩ := H
              replace H : (if t294 = true then (if t295 = (t296.size : Int) then (if t298 = (wrap64 (t295 + 1)) then (if t295 ≥ (wrap64 ((wrap64 (((a0_0.extract 0 ((ji3) : Int).toNat).size : Int) + ((a0_1.extract 0 ((ji6) : Int).toNat).size : Int))) + 4)) then (some (decide (t295 ≤ (wrap64 ((wrap64 (((a0_0.extract 0 ((ji3) : Int).toNat).size : Int) + ((a0_1.extract 0 ((ji6) : Int).toNat).size : Int))) + 6))))) else (some false)) else (if t298 = (wrap64 (t295 + 2)) then (if t295 ≥ (wrap64 ((wrap64 (((a0_0.extract 0 ((ji3) : Int).toNat).size : Int) + ((a0_1.extract 0 ((ji6) : Int).toNat).size : Int))) + 4)) then (some (decide (t295 ≤ (wrap64 ((wrap64 (((a0_0.extract 0 ((ji3) : Int).toNat).size : Int) + ((a0_1.extract 0 ((ji6) : Int).toNat).size : Int))) + 6))))) else (some false)) else (some false))) else (some false)) else (some false)) = some r := H
              have A13 := Aside0.mk A130
              clear A130
              by_cases c14 : t294 = true
              · subst c14
                have H1 : (if t295 = (t296.size : Int) then (if t298 = (wrap64 (t295 + 1)) then (if t295 ≥ (wrap64 ((wrap64 (((a0_0.extract 0 ((ji3) : Int).toNat).size : Int) + ((a0_1.extract 0 ((ji6) : Int).toNat).size : Int))) + 4)) then (some (decide (t295 ≤ (wrap64 ((wrap64 (((a0_0.extract 0 ((ji3) : Int).toNat).size : Int) + ((a0_1.extract 0 ((ji6) : Int).toNat).size : Int))) + 6))))) else (some false)) else (if t298 = (wrap64 (t295 + 2)) then (if t295 ≥ (wrap64 ((wrap64 (((a0_0.extract 0 ((ji3) : Int).toNat).size : Int) + ((a0_1.extract 0 ((ji6) : Int).toNat).size : Int))) + 4)) then (some (decide (t295 ≤ (wrap64 ((wrap64 (((a0_0.extract 0 ((ji3) : Int).toNat).size : Int) + ((a0_1.extract 0 ((ji6) : Int).toNat).size : Int))) + 6))))) else (some false)) else (some false))) else (some false)) = some r := by rw [if_pos rfl] at H; exact H
                clear H
                have H := H1
                clear H1
                by_cases c15 : t295 = (t296.size : Int)
                · rw [if_pos c15] at H
                  have c15b0 : (t295 == (t296.size : Int)) = true := beq_iff_eq.mpr c15
                  have c15b1 : (t295 != (t296.size : Int)) = false := bne_eq_false_iff_eq.mpr c15
                  clear c15
                  by_cases c16 : t298 = (wrap64 (t295 + 1))
                  · rw [if_pos c16] at H
                    have c16b0 : (t298 == (wrap64 (t295 + 1))) = true := beq_iff_eq.mpr c16
                    have c16b1 : (t298 != (wrap64 (t295 + 1))) = false := bne_eq_false_iff_eq.mpr c16
                    clear c16
                    by_cases c17 : t295 ≥ (wrap64 ((wrap64 (((a0_0.extract 0 ((ji3) : Int).toNat).size : Int) + ((a0_1.extract 0 ((ji6) : Int).toNat).size : Int))) + 4))
                    · rw [if_pos c17] at H
                      have c17b0 : decide ((wrap64 ((wrap64 (((a0_0.extract 0 ((ji3) : Int).toNat).size : Int) + ((a0_1.extract 0 ((ji6) : Int).toNat).size : Int))) + 4)) ≤ t295) = true := decide_eq_true c17
                      rw [hwq4] at c17b0
                      clear hwq4
                      clear c17
                      obtain rfl := Option.some.inj H
                      go_enter Tryd.func4, Tryd.ntmps4
                      try go_wp2_with (first | ((with_reducible refine gate_dst (N := 1) rfl ?_); (try (refine gate_guard (by rfl) ?_; dsimp only)); refine box_event ?hg (N := 1) ?hd (cs := #[.string a0_0, .string a0_1]) (t := 31) ?hr ?_; (case hd => rfl); (case hg => rfl); (case hr => first | (go_simp; done) | (go_simp; rfl)); intro gb293 hg w18 hbox hb; have n0_ := Aside0.mk (below_step (by repeat (first | (with_reducible first | exact HB.out | apply below_alloc | apply pw_below_drewN | apply below_drew1) | exact HB.out)) hb); have n1_ := Aside0.mk (hbox); have n2_ := Aside0.mk ((by rw [hg]; exact (below_size (by repeat (first | (with_reducible first | exact HB.out | apply below_alloc | apply pw_below_drewN | apply below_drew1) | exact HB.out))) : w.heap.size ≤ gb293)); have n3_ := Aside0.mk ((by rw [hg]; exact (below_size (by repeat (first | (with_reducible first | exact HB.out | apply below_alloc | apply pw_below_drewN | apply below_drew1) | exact HB.out))) : w.heap.size ≤ gb293)); clear HB; have HB := n0_; have BK293 := n1_; have GW293 := n2_; have GE293 := n3_; clear n0_ n1_ n2_ n3_; clear hb hbox hg) | ((with_reducible refine gate_callee (f := 9) rfl ?_); refine goesL_ (some 8) rfl rfl Tryd.func9 (by kernel_rfl) rfl #[] rfl (by (try simp only [List.map_toArray, List.map_cons, List.map_nil]); first | done | rfl | (simp only [List.length_drop, List.length_take]; rfl)) ?_; (with_reducible refine (pleacherlaw09_shown.calls  true _ ?side1 A2.out).mono ?_); (case side1 => exact GW.below HG.out (by repeat (first | (with_reducible first | exact HB.out | apply below_alloc | apply pw_below_drewN | apply below_drew1 | refine below_set ?_ GE293.out) | exact HB.out))); rintro e w19 ⟨rfl, hb⟩; refine ⟨_, rfl, ?_⟩; have n0_ := Aside0.mk (blk_below (g := gb293) (o := .cells #[.string a0_0, .string a0_1] 31 (0, 0)) (by (with_reducible repeat (first | refine blk_drewN ?_ _ | refine blk_drew ?_ | refine blk_alloc ?_ _)); exact BK293.out) hb); have n1_ := Aside0.mk (below_step (by repeat (first | (with_reducible first | exact HB.out | apply below_alloc | apply pw_below_drewN | apply below_drew1 | refine below_set ?_ GE293.out) | exact HB.out)) hb); clear BK293; clear HB; have BK293 := n0_; have HB := n1_; clear n0_ n1_; (try clear hb); (try clear hb2); (try clear hk); (try clear hi)))
                      have n0_ := Aside0.mk (blk_drew BK293.out)
                      have n1_ := Aside0.mk (below_drew1 HB.out)
                      clear BK293
                      clear HB
                      have BK293 := n0_
                      have HB := n1_
                      clear n0_ n1_
                      refine start_ (n := 16) (S := fun w' => w'.cell? ⟨gb293, 0, none⟩ = some (.string a0_0) ∧ w'.cell? ⟨gb293, 1, none⟩ = some (.string a0_1)) (ds := [15]) #[false, false, false, false, false, false, false, false, false, false, false, false, false, false, false, false] (by kernel_rfl) rfl rfl ⟨(blk_cell BK293.out 0).trans rfl, (blk_cell BK293.out 1).trans rfl⟩ (fun hHeld => ?_); refine with_tabW pleacherlaw09_PaxCounts.tab2 pleacherlaw09_PaxCounts.bits2 (fun HT_ HW_ => ?_)
                      generalize w19.drew = w20 at BK293 HB hHeld ⊢
                      refine pure_ (i := 0) (N := some 9) (v := ?_) (a' := ?_) #[true, false, false, false, false, false, false, false, false, false, false, false, false, false, false, false] rfl rfl (any_of HT_.out (by kernel_rfl)) (fun _ _ _ h => h) (Or.inl ⟨by rfl, ?_⟩) ?_ ?_
                      rotate_left
                      · intro w'
                        go_simp
                        with_reducible rfl
                      rotate_left
                      · simp only [Act.put, List.setIfInBounds_toArray, List.set_cons_zero, List.set_cons_succ, i64_w, i32_w]
                        rfl
                      refine pure_ (i := 2) (N := some 11) (v := ?_) (a' := ?_) #[true, false, true, false, false, false, false, false, false, false, false, false, false, false, false, false] rfl rfl (any_of HT_.out (by kernel_rfl)) (fun _ _ _ h => h) (Or.inl ⟨by rfl, ?_⟩) ?_ ?_
                      rotate_left
                      · intro w'
                        go_simp
                        with_reducible rfl
                      rotate_left
                      · simp only [Act.put, List.setIfInBounds_toArray, List.set_cons_zero, List.set_cons_succ, i64_w, i32_w]
                        rfl
                      refine pure_ (i := 7) (N := some 16) (v := ?_) (a' := ?_) #[true, false, true, false, false, false, false, true, false, false, false, false, false, false, false, false] rfl rfl (any_of HT_.out (by kernel_rfl)) (fun _ _ _ h => h) (Or.inl ⟨by rfl, ?_⟩) ?_ ?_
                      rotate_left
                      · intro w'
                        go_simp
                        with_reducible rfl
                      rotate_left
                      · simp only [Act.put, List.setIfInBounds_toArray, List.set_cons_zero, List.set_cons_succ, i64_w, i32_w]
                        rfl
                      refine pure_ (i := 9) (N := some 18) (v := ?_) (a' := ?_) #[true, false, true, false, false, false, false, true, false, true, false, false, false, false, false, false] rfl rfl (any_of HT_.out (by kernel_rfl)) (fun _ _ _ h => h) (Or.inl ⟨by rfl, ?_⟩) ?_ ?_
                      rotate_left
                      · intro w'
                        go_simp
                        with_reducible rfl
                      rotate_left
                      · simp only [Act.put, List.setIfInBounds_toArray, List.set_cons_zero, List.set_cons_succ, i64_w, i32_w]
                        rfl
                      refine take_ (i := 1) (N := some 10) (v := ?_) (a' := ?_) #[true, true, true, false, false, false, false, true, false, true, false, false, false, false, false, false] rfl rfl (take_ofW HT_.out HW_.out (by kernel_rfl)) (fun _ _ _ h => h) (Or.inl ⟨by rfl, ?_⟩) hHeld ?_ ?_
                      rotate_left
                      · rintro w' ⟨s0, s1⟩
                        go_simp
                        with_reducible rfl
                      rotate_left
                      · simp only [Act.put, List.setIfInBounds_toArray, List.set_cons_zero, List.set_cons_succ, i64_w, i32_w]
                        rfl
                      refine take_ (i := 3) (N := some 12) (v := ?_) (a' := ?_) #[true, true, true, true, false, false, false, true, false, true, false, false, false, false, false, false] rfl rfl (take_ofW HT_.out HW_.out (by kernel_rfl)) (fun _ _ _ h => h) (Or.inl ⟨by rfl, ?_⟩) hHeld ?_ ?_
                      rotate_left
                      · rintro w' ⟨s0, s1⟩
                        go_simp
                        with_reducible rfl
                      rotate_left
                      · simp only [Act.put, List.setIfInBounds_toArray, List.set_cons_zero, List.set_cons_succ, i64_w, i32_w]
                        rfl
                      refine pure_ (i := 4) (N := some 13) (v := ?_) (a' := ?_) #[true, true, true, true, true, false, false, true, false, true, false, false, false, false, false, false] rfl rfl (any_of HT_.out (by kernel_rfl)) (fun _ _ _ h => h) (Or.inl ⟨by rfl, ?_⟩) ?_ ?_
                      rotate_left
                      · intro w'
                        go_simp
                        with_reducible rfl
                      rotate_left
                      · simp only [Act.put, List.setIfInBounds_toArray, List.set_cons_zero, List.set_cons_succ, i64_w, i32_w]
                        rfl
                      refine pure_ (i := 5) (N := some 14) (v := ?_) (a' := ?_) #[true, true, true, true, true, true, false, true, false, true, false, false, false, false, false, false] rfl rfl (any_of HT_.out (by kernel_rfl)) (fun _ _ _ h => h) (Or.inl ⟨by rfl, ?_⟩) ?_ ?_
                      rotate_left
                      · intro w'
                        go_simp
                        with_reducible rfl
                      rotate_left
                      · simp only [Act.put, List.setIfInBounds_toArray, List.set_cons_zero, List.set_cons_succ, i64_w, i32_w]
                        rfl
                      refine pure_ (i := 6) (N := some 15) (v := ?_) (a' := ?_) #[true, true, true, true, true, true, true, true, false, true, false, false, false, false, false, false] rfl rfl (any_of HT_.out (by kernel_rfl)) (fun _ _ _ h => h) (Or.inl ⟨by rfl, ?_⟩) ?_ ?_
                      rotate_left
                      · intro w'
                        go_simp
                        with_reducible rfl
                      rotate_left
                      · simp only [Act.put, List.setIfInBounds_toArray, List.set_cons_zero, List.set_cons_succ, i64_w, i32_w]
                        rfl
                      refine take_ (i := 8) (N := some 17) (v := ?_) (a' := ?_) #[true, true, true, true, true, true, true, true, true, true, false, false, false, false, false, false] rfl rfl (take_ofW HT_.out HW_.out (by kernel_rfl)) (fun _ _ _ h => h) (Or.inl ⟨by rfl, ?_⟩) hHeld ?_ ?_
                      rotate_left
                      · rintro w' ⟨s0, s1⟩
                        go_simp
                        with_reducible rfl
                      rotate_left
                      · simp only [Act.put, List.setIfInBounds_toArray, List.set_cons_zero, List.set_cons_succ, i64_w, i32_w]
                        rfl
                      refine take_ (i := 10) (N := some 19) (v := ?_) (a' := ?_) #[true, true, true, true, true, true, true, true, true, true, true, false, false, false, false, false] rfl rfl (take_ofW HT_.out HW_.out (by kernel_rfl)) (fun _ _ _ h => h) (Or.inl ⟨by rfl, ?_⟩) hHeld ?_ ?_
                      rotate_left
                      · rintro w' ⟨s0, s1⟩
                        go_simp
                        with_reducible rfl
                      rotate_left
                      · simp only [Act.put, List.setIfInBounds_toArray, List.set_cons_zero, List.set_cons_succ, i64_w, i32_w]
                        rfl
                      refine pure_ (i := 11) (N := some 20) (v := ?_) (a' := ?_) #[true, true, true, true, true, true, true, true, true, true, true, true, false, false, false, false] rfl rfl (any_of HT_.out (by kernel_rfl)) (fun _ _ _ h => h) (Or.inl ⟨by rfl, ?_⟩) ?_ ?_
                      rotate_left
                      · intro w'
                        go_simp
                        with_reducible rfl
                      rotate_left
                      · simp only [Act.put, List.setIfInBounds_toArray, List.set_cons_zero, List.set_cons_succ, i64_w, i32_w]
                        rfl
                      refine pure_ (i := 12) (N := some 21) (v := ?_) (a' := ?_) #[true, true, true, true, true, true, true, true, true, true, true, true, true, false, false, false] rfl rfl (any_of HT_.out (by kernel_rfl)) (fun _ _ _ h => h) (Or.inl ⟨by rfl, ?_⟩) ?_ ?_
                      rotate_left
                      · intro w'
                        go_simp
                        with_reducible rfl
                      rotate_left
                      · simp only [Act.put, List.setIfInBounds_toArray, List.set_cons_zero, List.set_cons_succ, i64_w, i32_w]
                        rfl
                      refine pure_ (i := 13) (N := some 22) (v := ?_) (a' := ?_) #[true, true, true, true, true, true, true, true, true, true, true, true, true, true, false, false] rfl rfl (any_of HT_.out (by kernel_rfl)) (fun _ _ _ h => h) (Or.inl ⟨by rfl, ?_⟩) ?_ ?_
                      rotate_left
                      · intro w'
                        go_simp
                        with_reducible rfl
                      rotate_left
                      · simp only [Act.put, List.setIfInBounds_toArray, List.set_cons_zero, List.set_cons_succ, i64_w, i32_w]
                        rfl
                      refine pure_ (i := 14) (N := some 23) (v := ?_) (a' := ?_) #[true, true, true, true, true, true, true, true, true, true, true, true, true, true, true, false] rfl rfl (any_of HT_.out (by kernel_rfl)) (fun _ _ _ h => h) (Or.inl ⟨by rfl, ?_⟩) ?_ ?_
                      rotate_left
                      · intro w'
                        go_simp
                        with_reducible rfl
                      rotate_left
                      · simp only [Act.put, List.setIfInBounds_toArray, List.set_cons_zero, List.set_cons_succ, i64_w, i32_w]
                        rfl
                      refine last_ (i := 15) (N := none) #[true, true, true, true, true, true, true, true, true, true, true, true, true, true, true, true] rfl rfl (one_of HT_.out (by kernel_rfl)) (by decide) (fun K hK => ?_)
                      have hs21 : w20.cell? ⟨gb293, 0, none⟩ = some (.string a0_0) := (blk_cell BK293.out 0).trans rfl
                      have hfs21 := blk_frozen BK293.out 0
                      have hs22 : w20.cell? ⟨gb293, 1, none⟩ = some (.string a0_1) := (blk_cell BK293.out 1).trans rfl
                      have hfs22 := blk_frozen BK293.out 1
                      refine skip_ (w1 := ?_) (by rfl) rfl ?_ ?_
                      rotate_left
                      · go_simp
                        rfl
                      refine hK.out _ _ ?_
                      clear hK K
                      refine done_ (done_of HT_.out (by kernel_rfl)) ?_
                      have hcz23_0 : w20.cell? ⟨gb293, 0, none⟩ = some (.string a0_0) := (blk_cell BK293.out 0).trans rfl
                      have hcz23_1 : w20.cell? ⟨gb293, 1, none⟩ = some (.string a0_1) := (blk_cell BK293.out 1).trans rfl
                      have hfz23_0 := blk_frozen BK293.out 0
                      have hfz23_1 := blk_frozen BK293.out 1
                      try go_wp2_with (first | ((with_reducible refine gate_callee (f := 14) rfl ?_); refine goesL_ (some 25) rfl rfl Tryd.func14 (by kernel_rfl) rfl #[.agg #[.string (a0_0.extract 0 ((ji3) : Int).toNat), .string (a0_1.extract 0 ((ji6) : Int).toNat)]] rfl (by (try simp only [List.map_toArray, List.map_cons, List.map_nil]); first | done | (simp only [hji3, hji6]; rfl) | rfl | (simp only [List.length_drop, List.length_take]; rfl)) ?_; (with_reducible refine (pax_Size.calls (a0_0.extract 0 ((ji3) : Int).toNat) (a0_1.extract 0 ((ji6) : Int).toNat) t295 _ A9.out).mono ?_); rintro e w24 ⟨rfl, hb⟩; refine ⟨_, rfl, ?_⟩; have n0_ := Aside0.mk (blk_below (g := gb293) (o := .cells #[.string (a0_0.extract 0 ((ji3) : Int).toNat), .string (a0_1.extract 0 ((ji6) : Int).toNat)] 31 (0, 0)) (by (with_reducible repeat (first | refine blk_drewN ?_ _ | refine blk_drew ?_ | refine blk_alloc ?_ _)); refine blk_put (cs := #[.string (a0_0.extract 0 ((ji3) : Int).toNat), .string a0_1]) ?_ 1 _ rfl; (with_reducible repeat (first | refine blk_drewN ?_ _ | refine blk_drew ?_ | refine blk_alloc ?_ _)); refine blk_put (cs := #[.string a0_0, .string a0_1]) ?_ 0 _ rfl; (with_reducible repeat (first | refine blk_drewN ?_ _ | refine blk_drew ?_ | refine blk_alloc ?_ _)); exact BK293.out) hb); have n1_ := Aside0.mk (below_step (by repeat (first | (with_reducible first | exact HB.out | apply below_alloc | apply pw_below_drewN | apply below_drew1 | refine below_set ?_ GE293.out) | exact HB.out)) hb); clear BK293; clear HB; have BK293 := n0_; have HB := n1_; clear n0_ n1_; (try clear hb); (try clear hb2); (try clear hk); (try clear hi); have hcz25_0 : w24.cell? ⟨gb293, 0, none⟩ = some (.string (a0_0.extract 0 ((ji3) : Int).toNat)) := (blk_cell BK293.out 0).trans rfl; have hcz25_1 : w24.cell? ⟨gb293, 1, none⟩ = some (.string (a0_1.extract 0 ((ji6) : Int).toNat)) := (blk_cell BK293.out 1).trans rfl; have hfz25_0 := blk_frozen BK293.out 0; have hfz25_1 := blk_frozen BK293.out 1) | ((with_reducible refine gate_callee (f := 15) rfl ?_); refine goesL_ (some 28) rfl rfl Tryd.func15 (by kernel_rfl) rfl #[.agg #[.string (a0_0.extract 0 ((ji3) : Int).toNat), .string (a0_1.extract 0 ((ji6) : Int).toNat)]] rfl (by (try simp only [List.map_toArray, List.map_cons, List.map_nil]); first | done | (simp only [hji3, hji6]; rfl) | rfl | (simp only [List.length_drop, List.length_take]; rfl)) ?_; (with_reducible refine (pax_One.calls (a0_0.extract 0 ((ji3) : Int).toNat) (a0_1.extract 0 ((ji6) : Int).toNat) t296 t297 _ A10.out).mono ?_); rintro e w26 ⟨rfl, hb⟩; refine ⟨_, rfl, ?_⟩; have n0_ := Aside0.mk (blk_below (g := gb293) (o := .cells #[.string (a0_0.extract 0 ((ji3) : Int).toNat), .string (a0_1.extract 0 ((ji6) : Int).toNat)] 31 (0, 0)) (by (with_reducible repeat (first | refine blk_drewN ?_ _ | refine blk_drew ?_ | refine blk_alloc ?_ _)); exact BK293.out) hb); have n1_ := Aside0.mk (below_step (by repeat (first | (with_reducible first | exact HB.out | apply below_alloc | apply pw_below_drewN | apply below_drew1 | refine below_set ?_ GE293.out) | exact HB.out)) hb); clear BK293; clear HB; have BK293 := n0_; have HB := n1_; clear n0_ n1_; (try clear hb); (try clear hb2); (try clear hk); (try clear hi); have hcz27_0 : w26.cell? ⟨gb293, 0, none⟩ = some (.string (a0_0.extract 0 ((ji3) : Int).toNat)) := (blk_cell BK293.out 0).trans rfl; have hcz27_1 : w26.cell? ⟨gb293, 1, none⟩ = some (.string (a0_1.extract 0 ((ji6) : Int).toNat)) := (blk_cell BK293.out 1).trans rfl; have hfz27_0 := blk_frozen BK293.out 0; have hfz27_1 := blk_frozen BK293.out 1) | ((with_reducible refine gate_callee (f := 14) rfl ?_); refine goesL_ (some 48) rfl rfl Tryd.func14 (by kernel_rfl) rfl #[.agg #[.string (a0_0.extract 0 ((ji3) : Int).toNat), .string ((a0_1.extract 0 ((ji6) : Int).toNat) ++ (⟨#[120]⟩ : ByteArray))]] rfl (by (try simp only [List.map_toArray, List.map_cons, List.map_nil]); first | done | (simp only [hji3, hji6]; rfl) | rfl | (simp only [List.length_drop, List.length_take]; rfl)) ?_; (with_reducible refine (pax_Size.calls (a0_0.extract 0 ((ji3) : Int).toNat) ((a0_1.extract 0 ((ji6) : Int).toNat) ++ (⟨#[120]⟩ : ByteArray)) t298 _ A13.out).mono ?_); rintro e w28 ⟨rfl, hb⟩; refine ⟨_, rfl, ?_⟩; have n0_ := Aside0.mk (blk_below (g := gb293) (o := .cells #[.string (a0_0.extract 0 ((ji3) : Int).toNat), .string (a0_1.extract 0 ((ji6) : Int).toNat)] 31 (0, 0)) (by (with_reducible repeat (first | refine blk_drewN ?_ _ | refine blk_drew ?_ | refine blk_alloc ?_ _)); exact BK293.out) hb); have n1_ := Aside0.mk (below_step (by repeat (first | (with_reducible first | exact HB.out | apply below_alloc | apply pw_below_drewN | apply below_drew1 | refine below_set ?_ GE293.out) | exact HB.out)) hb); clear BK293; clear HB; have BK293 := n0_; have HB := n1_; clear n0_ n1_; (try clear hb); (try clear hb2); (try clear hk); (try clear hi); have hcz29_0 : w28.cell? ⟨gb293, 0, none⟩ = some (.string (a0_0.extract 0 ((ji3) : Int).toNat)) := (blk_cell BK293.out 0).trans rfl; have hcz29_1 : w28.cell? ⟨gb293, 1, none⟩ = some (.string (a0_1.extract 0 ((ji6) : Int).toNat)) := (blk_cell BK293.out 1).trans rfl; have hfz29_0 := blk_frozen BK293.out 0; have hfz29_1 := blk_frozen BK293.out 1))
                      go_ret
                      have hwq := HWQ.out
                      exact ⟨by first | rfl | (simp [errW_none, errW_some] <;> rfl) | (simp only [← hji3, ← hji6]; first | rfl | (simp [errW_none, errW_some] <;> rfl)) | (simp [*, errW_none, errW_some] <;> rfl), by repeat (first | (with_reducible first | exact HB.out | apply below_alloc | apply pw_below_drewN | apply below_drew1 | refine below_set ?_ GE293.out) | exact HB.out)⟩
                    · rw [if_neg c17] at H
                      have c17b0 : decide ((wrap64 ((wrap64 (((a0_0.extract 0 ((ji3) : Int).toNat).size : Int) + ((a0_1.extract 0 ((ji6) : Int).toNat).size : Int))) + 4)) ≤ t295) = false := decide_eq_false c17
                      rw [hwq4] at c17b0
                      clear hwq4
                      clear c17
                      exact absurd ((Option.some.inj H).trans hr) (by decide)
                  · rw [if_neg c16] at H
                    have c16b0 : (t298 == (wrap64 (t295 + 1))) = false := beq_eq_false_iff_ne.mpr c16
                    have c16b1 : (t298 != (wrap64 (t295 + 1))) = true := bne_iff_ne.mpr c16
                    by_cases c42 : t298 = (wrap64 (t295 + 2))
                    · rw [if_pos c42] at H
                      have c42b0 : (t298 == (wrap64 (t295 + 2))) = true := beq_iff_eq.mpr c42
                      have c42b1 : (t298 != (wrap64 (t295 + 2))) = false := bne_eq_false_iff_eq.mpr c42
                      clear c42
                      by_cases c43 : t295 ≥ (wrap64 ((wrap64 (((a0_0.extract 0 ((ji3) : Int).toNat).size : Int) + ((a0_1.extract 0 ((ji6) : Int).toNat).size : Int))) + 4))
                      · rw [if_pos c43] at H
                        have c43b0 : decide ((wrap64 ((wrap64 (((a0_0.extract 0 ((ji3) : Int).toNat).size : Int) + ((a0_1.extract 0 ((ji6) : Int).toNat).size : Int))) + 4)) ≤ t295) = true := decide_eq_true c43
                        rw [hwq4] at c43b0
                        clear hwq4
                        clear c43
                        obtain rfl := Option.some.inj H
                        go_enter Tryd.func4, Tryd.ntmps4
                        try go_wp2_with (first | ((with_reducible refine gate_dst (N := 1) rfl ?_); (try (refine gate_guard (by rfl) ?_; dsimp only)); refine box_event ?hg (N := 1) ?hd (cs := #[.string a0_0, .string a0_1]) (t := 31) ?hr ?_; (case hd => rfl); (case hg => rfl); (case hr => first | (go_simp; done) | (go_simp; rfl)); intro gb293 hg w44 hbox hb; have n0_ := Aside0.mk (below_step (by repeat (first | (with_reducible first | exact HB.out | apply below_alloc | apply pw_below_drewN | apply below_drew1) | exact HB.out)) hb); have n1_ := Aside0.mk (hbox); have n2_ := Aside0.mk ((by rw [hg]; exact (below_size (by repeat (first | (with_reducible first | exact HB.out | apply below_alloc | apply pw_below_drewN | apply below_drew1) | exact HB.out))) : w.heap.size ≤ gb293)); have n3_ := Aside0.mk ((by rw [hg]; exact (below_size (by repeat (first | (with_reducible first | exact HB.out | apply below_alloc | apply pw_below_drewN | apply below_drew1) | exact HB.out))) : w.heap.size ≤ gb293)); clear HB; have HB := n0_; have BK293 := n1_; have GW293 := n2_; have GE293 := n3_; clear n0_ n1_ n2_ n3_; clear hb hbox hg) | ((with_reducible refine gate_callee (f := 9) rfl ?_); refine goesL_ (some 8) rfl rfl Tryd.func9 (by kernel_rfl) rfl #[] rfl (by (try simp only [List.map_toArray, List.map_cons, List.map_nil]); first | done | rfl | (simp only [List.length_drop, List.length_take]; rfl)) ?_; (with_reducible refine (pleacherlaw09_shown.calls  true _ ?side1 A2.out).mono ?_); (case side1 => exact GW.below HG.out (by repeat (first | (with_reducible first | exact HB.out | apply below_alloc | apply pw_below_drewN | apply below_drew1 | refine below_set ?_ GE293.out) | exact HB.out))); rintro e w45 ⟨rfl, hb⟩; refine ⟨_, rfl, ?_⟩; have n0_ := Aside0.mk (blk_below (g := gb293) (o := .cells #[.string a0_0, .string a0_1] 31 (0, 0)) (by (with_reducible repeat (first | refine blk_drewN ?_ _ | refine blk_drew ?_ | refine blk_alloc ?_ _)); exact BK293.out) hb); have n1_ := Aside0.mk (below_step (by repeat (first | (with_reducible first | exact HB.out | apply below_alloc | apply pw_below_drewN | apply below_drew1 | refine below_set ?_ GE293.out) | exact HB.out)) hb); clear BK293; clear HB; have BK293 := n0_; have HB := n1_; clear n0_ n1_; (try clear hb); (try clear hb2); (try clear hk); (try clear hi)))
                        have n0_ := Aside0.mk (blk_drew BK293.out)
                        have n1_ := Aside0.mk (below_drew1 HB.out)
                        clear BK293
                        clear HB
                        have BK293 := n0_
                        have HB := n1_
                        clear n0_ n1_
                        refine start_ (n := 16) (S := fun w' => w'.cell? ⟨gb293, 0, none⟩ = some (.string a0_0) ∧ w'.cell? ⟨gb293, 1, none⟩ = some (.string a0_1)) (ds := [15]) #[false, false, false, false, false, false, false, false, false, false, false, false, false, false, false, false] (by kernel_rfl) rfl rfl ⟨(blk_cell BK293.out 0).trans rfl, (blk_cell BK293.out 1).trans rfl⟩ (fun hHeld => ?_); refine with_tabW pleacherlaw09_PaxCounts.tab2 pleacherlaw09_PaxCounts.bits2 (fun HT_ HW_ => ?_)
                        generalize w45.drew = w46 at BK293 HB hHeld ⊢
                        refine pure_ (i := 0) (N := some 9) (v := ?_) (a' := ?_) #[true, false, false, false, false, false, false, false, false, false, false, false, false, false, false, false] rfl rfl (any_of HT_.out (by kernel_rfl)) (fun _ _ _ h => h) (Or.inl ⟨by rfl, ?_⟩) ?_ ?_
                        rotate_left
                        · intro w'
                          go_simp
                          with_reducible rfl
                        rotate_left
                        · simp only [Act.put, List.setIfInBounds_toArray, List.set_cons_zero, List.set_cons_succ, i64_w, i32_w]
                          rfl
                        refine pure_ (i := 2) (N := some 11) (v := ?_) (a' := ?_) #[true, false, true, false, false, false, false, false, false, false, false, false, false, false, false, false] rfl rfl (any_of HT_.out (by kernel_rfl)) (fun _ _ _ h => h) (Or.inl ⟨by rfl, ?_⟩) ?_ ?_
                        rotate_left
                        · intro w'
                          go_simp
                          with_reducible rfl
                        rotate_left
                        · simp only [Act.put, List.setIfInBounds_toArray, List.set_cons_zero, List.set_cons_succ, i64_w, i32_w]
                          rfl
                        refine pure_ (i := 7) (N := some 16) (v := ?_) (a' := ?_) #[true, false, true, false, false, false, false, true, false, false, false, false, false, false, false, false] rfl rfl (any_of HT_.out (by kernel_rfl)) (fun _ _ _ h => h) (Or.inl ⟨by rfl, ?_⟩) ?_ ?_
                        rotate_left
                        · intro w'
                          go_simp
                          with_reducible rfl
                        rotate_left
                        · simp only [Act.put, List.setIfInBounds_toArray, List.set_cons_zero, List.set_cons_succ, i64_w, i32_w]
                          rfl
                        refine pure_ (i := 9) (N := some 18) (v := ?_) (a' := ?_) #[true, false, true, false, false, false, false, true, false, true, false, false, false, false, false, false] rfl rfl (any_of HT_.out (by kernel_rfl)) (fun _ _ _ h => h) (Or.inl ⟨by rfl, ?_⟩) ?_ ?_
                        rotate_left
                        · intro w'
                          go_simp
                          with_reducible rfl
                        rotate_left
                        · simp only [Act.put, List.setIfInBounds_toArray, List.set_cons_zero, List.set_cons_succ, i64_w, i32_w]
                          rfl
                        refine take_ (i := 1) (N := some 10) (v := ?_) (a' := ?_) #[true, true, true, false, false, false, false, true, false, true, false, false, false, false, false, false] rfl rfl (take_ofW HT_.out HW_.out (by kernel_rfl)) (fun _ _ _ h => h) (Or.inl ⟨by rfl, ?_⟩) hHeld ?_ ?_
                        rotate_left
                        · rintro w' ⟨s0, s1⟩
                          go_simp
                          with_reducible rfl
                        rotate_left
                        · simp only [Act.put, List.setIfInBounds_toArray, List.set_cons_zero, List.set_cons_succ, i64_w, i32_w]
                          rfl
                        refine take_ (i := 3) (N := some 12) (v := ?_) (a' := ?_) #[true, true, true, true, false, false, false, true, false, true, false, false, false, false, false, false] rfl rfl (take_ofW HT_.out HW_.out (by kernel_rfl)) (fun _ _ _ h => h) (Or.inl ⟨by rfl, ?_⟩) hHeld ?_ ?_
                        rotate_left
                        · rintro w' ⟨s0, s1⟩
                          go_simp
                          with_reducible rfl
                        rotate_left
                        · simp only [Act.put, List.setIfInBounds_toArray, List.set_cons_zero, List.set_cons_succ, i64_w, i32_w]
                          rfl
                        refine pure_ (i := 4) (N := some 13) (v := ?_) (a' := ?_) #[true, true, true, true, true, false, false, true, false, true, false, false, false, false, false, false] rfl rfl (any_of HT_.out (by kernel_rfl)) (fun _ _ _ h => h) (Or.inl ⟨by rfl, ?_⟩) ?_ ?_
                        rotate_left
                        · intro w'
                          go_simp
                          with_reducible rfl
                        rotate_left
                        · simp only [Act.put, List.setIfInBounds_toArray, List.set_cons_zero, List.set_cons_succ, i64_w, i32_w]
                          rfl
                        refine pure_ (i := 5) (N := some 14) (v := ?_) (a' := ?_) #[true, true, true, true, true, true, false, true, false, true, false, false, false, false, false, false] rfl rfl (any_of HT_.out (by kernel_rfl)) (fun _ _ _ h => h) (Or.inl ⟨by rfl, ?_⟩) ?_ ?_
                        rotate_left
                        · intro w'
                          go_simp
                          with_reducible rfl
                        rotate_left
                        · simp only [Act.put, List.setIfInBounds_toArray, List.set_cons_zero, List.set_cons_succ, i64_w, i32_w]
                          rfl
                        refine pure_ (i := 6) (N := some 15) (v := ?_) (a' := ?_) #[true, true, true, true, true, true, true, true, false, true, false, false, false, false, false, false] rfl rfl (any_of HT_.out (by kernel_rfl)) (fun _ _ _ h => h) (Or.inl ⟨by rfl, ?_⟩) ?_ ?_
                        rotate_left
                        · intro w'
                          go_simp
                          with_reducible rfl
                        rotate_left
                        · simp only [Act.put, List.setIfInBounds_toArray, List.set_cons_zero, List.set_cons_succ, i64_w, i32_w]
                          rfl
                        refine take_ (i := 8) (N := some 17) (v := ?_) (a' := ?_) #[true, true, true, true, true, true, true, true, true, true, false, false, false, false, false, false] rfl rfl (take_ofW HT_.out HW_.out (by kernel_rfl)) (fun _ _ _ h => h) (Or.inl ⟨by rfl, ?_⟩) hHeld ?_ ?_
                        rotate_left
                        · rintro w' ⟨s0, s1⟩
                          go_simp
                          with_reducible rfl
                        rotate_left
                        · simp only [Act.put, List.setIfInBounds_toArray, List.set_cons_zero, List.set_cons_succ, i64_w, i32_w]
                          rfl
                        refine take_ (i := 10) (N := some 19) (v := ?_) (a' := ?_) #[true, true, true, true, true, true, true, true, true, true, true, false, false, false, false, false] rfl rfl (take_ofW HT_.out HW_.out (by kernel_rfl)) (fun _ _ _ h => h) (Or.inl ⟨by rfl, ?_⟩) hHeld ?_ ?_
                        rotate_left
                        · rintro w' ⟨s0, s1⟩
                          go_simp
                          with_reducible rfl
                        rotate_left
                        · simp only [Act.put, List.setIfInBounds_toArray, List.set_cons_zero, List.set_cons_succ, i64_w, i32_w]
                          rfl
                        refine pure_ (i := 11) (N := some 20) (v := ?_) (a' := ?_) #[true, true, true, true, true, true, true, true, true, true, true, true, false, false, false, false] rfl rfl (any_of HT_.out (by kernel_rfl)) (fun _ _ _ h => h) (Or.inl ⟨by rfl, ?_⟩) ?_ ?_
                        rotate_left
                        · intro w'
                          go_simp
                          with_reducible rfl
                        rotate_left
                        · simp only [Act.put, List.setIfInBounds_toArray, List.set_cons_zero, List.set_cons_succ, i64_w, i32_w]
                          rfl
                        refine pure_ (i := 12) (N := some 21) (v := ?_) (a' := ?_) #[true, true, true, true, true, true, true, true, true, true, true, true, true, false, false, false] rfl rfl (any_of HT_.out (by kernel_rfl)) (fun _ _ _ h => h) (Or.inl ⟨by rfl, ?_⟩) ?_ ?_
                        rotate_left
                        · intro w'
                          go_simp
                          with_reducible rfl
                        rotate_left
                        · simp only [Act.put, List.setIfInBounds_toArray, List.set_cons_zero, List.set_cons_succ, i64_w, i32_w]
                          rfl
                        refine pure_ (i := 13) (N := some 22) (v := ?_) (a' := ?_) #[true, true, true, true, true, true, true, true, true, true, true, true, true, true, false, false] rfl rfl (any_of HT_.out (by kernel_rfl)) (fun _ _ _ h => h) (Or.inl ⟨by rfl, ?_⟩) ?_ ?_
                        rotate_left
                        · intro w'
                          go_simp
                          with_reducible rfl
                        rotate_left
                        · simp only [Act.put, List.setIfInBounds_toArray, List.set_cons_zero, List.set_cons_succ, i64_w, i32_w]
                          rfl
                        refine pure_ (i := 14) (N := some 23) (v := ?_) (a' := ?_) #[true, true, true, true, true, true, true, true, true, true, true, true, true, true, true, false] rfl rfl (any_of HT_.out (by kernel_rfl)) (fun _ _ _ h => h) (Or.inl ⟨by rfl, ?_⟩) ?_ ?_
                        rotate_left
                        · intro w'
                          go_simp
                          with_reducible rfl
                        rotate_left
                        · simp only [Act.put, List.setIfInBounds_toArray, List.set_cons_zero, List.set_cons_succ, i64_w, i32_w]
                          rfl
                        refine last_ (i := 15) (N := none) #[true, true, true, true, true, true, true, true, true, true, true, true, true, true, true, true] rfl rfl (one_of HT_.out (by kernel_rfl)) (by decide) (fun K hK => ?_)
                        have hs47 : w46.cell? ⟨gb293, 0, none⟩ = some (.string a0_0) := (blk_cell BK293.out 0).trans rfl
                        have hfs47 := blk_frozen BK293.out 0
                        have hs48 : w46.cell? ⟨gb293, 1, none⟩ = some (.string a0_1) := (blk_cell BK293.out 1).trans rfl
                        have hfs48 := blk_frozen BK293.out 1
                        refine skip_ (w1 := ?_) (by rfl) rfl ?_ ?_
                        rotate_left
                        · go_simp
                          rfl
                        refine hK.out _ _ ?_
                        clear hK K
                        refine done_ (done_of HT_.out (by kernel_rfl)) ?_
                        have hcz49_0 : w46.cell? ⟨gb293, 0, none⟩ = some (.string a0_0) := (blk_cell BK293.out 0).trans rfl
                        have hcz49_1 : w46.cell? ⟨gb293, 1, none⟩ = some (.string a0_1) := (blk_cell BK293.out 1).trans rfl
                        have hfz49_0 := blk_frozen BK293.out 0
                        have hfz49_1 := blk_frozen BK293.out 1
                        try go_wp2_with (first | ((with_reducible refine gate_callee (f := 14) rfl ?_); refine goesL_ (some 25) rfl rfl Tryd.func14 (by kernel_rfl) rfl #[.agg #[.string (a0_0.extract 0 ((ji3) : Int).toNat), .string (a0_1.extract 0 ((ji6) : Int).toNat)]] rfl (by (try simp only [List.map_toArray, List.map_cons, List.map_nil]); first | done | (simp only [hji3, hji6]; rfl) | rfl | (simp only [List.length_drop, List.length_take]; rfl)) ?_; (with_reducible refine (pax_Size.calls (a0_0.extract 0 ((ji3) : Int).toNat) (a0_1.extract 0 ((ji6) : Int).toNat) t295 _ A9.out).mono ?_); rintro e w50 ⟨rfl, hb⟩; refine ⟨_, rfl, ?_⟩; have n0_ := Aside0.mk (blk_below (g := gb293) (o := .cells #[.string (a0_0.extract 0 ((ji3) : Int).toNat), .string (a0_1.extract 0 ((ji6) : Int).toNat)] 31 (0, 0)) (by (with_reducible repeat (first | refine blk_drewN ?_ _ | refine blk_drew ?_ | refine blk_alloc ?_ _)); refine blk_put (cs := #[.string (a0_0.extract 0 ((ji3) : Int).toNat), .string a0_1]) ?_ 1 _ rfl; (with_reducible repeat (first | refine blk_drewN ?_ _ | refine blk_drew ?_ | refine blk_alloc ?_ _)); refine blk_put (cs := #[.string a0_0, .string a0_1]) ?_ 0 _ rfl; (with_reducible repeat (first | refine blk_drewN ?_ _ | refine blk_drew ?_ | refine blk_alloc ?_ _)); exact BK293.out) hb); have n1_ := Aside0.mk (below_step (by repeat (first | (with_reducible first | exact HB.out | apply below_alloc | apply pw_below_drewN | apply below_drew1 | refine below_set ?_ GE293.out) | exact HB.out)) hb); clear BK293; clear HB; have BK293 := n0_; have HB := n1_; clear n0_ n1_; (try clear hb); (try clear hb2); (try clear hk); (try clear hi); have hcz51_0 : w50.cell? ⟨gb293, 0, none⟩ = some (.string (a0_0.extract 0 ((ji3) : Int).toNat)) := (blk_cell BK293.out 0).trans rfl; have hcz51_1 : w50.cell? ⟨gb293, 1, none⟩ = some (.string (a0_1.extract 0 ((ji6) : Int).toNat)) := (blk_cell BK293.out 1).trans rfl; have hfz51_0 := blk_frozen BK293.out 0; have hfz51_1 := blk_frozen BK293.out 1) | ((with_reducible refine gate_callee (f := 15) rfl ?_); refine goesL_ (some 28) rfl rfl Tryd.func15 (by kernel_rfl) rfl #[.agg #[.string (a0_0.extract 0 ((ji3) : Int).toNat), .string (a0_1.extract 0 ((ji6) : Int).toNat)]] rfl (by (try simp only [List.map_toArray, List.map_cons, List.map_nil]); first | done | (simp only [hji3, hji6]; rfl) | rfl | (simp only [List.length_drop, List.length_take]; rfl)) ?_; (with_reducible refine (pax_One.calls (a0_0.extract 0 ((ji3) : Int).toNat) (a0_1.extract 0 ((ji6) : Int).toNat) t296 t297 _ A10.out).mono ?_); rintro e w52 ⟨rfl, hb⟩; refine ⟨_, rfl, ?_⟩; have n0_ := Aside0.mk (blk_below (g := gb293) (o := .cells #[.string (a0_0.extract 0 ((ji3) : Int).toNat), .string (a0_1.extract 0 ((ji6) : Int).toNat)] 31 (0, 0)) (by (with_reducible repeat (first | refine blk_drewN ?_ _ | refine blk_drew ?_ | refine blk_alloc ?_ _)); exact BK293.out) hb); have n1_ := Aside0.mk (below_step (by repeat (first | (with_reducible first | exact HB.out | apply below_alloc | apply pw_below_drewN | apply below_drew1 | refine below_set ?_ GE293.out) | exact HB.out)) hb); clear BK293; clear HB; have BK293 := n0_; have HB := n1_; clear n0_ n1_; (try clear hb); (try clear hb2); (try clear hk); (try clear hi); have hcz53_0 : w52.cell? ⟨gb293, 0, none⟩ = some (.string (a0_0.extract 0 ((ji3) : Int).toNat)) := (blk_cell BK293.out 0).trans rfl; have hcz53_1 : w52.cell? ⟨gb293, 1, none⟩ = some (.string (a0_1.extract 0 ((ji6) : Int).toNat)) := (blk_cell BK293.out 1).trans rfl; have hfz53_0 := blk_frozen BK293.out 0; have hfz53_1 := blk_frozen BK293.out 1) | ((with_reducible refine gate_callee (f := 14) rfl ?_); refine goesL_ (some 48) rfl rfl Tryd.func14 (by kernel_rfl) rfl #[.agg #[.string (a0_0.extract 0 ((ji3) : Int).toNat), .string ((a0_1.extract 0 ((ji6) : Int).toNat) ++ (⟨#[120]⟩ : ByteArray))]] rfl (by (try simp only [List.map_toArray, List.map_cons, List.map_nil]); first | done | (simp only [hji3, hji6]; rfl) | rfl | (simp only [List.length_drop, List.length_take]; rfl)) ?_; (with_reducible refine (pax_Size.calls (a0_0.extract 0 ((ji3) : Int).toNat) ((a0_1.extract 0 ((ji6) : Int).toNat) ++ (⟨#[120]⟩ : ByteArray)) t298 _ A13.out).mono ?_); rintro e w54 ⟨rfl, hb⟩; refine ⟨_, rfl, ?_⟩; have n0_ := Aside0.mk (blk_below (g := gb293) (o := .cells #[.string (a0_0.extract 0 ((ji3) : Int).toNat), .string (a0_1.extract 0 ((ji6) : Int).toNat)] 31 (0, 0)) (by (with_reducible repeat (first | refine blk_drewN ?_ _ | refine blk_drew ?_ | refine blk_alloc ?_ _)); exact BK293.out) hb); have n1_ := Aside0.mk (below_step (by repeat (first | (with_reducible first | exact HB.out | apply below_alloc | apply pw_below_drewN | apply below_drew1 | refine below_set ?_ GE293.out) | exact HB.out)) hb); clear BK293; clear HB; have BK293 := n0_; have HB := n1_; clear n0_ n1_; (try clear hb); (try clear hb2); (try clear hk); (try clear hi); have hcz55_0 : w54.cell? ⟨gb293, 0, none⟩ = some (.string (a0_0.extract 0 ((ji3) : Int).toNat)) := (blk_cell BK293.out 0).trans rfl; have hcz55_1 : w54.cell? ⟨gb293, 1, none⟩ = some (.string (a0_1.extract 0 ((ji6) : Int).toNat)) := (blk_cell BK293.out 1).trans rfl; have hfz55_0 := blk_frozen BK293.out 0; have hfz55_1 := blk_frozen BK293.out 1))
                        go_ret
                        have hwq := HWQ.out
                        exact ⟨by first | rfl | (simp [errW_none, errW_some] <;> rfl) | (simp only [← hji3, ← hji6]; first | rfl | (simp [errW_none, errW_some] <;> rfl)) | (simp [*, errW_none, errW_some] <;> rfl), by repeat (first | (with_reducible first | exact HB.out | apply below_alloc | apply pw_below_drewN | apply below_drew1 | refine below_set ?_ GE293.out) | exact HB.out)⟩
                      · rw [if_neg c43] at H
                        have c43b0 : decide ((wrap64 ((wrap64 (((a0_0.extract 0 ((ji3) : Int).toNat).size : Int) + ((a0_1.extract 0 ((ji6) : Int).toNat).size : Int))) + 4)) ≤ t295) = false := decide_eq_false c43
                        rw [hwq4] at c43b0
                        clear hwq4
                        clear c43
                        exact absurd ((Option.some.inj H).trans hr) (by decide)
                    · rw [if_neg c42] at H
                      have c42b0 : (t298 == (wrap64 (t295 + 2))) = false := beq_eq_false_iff_ne.mpr c42
                      have c42b1 : (t298 != (wrap64 (t295 + 2))) = true := bne_iff_ne.mpr c42
                      exact absurd ((Option.some.inj H).trans hr) (by decide)
                · rw [if_neg c15] at H
                  have c15b0 : (t295 == (t296.size : Int)) = false := beq_eq_false_iff_ne.mpr c15
                  have c15b1 : (t295 != (t296.size : Int)) = true := bne_iff_ne.mpr c15
                  exact absurd ((Option.some.inj H).trans hr) (by decide)
              · replace c14 := Bool.eq_false_iff.mpr c14
                subst c14
                have H1 : (some false) = some r := by rw [if_neg (show ¬ (false = true) by decide)] at H; exact H
                clear H
                have H := H1
                clear H1
                exact absurd ((Option.some.inj H).trans hr) (by decide)
            · rw [if_neg c12] at H
              exact absurd H (by simp)
          · rw [if_neg c11] at H
            have c11b0 : (t297 == 0) = false := beq_eq_false_iff_ne.mpr c11
            have c11b1 : (t297 != 0) = true := bne_iff_ne.mpr c11
            by_cases c101 : t294 = true
            · subst c101
              have H1 : (if t295 = 0 then (some (t296.toList == ([] : List UInt8))) else (some false)) = some r := by rw [if_pos rfl] at H; exact H
              clear H
              have H := H1
              clear H1
              by_cases c102 : t295 = 0
              · rw [if_pos c102] at H
                have c102b0 : (t295 == 0) = true := beq_iff_eq.mpr c102
                have c102b1 : (t295 != 0) = false := bne_eq_false_iff_eq.mpr c102
                clear c102
                obtain rfl := Option.some.inj H
                go_enter Tryd.func4, Tryd.ntmps4
                try go_wp2_with (first | ((with_reducible refine gate_dst (N := 1) rfl ?_); (try (refine gate_guard (by rfl) ?_; dsimp only)); refine box_event ?hg (N := 1) ?hd (cs := #[.string a0_0, .string a0_1]) (t := 31) ?hr ?_; (case hd => rfl); (case hg => rfl); (case hr => first | (go_simp; done) | (go_simp; rfl)); intro gb293 hg w103 hbox hb; have n0_ := Aside0.mk (below_step (by repeat (first | (with_reducible first | exact HB.out | apply below_alloc | apply pw_below_drewN | apply below_drew1) | exact HB.out)) hb); have n1_ := Aside0.mk (hbox); have n2_ := Aside0.mk ((by rw [hg]; exact (below_size (by repeat (first | (with_reducible first | exact HB.out | apply below_alloc | apply pw_below_drewN | apply below_drew1) | exact HB.out))) : w.heap.size ≤ gb293)); have n3_ := Aside0.mk ((by rw [hg]; exact (below_size (by repeat (first | (with_reducible first | exact HB.out | apply below_alloc | apply pw_below_drewN | apply below_drew1) | exact HB.out))) : w.heap.size ≤ gb293)); clear HB; have HB := n0_; have BK293 := n1_; have GW293 := n2_; have GE293 := n3_; clear n0_ n1_ n2_ n3_; clear hb hbox hg) | ((with_reducible refine gate_callee (f := 9) rfl ?_); refine goesL_ (some 8) rfl rfl Tryd.func9 (by kernel_rfl) rfl #[] rfl (by (try simp only [List.map_toArray, List.map_cons, List.map_nil]); first | done | rfl | (simp only [List.length_drop, List.length_take]; rfl)) ?_; (with_reducible refine (pleacherlaw09_shown.calls  true _ ?side1 A2.out).mono ?_); (case side1 => exact GW.below HG.out (by repeat (first | (with_reducible first | exact HB.out | apply below_alloc | apply pw_below_drewN | apply below_drew1 | refine below_set ?_ GE293.out) | exact HB.out))); rintro e w104 ⟨rfl, hb⟩; refine ⟨_, rfl, ?_⟩; have n0_ := Aside0.mk (blk_below (g := gb293) (o := .cells #[.string a0_0, .string a0_1] 31 (0, 0)) (by (with_reducible repeat (first | refine blk_drewN ?_ _ | refine blk_drew ?_ | refine blk_alloc ?_ _)); exact BK293.out) hb); have n1_ := Aside0.mk (below_step (by repeat (first | (with_reducible first | exact HB.out | apply below_alloc | apply pw_below_drewN | apply below_drew1 | refine below_set ?_ GE293.out) | exact HB.out)) hb); clear BK293; clear HB; have BK293 := n0_; have HB := n1_; clear n0_ n1_; (try clear hb); (try clear hb2); (try clear hk); (try clear hi)))
                have n0_ := Aside0.mk (blk_drew BK293.out)
                have n1_ := Aside0.mk (below_drew1 HB.out)
                clear BK293
                clear HB
                have BK293 := n0_
                have HB := n1_
                clear n0_ n1_
                refine start_ (n := 16) (S := fun w' => w'.cell? ⟨gb293, 0, none⟩ = some (.string a0_0) ∧ w'.cell? ⟨gb293, 1, none⟩ = some (.string a0_1)) (ds := [15]) #[false, false, false, false, false, false, false, false, false, false, false, false, false, false, false, false] (by kernel_rfl) rfl rfl ⟨(blk_cell BK293.out 0).trans rfl, (blk_cell BK293.out 1).trans rfl⟩ (fun hHeld => ?_); refine with_tabW pleacherlaw09_PaxCounts.tab2 pleacherlaw09_PaxCounts.bits2 (fun HT_ HW_ => ?_)
                generalize w104.drew = w105 at BK293 HB hHeld ⊢
                refine pure_ (i := 0) (N := some 9) (v := ?_) (a' := ?_) #[true, false, false, false, false, false, false, false, false, false, false, false, false, false, false, false] rfl rfl (any_of HT_.out (by kernel_rfl)) (fun _ _ _ h => h) (Or.inl ⟨by rfl, ?_⟩) ?_ ?_
                rotate_left
                · intro w'
                  go_simp
                  with_reducible rfl
                rotate_left
                · simp only [Act.put, List.setIfInBounds_toArray, List.set_cons_zero, List.set_cons_succ, i64_w, i32_w]
                  rfl
                refine pure_ (i := 2) (N := some 11) (v := ?_) (a' := ?_) #[true, false, true, false, false, false, false, false, false, false, false, false, false, false, false, false] rfl rfl (any_of HT_.out (by kernel_rfl)) (fun _ _ _ h => h) (Or.inl ⟨by rfl, ?_⟩) ?_ ?_
                rotate_left
                · intro w'
                  go_simp
                  with_reducible rfl
                rotate_left
                · simp only [Act.put, List.setIfInBounds_toArray, List.set_cons_zero, List.set_cons_succ, i64_w, i32_w]
                  rfl
                refine pure_ (i := 7) (N := some 16) (v := ?_) (a' := ?_) #[true, false, true, false, false, false, false, true, false, false, false, false, false, false, false, false] rfl rfl (any_of HT_.out (by kernel_rfl)) (fun _ _ _ h => h) (Or.inl ⟨by rfl, ?_⟩) ?_ ?_
                rotate_left
                · intro w'
                  go_simp
                  with_reducible rfl
                rotate_left
                · simp only [Act.put, List.setIfInBounds_toArray, List.set_cons_zero, List.set_cons_succ, i64_w, i32_w]
                  rfl
                refine pure_ (i := 9) (N := some 18) (v := ?_) (a' := ?_) #[true, false, true, false, false, false, false, true, false, true, false, false, false, false, false, false] rfl rfl (any_of HT_.out (by kernel_rfl)) (fun _ _ _ h => h) (Or.inl ⟨by rfl, ?_⟩) ?_ ?_
                rotate_left
                · intro w'
                  go_simp
                  with_reducible rfl
                rotate_left
                · simp only [Act.put, List.setIfInBounds_toArray, List.set_cons_zero, List.set_cons_succ, i64_w, i32_w]
                  rfl
                refine take_ (i := 1) (N := some 10) (v := ?_) (a' := ?_) #[true, true, true, false, false, false, false, true, false, true, false, false, false, false, false, false] rfl rfl (take_ofW HT_.out HW_.out (by kernel_rfl)) (fun _ _ _ h => h) (Or.inl ⟨by rfl, ?_⟩) hHeld ?_ ?_
                rotate_left
                · rintro w' ⟨s0, s1⟩
                  go_simp
                  with_reducible rfl
                rotate_left
                · simp only [Act.put, List.setIfInBounds_toArray, List.set_cons_zero, List.set_cons_succ, i64_w, i32_w]
                  rfl
                refine take_ (i := 3) (N := some 12) (v := ?_) (a' := ?_) #[true, true, true, true, false, false, false, true, false, true, false, false, false, false, false, false] rfl rfl (take_ofW HT_.out HW_.out (by kernel_rfl)) (fun _ _ _ h => h) (Or.inl ⟨by rfl, ?_⟩) hHeld ?_ ?_
                rotate_left
                · rintro w' ⟨s0, s1⟩
                  go_simp
                  with_reducible rfl
                rotate_left
                · simp only [Act.put, List.setIfInBounds_toArray, List.set_cons_zero, List.set_cons_succ, i64_w, i32_w]
                  rfl
                refine pure_ (i := 4) (N := some 13) (v := ?_) (a' := ?_) #[true, true, true, true, true, false, false, true, false, true, false, false, false, false, false, false] rfl rfl (any_of HT_.out (by kernel_rfl)) (fun _ _ _ h => h) (Or.inl ⟨by rfl, ?_⟩) ?_ ?_
                rotate_left
                · intro w'
                  go_simp
                  with_reducible rfl
                rotate_left
                · simp only [Act.put, List.setIfInBounds_toArray, List.set_cons_zero, List.set_cons_succ, i64_w, i32_w]
                  rfl
                refine pure_ (i := 5) (N := some 14) (v := ?_) (a' := ?_) #[true, true, true, true, true, true, false, true, false, true, false, false, false, false, false, false] rfl rfl (any_of HT_.out (by kernel_rfl)) (fun _ _ _ h => h) (Or.inl ⟨by rfl, ?_⟩) ?_ ?_
                rotate_left
                · intro w'
                  go_simp
                  with_reducible rfl
                rotate_left
                · simp only [Act.put, List.setIfInBounds_toArray, List.set_cons_zero, List.set_cons_succ, i64_w, i32_w]
                  rfl
                refine pure_ (i := 6) (N := some 15) (v := ?_) (a' := ?_) #[true, true, true, true, true, true, true, true, false, true, false, false, false, false, false, false] rfl rfl (any_of HT_.out (by kernel_rfl)) (fun _ _ _ h => h) (Or.inl ⟨by rfl, ?_⟩) ?_ ?_
                rotate_left
                · intro w'
                  go_simp
                  with_reducible rfl
                rotate_left
                · simp only [Act.put, List.setIfInBounds_toArray, List.set_cons_zero, List.set_cons_succ, i64_w, i32_w]
                  rfl
                refine take_ (i := 8) (N := some 17) (v := ?_) (a' := ?_) #[true, true, true, true, true, true, true, true, true, true, false, false, false, false, false, false] rfl rfl (take_ofW HT_.out HW_.out (by kernel_rfl)) (fun _ _ _ h => h) (Or.inl ⟨by rfl, ?_⟩) hHeld ?_ ?_
                rotate_left
                · rintro w' ⟨s0, s1⟩
                  go_simp
                  with_reducible rfl
                rotate_left
                · simp only [Act.put, List.setIfInBounds_toArray, List.set_cons_zero, List.set_cons_succ, i64_w, i32_w]
                  rfl
                refine take_ (i := 10) (N := some 19) (v := ?_) (a' := ?_) #[true, true, true, true, true, true, true, true, true, true, true, false, false, false, false, false] rfl rfl (take_ofW HT_.out HW_.out (by kernel_rfl)) (fun _ _ _ h => h) (Or.inl ⟨by rfl, ?_⟩) hHeld ?_ ?_
                rotate_left
                · rintro w' ⟨s0, s1⟩
                  go_simp
                  with_reducible rfl
                rotate_left
                · simp only [Act.put, List.setIfInBounds_toArray, List.set_cons_zero, List.set_cons_succ, i64_w, i32_w]
                  rfl
                refine pure_ (i := 11) (N := some 20) (v := ?_) (a' := ?_) #[true, true, true, true, true, true, true, true, true, true, true, true, false, false, false, false] rfl rfl (any_of HT_.out (by kernel_rfl)) (fun _ _ _ h => h) (Or.inl ⟨by rfl, ?_⟩) ?_ ?_
                rotate_left
                · intro w'
                  go_simp
                  with_reducible rfl
                rotate_left
                · simp only [Act.put, List.setIfInBounds_toArray, List.set_cons_zero, List.set_cons_succ, i64_w, i32_w]
                  rfl
                refine pure_ (i := 12) (N := some 21) (v := ?_) (a' := ?_) #[true, true, true, true, true, true, true, true, true, true, true, true, true, false, false, false] rfl rfl (any_of HT_.out (by kernel_rfl)) (fun _ _ _ h => h) (Or.inl ⟨by rfl, ?_⟩) ?_ ?_
                rotate_left
                · intro w'
                  go_simp
                  with_reducible rfl
                rotate_left
                · simp only [Act.put, List.setIfInBounds_toArray, List.set_cons_zero, List.set_cons_succ, i64_w, i32_w]
                  rfl
                refine pure_ (i := 13) (N := some 22) (v := ?_) (a' := ?_) #[true, true, true, true, true, true, true, true, true, true, true, true, true, true, false, false] rfl rfl (any_of HT_.out (by kernel_rfl)) (fun _ _ _ h => h) (Or.inl ⟨by rfl, ?_⟩) ?_ ?_
                rotate_left
                · intro w'
                  go_simp
                  with_reducible rfl
                rotate_left
                · simp only [Act.put, List.setIfInBounds_toArray, List.set_cons_zero, List.set_cons_succ, i64_w, i32_w]
                  rfl
                refine pure_ (i := 14) (N := some 23) (v := ?_) (a' := ?_) #[true, true, true, true, true, true, true, true, true, true, true, true, true, true, true, false] rfl rfl (any_of HT_.out (by kernel_rfl)) (fun _ _ _ h => h) (Or.inl ⟨by rfl, ?_⟩) ?_ ?_
                rotate_left
                · intro w'
                  go_simp
                  with_reducible rfl
                rotate_left
                · simp only [Act.put, List.setIfInBounds_toArray, List.set_cons_zero, List.set_cons_succ, i64_w, i32_w]
                  rfl
                refine last_ (i := 15) (N := none) #[true, true, true, true, true, true, true, true, true, true, true, true, true, true, true, true] rfl rfl (one_of HT_.out (by kernel_rfl)) (by decide) (fun K hK => ?_)
                have hs106 : w105.cell? ⟨gb293, 0, none⟩ = some (.string a0_0) := (blk_cell BK293.out 0).trans rfl
                have hfs106 := blk_frozen BK293.out 0
                have hs107 : w105.cell? ⟨gb293, 1, none⟩ = some (.string a0_1) := (blk_cell BK293.out 1).trans rfl
                have hfs107 := blk_frozen BK293.out 1
                refine skip_ (w1 := ?_) (by rfl) rfl ?_ ?_
                rotate_left
                · go_simp
                  rfl
                refine hK.out _ _ ?_
                clear hK K
                refine done_ (done_of HT_.out (by kernel_rfl)) ?_
                have hcz108_0 : w105.cell? ⟨gb293, 0, none⟩ = some (.string a0_0) := (blk_cell BK293.out 0).trans rfl
                have hcz108_1 : w105.cell? ⟨gb293, 1, none⟩ = some (.string a0_1) := (blk_cell BK293.out 1).trans rfl
                have hfz108_0 := blk_frozen BK293.out 0
                have hfz108_1 := blk_frozen BK293.out 1
                try go_wp2_with (first | ((with_reducible refine gate_callee (f := 14) rfl ?_); refine goesL_ (some 25) rfl rfl Tryd.func14 (by kernel_rfl) rfl #[.agg #[.string (a0_0.extract 0 ((ji3) : Int).toNat), .string (a0_1.extract 0 ((ji6) : Int).toNat)]] rfl (by (try simp only [List.map_toArray, List.map_cons, List.map_nil]); first | done | (simp only [hji3, hji6]; rfl) | rfl | (simp only [List.length_drop, List.length_take]; rfl)) ?_; (with_reducible refine (pax_Size.calls (a0_0.extract 0 ((ji3) : Int).toNat) (a0_1.extract 0 ((ji6) : Int).toNat) t295 _ A9.out).mono ?_); rintro e w109 ⟨rfl, hb⟩; refine ⟨_, rfl, ?_⟩; have n0_ := Aside0.mk (blk_below (g := gb293) (o := .cells #[.string (a0_0.extract 0 ((ji3) : Int).toNat), .string (a0_1.extract 0 ((ji6) : Int).toNat)] 31 (0, 0)) (by (with_reducible repeat (first | refine blk_drewN ?_ _ | refine blk_drew ?_ | refine blk_alloc ?_ _)); refine blk_put (cs := #[.string (a0_0.extract 0 ((ji3) : Int).toNat), .string a0_1]) ?_ 1 _ rfl; (with_reducible repeat (first | refine blk_drewN ?_ _ | refine blk_drew ?_ | refine blk_alloc ?_ _)); refine blk_put (cs := #[.string a0_0, .string a0_1]) ?_ 0 _ rfl; (with_reducible repeat (first | refine blk_drewN ?_ _ | refine blk_drew ?_ | refine blk_alloc ?_ _)); exact BK293.out) hb); have n1_ := Aside0.mk (below_step (by repeat (first | (with_reducible first | exact HB.out | apply below_alloc | apply pw_below_drewN | apply below_drew1 | refine below_set ?_ GE293.out) | exact HB.out)) hb); clear BK293; clear HB; have BK293 := n0_; have HB := n1_; clear n0_ n1_; (try clear hb); (try clear hb2); (try clear hk); (try clear hi); have hcz110_0 : w109.cell? ⟨gb293, 0, none⟩ = some (.string (a0_0.extract 0 ((ji3) : Int).toNat)) := (blk_cell BK293.out 0).trans rfl; have hcz110_1 : w109.cell? ⟨gb293, 1, none⟩ = some (.string (a0_1.extract 0 ((ji6) : Int).toNat)) := (blk_cell BK293.out 1).trans rfl; have hfz110_0 := blk_frozen BK293.out 0; have hfz110_1 := blk_frozen BK293.out 1) | ((with_reducible refine gate_callee (f := 15) rfl ?_); refine goesL_ (some 28) rfl rfl Tryd.func15 (by kernel_rfl) rfl #[.agg #[.string (a0_0.extract 0 ((ji3) : Int).toNat), .string (a0_1.extract 0 ((ji6) : Int).toNat)]] rfl (by (try simp only [List.map_toArray, List.map_cons, List.map_nil]); first | done | (simp only [hji3, hji6]; rfl) | rfl | (simp only [List.length_drop, List.length_take]; rfl)) ?_; (with_reducible refine (pax_One.calls (a0_0.extract 0 ((ji3) : Int).toNat) (a0_1.extract 0 ((ji6) : Int).toNat) t296 t297 _ A10.out).mono ?_); rintro e w111 ⟨rfl, hb⟩; refine ⟨_, rfl, ?_⟩; have n0_ := Aside0.mk (blk_below (g := gb293) (o := .cells #[.string (a0_0.extract 0 ((ji3) : Int).toNat), .string (a0_1.extract 0 ((ji6) : Int).toNat)] 31 (0, 0)) (by (with_reducible repeat (first | refine blk_drewN ?_ _ | refine blk_drew ?_ | refine blk_alloc ?_ _)); exact BK293.out) hb); have n1_ := Aside0.mk (below_step (by repeat (first | (with_reducible first | exact HB.out | apply below_alloc | apply pw_below_drewN | apply below_drew1 | refine below_set ?_ GE293.out) | exact HB.out)) hb); clear BK293; clear HB; have BK293 := n0_; have HB := n1_; clear n0_ n1_; (try clear hb); (try clear hb2); (try clear hk); (try clear hi)))
                go_ret
                have hwq := HWQ.out
                exact ⟨by first | rfl | (simp [errW_none, errW_some] <;> rfl) | (simp only [← hji3, ← hji6]; first | rfl | (simp [errW_none, errW_some] <;> rfl)) | (simp [*, errW_none, errW_some] <;> rfl), by repeat (first | (with_reducible first | exact HB.out | apply below_alloc | apply pw_below_drewN | apply below_drew1 | refine below_set ?_ GE293.out) | exact HB.out)⟩
              · rw [if_neg c102] at H
                have c102b0 : (t295 == 0) = false := beq_eq_false_iff_ne.mpr c102
                have c102b1 : (t295 != 0) = true := bne_iff_ne.mpr c102
                exact absurd ((Option.some.inj H).trans hr) (by decide)
            · replace c101 := Bool.eq_false_iff.mpr c101
              subst c101
              have H1 : (some false) = some r := by rw [if_neg (show ¬ (false = true) by decide)] at H; exact H
              clear H
              have H := H1
              clear H1
              exact absurd ((Option.some.inj H).trans hr) (by decide)
        · rw [if_neg c8] at H
          exact absurd H (by simp)
      · rw [if_neg c7] at H
        exact absurd H (by simp)
    · rw [if_neg c5] at H
      exact absurd H (by simp)
  · rw [if_neg c4] at H
    exact absurd H (by simp)

end Go.Proofs.YtbcjhmeeonhmaaaDoor.M
end

/-
PaxCounts: what the law computes is true.
-/
section
set_option linter.unusedVariables false
set_option maxRecDepth 100000
namespace Go.Proofs.YtbcjhmeeonhmaaaDoor.H
open Go Go.RowKit Go.Proofs.YtbcjhmeeonhmaaaDoorW.PrintWords Go.Proofs.YtbcjhmeeonhmaaaDoorW.PrintMore Go.Proofs.YtbcjhmeeonhmaaaDoor.M

theorem isOneB_iff (n v : ByteArray) : isOneB n v = true ↔ n.size ≠ 0 ∧ n.size ≤ 400 ∧ v.size ≤ 400 ∧ (vld n).2 = true ∧ has n 0 = false ∧ (vld v).2 = true ∧ has v 0 = false ∧ has n 61 = false := by
  unfold isOneB
  by_cases h0 : n.size = 0
  · rw [if_pos h0]; simp [h0]
  · rw [if_neg h0]
    by_cases h1 : n.size ≤ 400
    · rw [if_pos h1]
      by_cases h2 : v.size ≤ 400
      · rw [if_pos h2]
        cases (vld n).2 <;> cases (vld v).2 <;> cases has n 0 <;> cases has v 0 <;> cases has n 61 <;> simp [h0, h1, h2]
      · rw [if_neg h2]; simp [h2]
    · rw [if_neg h1]; simp [h1]
theorem isOneB_x {n v : ByteArray} (h : isOneB n v = true) (hv : v.size ≤ 399) : isOneB n (v ++ (⟨#[120]⟩ : ByteArray)) = true := by
  obtain ⟨a1, a2, a3, a4, a5, a6, a7, a8⟩ := (isOneB_iff n v).1 h
  have e : (⟨#[120]⟩ : ByteArray).size = 1 := rfl
  refine (isOneB_iff _ _).2 ⟨a1, a2, by rw [ByteArray.size_append]; omega, a4, a5, (vld_app a6).trans vld_x, ?_, a8⟩
  rw [Bool.eq_false_iff] at a7 ⊢
  intro hh
  have := (has_iff _ _).1 hh
  rw [app_list, List.mem_append] at this
  rcases this with h1 | h1
  · exact a7 ((has_iff _ _).2 h1)
  · exact absurd h1 (by decide)
theorem szL_next {L : Nat} (h0 : 4 ≤ L) (h1 : L ≤ 802) : L + 1 ≤ szL L ∧ szL L ≤ L + 3 ∧ (szL (L + 1) = szL L + 1 ∨ szL (L + 1) = szL L + 2) := by
  have m1 := (szL_min (L := L) (by omega) (by omega)).1
  have m2 := (szL_min (L := L + 1) (by omega) (by omega)).1
  have d1 := dgl_r (m := szL L) (by omega)
  have d2 := dgl_r (m := szL (L + 1)) (by omega)
  omega
theorem oneS_not {n v : ByteArray} (h : ¬ (oneS n v).2 = 0) : oneS n v = (⟨#[]⟩, 90) := by
  rcases oneS_cases n v with e | e
  · exact absurd e.1 h
  · exact e
theorem oneS_yes {n v : ByteArray} (h : (oneS n v).2 = 0) : isOneB n v = true := by
  unfold oneS at h
  by_cases h9 : isOneB n v = true
  · exact h9
  · rw [if_neg h9] at h; cases h
theorem oneS_size {n v : ByteArray} (h : isOneB n v = true) : (oneS n v).1.size = szL (n.size + v.size + 3) := by
  obtain ⟨b1, b2, b3⟩ := isOneB_bd h
  have hL := restS_size n v
  have hm := (szL_min (L := (restS n v).size) (by omega) (by omega)).1
  unfold oneS
  rw [if_pos h]
  simp only []
  rw [ByteArray.size_append, ← hL]
  unfold dgl at hm
  exact hm.1
theorem one_is (n v : ByteArray) : pax_One.f n v = some (oneS n v) := by unfold pax_One.f; rfl
theorem cnt_end (a b z y : Nat) (ha : a ≤ 410) (hb : b ≤ 399) (c1 : a + b + 4 ≤ z) (c2 : z ≤ a + b + 6) (c3 : y = z + 1 ∨ y = z + 2) :
    (if (y : Int) = wrap64 ((z : Int) + 1) then (if (z : Int) ≥ wrap64 (wrap64 ((a : Int) + b) + 4) then some (decide ((z : Int) ≤ wrap64 (wrap64 ((a : Int) + b) + 6))) else some false)
      else (if (y : Int) = wrap64 ((z : Int) + 2) then (if (z : Int) ≥ wrap64 (wrap64 ((a : Int) + b) + 4) then some (decide ((z : Int) ≤ wrap64 (wrap64 ((a : Int) + b) + 6))) else some false) else some false)) = some true := by
  rw [w64 (x := (z : Int) + 1) (by omega) (by omega), w64 (x := (z : Int) + 2) (by omega) (by omega), w64 (x := (a : Int) + b) (by omega) (by omega), w64 (x := (a : Int) + b + 4) (by omega) (by omega), w64 (x := (a : Int) + b + 6) (by omega) (by omega)]
  have e1 : (z : Int) ≥ (a : Int) + b + 4 := by omega
  have e2 : decide ((z : Int) ≤ (a : Int) + b + 6) = true := decide_eq_true (by omega)
  rw [if_pos e1, e2]
  rcases c3 with rfl | rfl
  · rw [if_pos (by omega)]
  · rw [if_neg (by omega), if_pos (by omega)]
/-- What the law does with a record that is cut. -/
def cntBody (x y : ByteArray) : Option Bool := ((pax_Size.f x y).bind fun t295 => ((pax_One.f x y).bind fun bt296 => (if bt296.2 = 0 then (if y.size + 1 ≤ 9223372036854775807 then ((pax_Size.f x (y ++ (⟨#[120]⟩ : ByteArray))).bind fun t298 => (if true = true then (if t295 = (bt296.1.size : Int) then (if t298 = (wrap64 (t295 + 1)) then (if t295 ≥ (wrap64 ((wrap64 ((x.size : Int) + (y.size : Int))) + 4)) then (some (decide (t295 ≤ (wrap64 ((wrap64 ((x.size : Int) + (y.size : Int))) + 6))))) else (some false)) else (if t298 = (wrap64 (t295 + 2)) then (if t295 ≥ (wrap64 ((wrap64 ((x.size : Int) + (y.size : Int))) + 4)) then (some (decide (t295 ≤ (wrap64 ((wrap64 ((x.size : Int) + (y.size : Int))) + 6))))) else (some false)) else (some false))) else (some false)) else (some false))) else (none)) else (if true = true then (if t295 = 0 then (some (bt296.1.toList == ([] : List UInt8))) else (some false)) else (some false)))))
theorem counts_eq (n v : ByteArray) : pleacherlaw09_PaxCounts.f n v = if 0 ≤ (mn (n.size : Int) 410) then (if (mn (n.size : Int) 410) ≤ (n.size : Int) then (if 0 ≤ (mn (v.size : Int) 399) then (if (mn (v.size : Int) 399) ≤ (v.size : Int) then cntBody (n.extract 0 ((mn (n.size : Int) 410) : Int).toNat) (v.extract 0 ((mn (v.size : Int) 399) : Int).toNat) else none) else none) else none) else none := by
  unfold pleacherlaw09_PaxCounts.f
  rw [shown_f]
  rfl
theorem cnt_body (x y : ByteArray) (hxs : x.size ≤ 410) (hys : y.size ≤ 399) : cntBody x y = some true := by
  unfold cntBody
  rw [size_f, one_is, Option.bind_some, Option.bind_some]
  by_cases h : (oneS x y).2 = 0
  · have h3 := oneS_yes h
    obtain ⟨b1, b2, b3⟩ := isOneB_bd h3
    have h4 := isOneB_x h3 hys
    have s3 := oneS_size h3
    have s4 := oneS_size h4
    have e : (⟨#[120]⟩ : ByteArray).size = 1 := rfl
    rw [ByteArray.size_append, e, show x.size + (y.size + 1) + 3 = (x.size + y.size + 3) + 1 from by omega] at s4
    obtain ⟨c1, c2, c3⟩ := szL_next (L := x.size + y.size + 3) (by omega) (by omega)
    have hy1 : y.size + 1 ≤ 9223372036854775807 := by omega
    rw [if_pos h, if_pos hy1, size_f, Option.bind_some, if_pos rfl, s3, s4, if_pos rfl]
    exact cnt_end x.size y.size _ _ hxs hys (by omega) (by omega) c3
  · have e0 : (((⟨#[]⟩ : ByteArray).size : Nat) : Int) = 0 := rfl
    have : (⟨#[]⟩ : ByteArray).toList = [] := nil_toList
    rw [if_neg h, if_pos rfl, oneS_not h]
    rw [e0, if_pos rfl, this]; rfl
theorem paxCounts_f (n v : ByteArray) : pleacherlaw09_PaxCounts.f n v = some true := by
  rw [counts_eq]
  have h0 := mn_le (n.size : Int) 410
  have h1 := mn_le (v.size : Int) 399
  have z0 : 0 ≤ mn (n.size : Int) 410 := by omega
  have z1 : 0 ≤ mn (v.size : Int) 399 := by omega
  rw [if_pos z0, if_pos h0.2.1, if_pos z1, if_pos h1.2.1]
  refine cnt_body _ _ ?_ ?_
  · rw [ByteArray.size_extract]; omega
  · rw [ByteArray.size_extract]; omega
end Go.Proofs.YtbcjhmeeonhmaaaDoor.H
end

/-
The row and card of PaxCounts.
-/
section
set_option linter.unusedVariables false
set_option maxRecDepth 100000
namespace Go.Proofs.YtbcjhmeeonhmaaaDoor.H
open Go Go.ChangeShapes Go.WideShapes Go.ChangeAt Go.RowKit Go.Proofs.YtbcjhmeeonhmaaaDoorW.PrintWords Go.Proofs.YtbcjhmeeonhmaaaDoorW.PrintMore Go.Proofs.YtbcjhmeeonhmaaaDoor.M

/-- a record. -/
theorem counts_contract (H : Type) (enc : TypeId × Value → H) (W : World) (base : Nat) (args : Array Value) (ds gs : List (DataW H)) (before : List MemPlace)
    (hval : ∀ (j : Nat) t v, Tryd.f4.params[j]? = some t → args[j]? = some v → Value.okWide Tryd.prog W .any base t v)
    (hW : DataW.Whole enc Tryd.prog Tryd.f4.params.toList Rows.paxCountsSpec.vars false W args.toList ds gs before) (hL : laidMetH Tryd.prog Rows.paxCountsRow.laid W) :
    Calls Tryd.prog 4 args W fun e W' => ∃ v, e = .returned v ∧ Rows.paxCountsSpec.post enc Tryd.prog Tryd.f4 false true false false W args v W' := by
  have hW' := hW
  have hlt := hW.lt
  obtain ⟨p, q, hA0, hV, rfl, hfz, hnd⟩ := hW
  have hA : DataW.TrodAll enc Tryd.prog W 0 (fun _ => true) true Tryd.f4.params.toList args.toList ds p := hA0
  rw [Tryd.params4] at hA hval
  obtain ⟨v0, vs0, d0, ds0, p0, q0, hargs, rfl, rfl, h0, r0⟩ := trodAll_cons hA
  obtain ⟨rfl, rfl, rfl⟩ := trodAll_nil r0
  obtain rfl : args = #[v0] := by cases args; simp_all
  obtain ⟨rfl, rfl⟩ := trodVars_none hV
  obtain ⟨x0, x1, y0, y1, nn, rfl, _, _, g0, g1⟩ := Go.Joins.open_agg2 Tryd.underlying31 (by kernel_rfl) cellsA31 (hval 0 31 v0 rfl rfl) h0
  obtain ⟨s0, e0, _⟩ := DataW.trod_string Tryd.underlying9 g0
  obtain ⟨s1, e1, _⟩ := DataW.trod_string Tryd.underlying9 g1
  injection e0 with e0 _
  injection e1 with e1 _
  subst e0 e1
  refine (pleacherlaw09_PaxCounts.calls s0 s1 true rfl W (gw_of_laid hL) (paxCounts_f s0 s1)).mono fun e W' ⟨he, hb⟩ => ?_
  subst he
  refine ⟨_, rfl, post_true hW' rfl (by kernel_rfl) ⟨rfl, rfl, rfl⟩ (pa := p0 ++ []) ?_ hb (by simp)⟩
  rw [Tryd.params4]
  have hl2 : ∀ x ∈ p0, x.block < W.heap.size := fun x hx => hlt x (by simpa using hx)
  exact trodAll_cons_mk (Below.trod laidOutA (show Tryd.prog.readableRec 31 = true by kernel_rfl) (show 31 < Tryd.prog.types.size by rw [sizeT]; decide) h0 hb hl2) trodAll_mk0
/-- The witness' argument: a record. -/
def wargsC : Array Value := #[.agg #[.string ⟨#[]⟩, .string ⟨#[]⟩]]
theorem counts_reads (os : Os) {H : Type} (enc : TypeId × Value → H) : ∃ places, DataW.whole enc Tryd.prog ((World.doorLaid Tryd.prog 54 os).forCall (fun _ _ => 0) ⟨#[], wargsC, []⟩).memory Tryd.f4.params.toList Rows.paxCountsSpec.vars false wargsC.toList 8 = some ([.agg [.lit (.string []), .lit (.string [])]], [], places) :=
  ⟨[], by kernel_rfl⟩
/-- THE ROW's STEP. -/
theorem counts_lifted (os : Os) (started : os.Started) (H : Type) (enc : TypeId × Value → H) (F : Stop.Interp) :
    ReturnsInHanded {} Tryd.checked os 4 .any ((OpenSpec.ofChange Rows.paxCountsSpec).preRow enc Tryd.prog Tryd.f4 Rows.paxCountsRow.domain false Rows.paxCountsRow.laid) (((OpenSpec.ofChange Rows.paxCountsSpec).at F).post enc Tryd.prog Tryd.f4 false true false false) := by
  obtain ⟨places, hx⟩ := counts_reads os enc
  refine returnsInHanded_of_row (C := Tryd.checked) (s := OpenSpec.ofChange Rows.paxCountsSpec) own started (by kernel_rfl) Tryd.func4
    (witness_row_atRef (enc := enc) (C := Tryd.checked) false (World.doorLaid Tryd.prog 54 os) wargsC rfl (by kernel_rfl) (by kernel_rfl) (by kernel_rfl)
      (OpenSpec.preRow_of_cond 8 hx (by kernel_rfl) (fun k hk => by cases hk) (by kernel_rfl) (door_met os _))) ?_
  intro W base args ds gs before hval hW _ _ _ hL _ _
  exact counts_contract H enc W base args ds gs before hval hW hL
theorem counts_said : Rows.PaxCountsSaid :=
  OpenClaim.holds_of_cond 4 Tryd.f4 rfl rfl rfl rfl rfl rfl rfl ⟨rfl, rfl, rfl, rfl, rfl⟩ rfl rfl rfl rfl rfl (by kernel_rfl) Tryd.func4 (by kernel_rfl)
    (of_decide_eq_true (by kernel_rfl)) (by unfold Func.isWrapper; first | (rw [if_pos (by decide +kernel)]; kernel_rfl) | (rw [if_neg (by decide +kernel)]; exact ⟨rfl, rfl⟩))
    (fun os started H enc _ F => by rw [OpenClaim.pre_eq_preRow]; exact counts_lifted os started H enc F)
theorem counts_plain (f : FuncId) (fn : Func) (hf : Tryd.pinned.checked.prog.funcNamed "pleacher/pleacherlaw09.PaxCounts" = some f) (hfn : Tryd.pinned.checked.prog.funcs[f]? = some fn) :
    true = Tryd.pinned.checked.prog.looks [] ∧ ∀ (j : Nat) t, fn.params[j]? = some t → Tryd.pinned.checked.prog.wantsStandIn t = false := by
  obtain rfl : f = 4 := Option.some.inj ((show Tryd.prog.funcNamed "pleacher/pleacherlaw09.PaxCounts" = some 4 by kernel_rfl).symm.trans hf) |>.symm
  obtain rfl : fn = Tryd.f4 := (Option.some.inj (Tryd.func4.symm.trans hfn)).symm
  refine ⟨by kernel_rfl, fun j t ht => ?_⟩
  rw [Tryd.params4] at ht
  have ht := Array.mem_of_getElem? ht
  obtain rfl : t = 31 := by simpa using ht
  exact (show Tryd.prog.wantsStandIn 31 = false by kernel_rfl)
/-- THE CARD of PaxCounts. -/
theorem counts_card : Rows.PaxCountsCardSaid :=
  Claim7.holds_tied_plain_at .later [] _ _ _ _ counts_said (fun _ h => by cases h) (by kernel_rfl) (fun _ h => by cases h) paxCounts_row_tie rfl ⟨rfl, rfl⟩ (by kernel_rfl) rfl counts_plain (by kernel_rfl)
end Go.Proofs.YtbcjhmeeonhmaaaDoor.H
end
