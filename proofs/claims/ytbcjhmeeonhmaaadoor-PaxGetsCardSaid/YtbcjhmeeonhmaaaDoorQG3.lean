/-
Part 3 of: The statement about PaxGets, as a card: for every argument the law's answer is 'true'. There is no condition.
-/
import Derived.Test.YtbcjhmeeonhmaaaDoorQG2
import Derived.Stop.RegionWithIn
import Derived.RangeFuncBox
import Derived.Maps.AppendAt
import Derived.Test.YtbcjhmeeonhmaaaDoorCards
import Derived.Test.YtbcjhmeeonhmaaaDoorTie
import Derived.ProofKit
import Derived.OpenShut
import Derived.Deep.DeepHandedRow
import Derived.Deep.SlicePairs
import Derived.Stop.LaidTwo
import Derived.LaidMore
import Derived.LaidHandle
import Derived.Carry
import Derived.ChangeMaps5
import Derived.Deep.DeepWitnessRowRef
set_option linter.unusedVariables false
set_option linter.unusedSimpArgs false
/-
The records of bytes: (*pax.reader).records, and its iterator.
-/
section
set_option linter.unusedVariables false
set_option maxRecDepth 100000
namespace Go.Proofs.YtbcjhmeeonhmaaaDoor.H
open Go Go.RowKit Go.Proofs.YtbcjhmeeonhmaaaDoorW.PrintWords Go.Proofs.YtbcjhmeeonhmaaaDoorW.PrintMore Go.Proofs.YtbcjhmeeonhmaaaDoor.M
attribute [local go_sem] Oper.semAt_some
attribute [local go_sem high] eqA31

/-- Records that bytes begin with, their names apart, and what is left. -/
inductive Rec : ByteArray → List S31 → ByteArray → Prop
  | nil (s : ByteArray) : Rec s [] s
  | snoc {s t : ByteArray} {pre : List S31} {n v : ByteArray} {k : Nat} (h : Rec s pre t) (h0 : t.size ≠ 0) (hf : firstS t = some (n, v, k)) (hn : pre.length + 1 ≤ 30 ∧ n ∉ pre.map (·.f0)) : Rec s (pre ++ [⟨n, v⟩]) (t.extract k t.size)
/-- There is none at what is left. -/
def Bad (pre : List S31) (t : ByteArray) : Prop := t.size ≠ 0 ∧ (firstS t = none ∨ ∃ n v k, firstS t = some (n, v, k) ∧ ¬ (pre.length + 1 ≤ 30 ∧ n ∉ pre.map (·.f0)))
theorem firstS_some {t n v : ByteArray} {k : Nat} (h : firstS t = some (n, v, k)) : isOneB n v = true ∧ 2 ≤ k ∧ k ≤ t.size := by
  obtain ⟨c, hc⟩ : ∃ c, cutS t 32 = c := ⟨_, rfl⟩
  obtain ⟨d, d2, ok⟩ := c
  by_cases h1 : ok = true ∧ d.size ≤ 5
  · obtain ⟨rfl, h1⟩ := h1
    obtain ⟨o, ho⟩ : ∃ o, ownC 10 d = o := ⟨_, rfl⟩
    obtain ⟨m, e⟩ := o
    by_cases h2 : e = 0 ∧ m ≤ (t.size : Int) ∧ (d.size : Int) + 2 ≤ m
    · obtain ⟨rfl, h3, h4⟩ := h2
      obtain ⟨m, rfl⟩ := Int.eq_ofNat_of_zero_le (by omega : 0 ≤ m)
      obtain ⟨b, hb⟩ : ∃ b, cutS (t.extract (d.size + 1) (m - 1)) 61 = b := ⟨_, rfl⟩
      obtain ⟨f, v', okk⟩ := b
      rw [firstS_3 hc h1 ho ⟨by omega, by omega⟩ hb] at h
      cases okk with
      | false => rw [if_neg (by decide)] at h; cases h
      | true =>
        rw [if_pos rfl] at h
        by_cases h5 : (oneS f v').2 = 0 ∧ (oneS f v').1 = t.extract 0 m
        · rw [if_pos h5] at h
          injection h with h
          injection h with h6 h7
          injection h7 with h7 h8
          subst h6 h7 h8
          refine ⟨?_, by omega, by omega⟩
          have := h5.1
          unfold oneS at this
          by_cases h9 : isOneB f v' = true
          · exact h9
          · rw [if_neg h9] at this; cases this
        · rw [if_neg h5] at h; cases h
    · rw [firstS_2 hc h1 ho h2] at h; cases h
  · rw [firstS_1 hc h1] at h; cases h
theorem Rec.size {s t : ByteArray} {pre : List S31} (h : Rec s pre t) : pre.length ≤ 30 ∧ t.size ≤ s.size := by
  induction h with
  | nil => simp
  | snoc h h0 hf hn ih => rw [List.length_append, List.length_singleton]; simp only [ByteArray.size_extract]; omega

theorem modify_same {α : Type} {a : Array α} {i : Nat} {x : α} {f : α → α} (h : a[i]? = some x) (hf : f x = x) : a.modify i f = a := by
  apply Array.ext_getElem?
  intro j
  rw [Array.getElem?_modify]
  by_cases hj : i = j
  · subst hj; rw [if_pos rfl, h]; simp [hf]
  · rw [if_neg hj]
theorem two_same {W : World} {b : Nat} {x y : Value} {T : TypeId} (h : W.heap[b]? = some (.cells #[x, y] T)) : (W.setCell ⟨b, 0, none⟩ x).setCell ⟨b, 1, none⟩ y = W := by
  have e1 : W.setCell ⟨b, 0, none⟩ x = W := by
    show ({ W with heap := _ } : World) = W
    rw [modify_same h (by rfl)]
  rw [e1]
  show ({ W with heap := _ } : World) = W
  rw [modify_same h (by rfl)]
/-- The iterator's own steps. -/
def RecStep (w0 : World) (R : Nat) (A B : World) : Prop := (B.os = A.os ∧ B.tape = A.tape ∧ B.output = A.output ∧ A.heap.size ≤ B.heap.size ∧
  ∀ k o, A.heap[k]? = some o → k ≠ R → (∀ c fz, o ≠ .cells c 69 fz) → o.isWalk = false → B.heap[k]? = some o) ∧ (Below w0.heap.size w0 A → Below w0.heap.size w0 B)
theorem RecStep.trans {w0 : World} {R : Nat} {A B C : World} (h : RecStep w0 R A B) (k : RecStep w0 R B C) : RecStep w0 R A C :=
  ⟨⟨k.1.1.trans h.1.1, k.1.2.1.trans h.1.2.1, k.1.2.2.1.trans h.1.2.2.1, Nat.le_trans h.1.2.2.2.1 k.1.2.2.2.1, fun i o h1 h2 h3 h4 => k.1.2.2.2.2 i o (h.1.2.2.2.2 i o h1 h2 h3 h4) h2 h3 h4⟩, fun b => k.2 (h.2 b)⟩
theorem RecStep.of_below {w0 : World} {R : Nat} {A B : World} (h : Below A.heap.size A B) : RecStep w0 R A B := ⟨⟨h.os, h.tape, h.output, h.size, fun i o h1 _ _ _ => heapB h (lt_of_heap h1) h1⟩, fun b => b.trans (h.mono b.size)⟩
theorem RecStep.of_grown {w0 : World} {R : Nat} {A B : World} (h : A.grownBy B (some R)) (hR : w0.heap.size ≤ R) : RecStep w0 R A B := ⟨⟨h.os, h.tape, h.output, h.size, fun i o h1 h2 _ _ => (h.block i (lt_of_heap h1) (by intro e; cases e; exact h2 rfl)).trans h1⟩,
  fun b => b.trans ⟨h.os, h.tape, h.output, h.size, fun i hi => h.block i (by have := b.size; omega) (by intro e; injection e; omega)⟩⟩
theorem RecStep.of_two {w0 : World} {R Bn M : Nat} {A B : World} {ns : List ByteArray} (h : Two Bn M A B) (hm : MetK Bn M ns A) (hBn : w0.heap.size ≤ Bn) (hM : w0.heap.size ≤ M) : RecStep w0 R A B := by
  refine ⟨⟨h.1, h.2.1, h.2.2.1, h.2.2.2.1, fun i o h1 h2 h3 h4 => ?_⟩, fun b => h.below b hBn hM b.size⟩
  have e1 : i ≠ Bn := by
    rintro rfl
    obtain ⟨c, fz, hc⟩ := shape_of hm.2
    rw [h1] at hc; injection hc with hc; exact h3 _ _ hc
  have e2 : i ≠ M := by
    rintro rfl
    obtain ⟨⟨es, k, _, _, _, h4', _⟩, _⟩ := hm
    rw [h1] at h4'; injection h4' with h4'; subst h4'; cases h4
  exact (h.2.2.2.2 i (lt_of_heap h1) e1 e2).trans h1
theorem RecStep.drew {w0 : World} {R : Nat} {A B : World} (h : RecStep w0 R A B) : RecStep w0 R A B.drew := ⟨h.1, fun b => below_dr (h.2 b)⟩
/-- What a round keeps. -/
def RecKeep (w0 : World) (R Bx : Nat) (A B : World) : Prop := B.heap[R]? = A.heap[R]? ∧ B.heap[Bx]? = A.heap[Bx]? ∧ (∀ (k : Nat) (c : Array Value) (fz : Nat × Nat), A.heap[k]? = some (Obj.cells c 69 fz) → B.heap[k]? = some (Obj.cells c 69 fz)) ∧ (∀ (k : Nat) (es : Array MapEntry) (c : Nat), A.heap[k]? = some (Obj.map es c) → B.heap[k]? = some (Obj.map es c)) ∧ (Below w0.heap.size w0 A → Below w0.heap.size w0 B)
theorem MetK.keep {w0 : World} {Bn M R Bx : Nat} {ns : List ByteArray} {w w' : World} (h : MetK Bn M ns w) (k : RecKeep w0 R Bx w w') : MetK Bn M ns w' := by
  obtain ⟨c, fz, hc⟩ := shape_of h.2
  obtain ⟨es, k', a1, a2, a3, a4, a5, a6⟩ := id h.1
  have e1 := k.2.2.1 Bn c fz hc
  have e2 := k.2.2.2.1 M es k' a4
  refine ⟨h.1.same (e1.trans hc.symm) (e2.trans a4.symm), ?_⟩
  rw [← h.2]; unfold World.shape?; rw [e1, hc]
/-- What the iterator asks. -/
def RecAt (w0 : World) (R Bx : Nat) (t : ByteArray) (sz : Nat) (w : World) : Prop := w.cell? ⟨Bx, 0, none⟩ = some (.pointer (some ⟨R, 0, none⟩)) ∧ RdAt R t sz .nilIface w ∧ Below w0.heap.size w0 w ∧ R ≠ Bx
/-- The error of no record. -/
def wrongV (n : Int) : Value := .iface 76 (.agg #[.int .i64 n])
def RecEnd (R : Nat) (s : ByteArray) (xs : List S31) (W : World) : Prop :=
  ∃ t, Rec s xs t ∧ ((t.size = 0 ∧ ∃ t', RdAt R t' s.size .nilIface W) ∨ (Bad xs t ∧ ∃ t', RdAt R t' s.size (wrongV ((s.size : Int) - t.size)) W))
def encA (x : S31) : Array Value := #[.agg #[.string x.f0, .string x.f1]]
def restSizeR (R : Nat) (w : World) : Nat := match w.cell? ⟨R, 0, none⟩ with | some (.string t) => t.size | _ => 0
theorem RdAt.restSize {R : Nat} {t : ByteArray} {sz : Nat} {ev : Value} {w : World} (h : RdAt R t sz ev w) : restSizeR R w = t.size := by unfold restSizeR; rw [h.c0]

set_option maxHeartbeats 4000000 in
theorem records_iter (w0 : World) (hG0 : GW w0) (R Bx : Nat) (hR0 : w0.heap.size ≤ R) (s : ByteArray) (hs : s.size ≤ 1073741824) :
    Iter Tryd.prog 33 #[.pointer (some ⟨Bx, 0, none⟩)] encA (RecStep w0 R) (RecKeep w0 R Bx)
      (fun pre x _ => pre.length < 30 ∧ ∃ t, Rec s (pre ++ [x]) t) (RecEnd R s) (fun _ _ => True) (RecAt w0 R Bx s s.size) := by
  intro l J Jx W hJ hJx h0 hY hJ0
  have HS := Lib.hid hs
  clear hs
  have hmm : ∀ w, (Instr.makeMap 63 none).run Tryd.prog w = .ok (.map (some w.heap.size)) (w.alloc (.map #[] 0)) := fun w => run_makeMap _ _
  refine (callsIn_wide (n := 0)).1 ?_
  refine callsIn_of_wp Tryd.func33 rfl trivial ?_ rfl
  simp only [Tryd.ntmps33, List.size_toArray, List.length_cons, List.length_nil, Nat.reduceAdd, Nat.reduceSub, Array.replicate_succ, Array.replicate_zero, List.push_toArray, List.append_toArray, List.nil_append, List.cons_append]
  refine wpIn_scope_wide ?_
  gi_wp2
  refine wpIn_label ?_
  gi_wp2
  obtain ⟨q1, q2, q3, q4⟩ := h0
  have hBxl := World.block_lt_of_cell? W _ q1
  have hRl := lt_of_heap q2
  simp only [] at hBxl
  have hMw := q3.size
  obtain ⟨M, hM⟩ : ∃ M, W.heap.size = M := ⟨_, rfl⟩
  obtain ⟨W0, hW0⟩ : ∃ W0, (W.alloc (.map #[] 0)).alloc (.cells #[.map (some W.heap.size), .int .i32 0] 69) = W0 := ⟨_, rfl⟩
  have hB0 : Below W.heap.size W W0 := by rw [← hW0]; exact ((Below.refl _ W).alloc (Nat.le_refl _) _).alloc (by simp) _
  have hz0 : W0.heap.size = M + 2 := by rw [← hW0, ← hM]; simp
  have k2 : W0.heap[M]? = some (.map #[] 0) := by rw [← hW0, ← hM]; exact heap_al (World.alloc_heap_new _ _) _
  have k3 : W0.heap[M + 1]? = some (.cells #[.map (some M), .int .i32 0] 69) := by
    rw [← hW0, ← hM]; simpa using World.alloc_heap_new (W.alloc (.map #[] 0)) (.cells #[.map (some W.heap.size), .int .i32 0] 69)
  have hM0 : MetK (M + 1) M [] W0 := by
    refine ⟨⟨#[], 0, ?_, ?_, ?_, k2, ⟨rfl, by simp⟩, by omega⟩, ?_⟩
    · simp [World.cell?, k3]
    · simp [World.cell?, k3]
    · simp [World.frozen?, k3]
    · simp [World.shape?, k3]
  rw [hW0]
  try rw [hM]
  have hJ1 : J [] W0 := hJ _ _ _ hJ0 (.of_below hB0)
  clear hW0
  gi_loopw [] (fun wr => ∃ (pre : List S31) (t : ByteArray), Rec s pre t ∧ RdAt R t s.size .nilIface wr ∧ wr.cell? ⟨Bx, 0, none⟩ = some (.pointer (some ⟨R, 0, none⟩)) ∧ MetK (M + 1) M (pre.map (·.f0)) wr ∧ Below w0.heap.size w0 wr ∧ J pre wr) (fun wr => restSizeR R wr)
  case atStart => exact ⟨[], s, .nil s, q2.below hB0, celB hB0 q1, hM0, q3.trans (hB0.mono q3.size), hJ1⟩
  case round =>
    obtain ⟨pre, t, hE, hR, hBx, hMet, hG, hJs⟩ := hrel
    have hsz := hE.size
    have c0 := hR.c0
    have c1 := hR.c1
    have ht : t.size ≤ 1073741824 := by have := HS.out; omega
    by_cases ht0 : t.size = 0
    · have hte : t.toList.isEmpty = true := by rw [(nil_iff t).2 ht0]; rfl
      have HT0 := Lib.hid ht0
      clear ht0
      gi_wp2
      simp only [Exit.noGoto]
      go_end0
      exact ⟨⟨_, rfl⟩, .inl ⟨pre, ⟨t, hE, .inl ⟨HT0.out, t, hR⟩⟩, hJs⟩⟩
    · have hte : t.toList.isEmpty = false := by
        rw [Bool.eq_false_iff]; intro e; exact ht0 ((nil_iff t).1 (List.isEmpty_iff.1 e))
      have HT0 := Lib.hid ht0
      have HT := Lib.hid ht
      clear ht0 ht
      have hsb : s.size ≤ 1073741824 := HS.out
      have hat : ((s.size : Int) - (t.size : Int)) = ((s.size - t.size : Nat) : Int) := by omega
      obtain ⟨at_, hat2⟩ : ∃ at_, s.size - t.size = at_ := ⟨_, rfl⟩
      rw [hat2] at hat
      gi_wp2
      gi_region
      obtain ⟨W1, hW1⟩ : ∃ W1, wr.drew = W1 := ⟨_, rfl⟩
      have hR1 : RdAt R t s.size .nilIface W1 := by rw [← hW1]; exact hR
      have hBx1 : W1.cell? ⟨Bx, 0, none⟩ = some (.pointer (some ⟨R, 0, none⟩)) := by rw [← hW1]; exact hBx
      have hMet1 : MetK (M + 1) M (pre.map (·.f0)) W1 := by rw [← hW1]; exact hMet
      have hG1 : Below w0.heap.size w0 W1 := by rw [← hW1]; exact below_dr hG
      have hS1 : RecStep w0 R wr W1 := by rw [← hW1]; exact (RecStep.of_below (Below.refl _ wr)).drew
      have HF := Lib.hid (first R t s.size .nilIface W1 (hG0.below hG1) hR1 HT.out)
      try rw [hW1]
      clear hW1
      gi_wp2_with fail
      refine ⟨trivial, rfl, callsIn_wide.2 (HF.out.mono ?_)⟩
      rintro e W2 ⟨hg, hh⟩
      have hS2 := hS1.trans (.of_grown hg hR0)
      have hlM := lt_of_heap hR1
      obtain ⟨es, ek, a1, a2, a3, a4, a5, a6⟩ := id hMet1.1
      have hz1 : M < W1.heap.size := lt_of_heap a4
      have hz1' : M + 1 < W1.heap.size := World.block_lt_of_cell? W1 _ a1
      have hMet2 : MetK (M + 1) M (pre.map (·.f0)) W2 := ⟨hMet1.1.same (hg.block _ hz1' (by intro e; injection e; omega)) (hg.block _ hz1 (by intro e; injection e; omega)), by rw [← hMet1.2]; unfold World.shape?; rw [hg.block _ hz1' (by intro e; injection e; omega)]⟩
      have hBx2 : W2.cell? ⟨Bx, 0, none⟩ = some (.pointer (some ⟨R, 0, none⟩)) := by
        rw [← hBx1]; unfold World.cell?; simp only []; rw [hg.block Bx (World.block_lt_of_cell? W1 _ hBx1) (by intro e; injection e; omega)]
      have hG2 : Below w0.heap.size w0 W2 := hG1.trans ⟨hg.os, hg.tape, hg.output, hg.size, fun i hi => hg.block i (by have := hG1.size; omega) (by intro e; injection e; omega)⟩
      have hBl2 : Bx < W2.heap.size := World.block_lt_of_cell? W2 _ hBx2
      have hRl2 : R < W2.heap.size := Nat.lt_of_lt_of_le hlM hg.size
      have hMl2 : M + 1 < W2.heap.size := Nat.lt_of_lt_of_le hz1' hg.size
      clear HF
      rcases hh with ⟨hf, rfl, hR2⟩ | ⟨n, v, k, hf, rfl, hR2⟩
      · have c2 := hR2.c2
        have f2 := hR2.f 2
        have HFF := Lib.hid hf
        clear hf
        have hx2 := celB (below_one W2 (.cells #[.string ⟨#[]⟩, .string ⟨#[]⟩] 31)) c2
        gi_wp2
        refine ⟨trivial, ?_⟩
        gi_wp2
        simp only [Exit.noGoto]
        go_end0
        have hA2 := below_al (below_one (W2.setCell ⟨R, 2, none⟩ (wrongV at_)) (.cells #[.string ⟨#[]⟩, .string ⟨#[]⟩] 31)) (.cells #[.string ⟨#[]⟩, .string ⟨#[]⟩] 31)
        have hR3 := (hR2.fail (wrongV at_)).below hA2
        have hS3 := (hS2.trans (.of_grown (Lib.grownBy_setB (grown_refl W2 (some R)) 2 (wrongV at_)) hR0)).trans (.of_below hA2)
        exact ⟨⟨_, rfl⟩, .inl ⟨pre, ⟨t, hE, .inr ⟨⟨HT0.out, .inl HFF.out⟩, t, by rw [hat]; exact hR3⟩⟩, hJ _ _ _ hJs hS3⟩⟩
      · have hfs := firstS_some hf
        have hn0 := (isOneB_bd hfs.1).1
        have hne1 : n.toList.isEmpty = false := by
          rw [Bool.eq_false_iff]; intro e; exact hn0 ((nil_iff n).1 (List.isEmpty_iff.1 e))
        have hne2 : (n.toList == (⟨#[]⟩ : ByteArray).toList) = false := by
          rw [beq_eq_false_iff_ne]; intro e; exact hn0 ((nil_iff n).1 (by rw [e]; exact (nil_iff _).2 rfl))
        have hA2 := below_al (below_one W2 (.cells #[.string n, .string v] 31)) (.cells #[.string ⟨#[]⟩, .string ⟨#[]⟩] 31)
        obtain ⟨W3, hW3⟩ : ∃ W3, (W2.alloc (.cells #[.string n, .string v] 31)).alloc (.cells #[.string ⟨#[]⟩, .string ⟨#[]⟩] 31) = W3 := ⟨_, rfl⟩
        rw [hW3] at hA2
        have hx3 : W3.heap[W2.heap.size]? = some (.cells #[.string n, .string v] 31) := by rw [← hW3]; exact heap_al (World.alloc_heap_new _ _) _
        have hy3 : W3.heap[W2.heap.size + 1]? = some (.cells #[.string ⟨#[]⟩, .string ⟨#[]⟩] 31) := by rw [← hW3]; simpa using World.alloc_heap_new (W2.alloc (.cells #[.string n, .string v] 31)) (.cells #[.string ⟨#[]⟩, .string ⟨#[]⟩] 31)
        have hsame := two_same hy3
        obtain ⟨x0, x1, x2⟩ := two_cells hx3
        obtain ⟨y0, y1, y2⟩ := two_cells hy3
        have hMet3 := hMet2.below hA2
        have hR3 := hR2.below hA2
        have hBx3 := celB hA2 hBx2
        have hG3 : Below w0.heap.size w0 W3 := hG2.trans (hA2.mono hG2.size)
        have hS3 := hS2.trans (.of_below hA2)
        have hz3 : W2.heap.size + 2 = W3.heap.size := by rw [← hW3]; simp
        have hI := isNew (M + 1) M (pre.map (·.f0)) n W3 hMet3.1 (by rw [List.length_map]; omega)
        obtain ⟨bb, hbb⟩ : ∃ bb, (decide ((pre.map (·.f0)).length + 1 ≤ 30) && decide (n ∉ pre.map (·.f0))) = bb := ⟨_, rfl⟩
        rw [hbb] at hI
        have HBB := Lib.hid hbb
        have HI := Lib.hid hI
        have HF := Lib.hid hf
        have HFS := Lib.hid hfs
        clear hI hbb hf hfs hn0
        gi_wp2_with fail
        refine ⟨trivial, rfl, callsIn_wide.2 (HI.out.mono ?_)⟩
        rintro _ W4 ⟨rfl, htw, hmt, hsh⟩
        have hx4 := (htw.2.2.2.2 W2.heap.size (by omega) (by omega) (by omega)).trans hx3
        obtain ⟨u0, u1, u2⟩ := two_cells hx4
        have hR4 : RdAt R (t.extract k t.size) s.size .nilIface W4 := hR3.same (htw.2.2.2.2 R (by omega) (by omega) (by omega))
        have hBx4 : W4.cell? ⟨Bx, 0, none⟩ = some (.pointer (some ⟨R, 0, none⟩)) := by
          rw [← hBx3]; unfold World.cell?; simp only []; rw [htw.2.2.2.2 Bx (by omega) (by omega) (by omega)]
        have hG4 : Below w0.heap.size w0 W4 := htw.below hG3 (by omega) (by omega) (by omega)
        have hS4 := hS3.trans (.of_two htw hMet3 (by omega) (by omega))
        have hRl4 : R < W4.heap.size := lt_of_heap hR4
        cases bb with
        | false =>
          have c2 := hR4.c2
          have f2 := hR4.f 2
          gi_wp2
          simp only [Exit.noGoto]
          go_end0
          have hS5 := hS4.trans (.of_grown (Lib.grownBy_setB (grown_refl W4 (some R)) 2 (wrongV at_)) hR0)
          refine ⟨⟨_, rfl⟩, .inl ⟨pre, ⟨t, hE, .inr ⟨⟨HT0.out, .inr ⟨n, v, k, HF.out, ?_⟩⟩, _, by rw [hat]; exact hR4.fail (wrongV at_)⟩⟩, hJ _ _ _ hJs hS5⟩⟩
          have hbt := HBB.out
          intro hc
          rw [decide_eq_true (by rw [List.length_map]; exact hc.1), decide_eq_true hc.2] at hbt
          cases hbt
        | true =>
          have hbt := HBB.out
          rw [Bool.and_eq_true, decide_eq_true_iff, decide_eq_true_iff, List.length_map] at hbt
          have hMet4 : MetK (M + 1) M ((pre ++ [(⟨n, v⟩ : S31)]).map (fun x : S31 => x.f0)) W4 := by
            rw [List.map_append]; exact ⟨hmt hbt.2, by rw [hsh]; exact hMet3.2⟩
          have hE4 : Rec s (pre ++ [⟨n, v⟩]) (t.extract k t.size) := .snoc hE HT0.out HF.out hbt
          have hJ4 := hJ _ _ _ hJs hS4
          obtain ⟨fn, tmps, assign, body, hy, hRd⟩ := hY pre ⟨n, v⟩ W4 hJ4 ⟨by omega, _, hE4⟩
          simp only [encA] at hy hRd
          have HRd := Lib.hid hRd
          clear hRd hbt hmt
          gi_wp2_with fail
          refine ⟨rfl, HRd.out.mono ?_⟩
          intro e W5 hh
          obtain ⟨bb, rfl, hh'⟩ := both hh
          clear hh
          obtain ⟨hA, hBx', hk⟩ := hh'.out
          cases bb with
          | false =>
            have hB5 := Lib.hid (hBx' rfl)
            clear hA hBx' hh'
            gi_wp2
            simp only [Exit.noGoto]
            go_end0
            exact ⟨⟨_, rfl⟩, .inr ⟨_, trivial, hB5.out⟩⟩
          | true =>
            have hJ5 := Lib.hid (hA rfl)
            clear hA hBx' hh'
            gi_wp2
            go_roundw
            case rel => exact ⟨_, _, hE4, hR4.same hk.1, by rw [← hBx4]; unfold World.cell?; simp only []; rw [hk.2.1], hMet4.keep hk, hk.2.2.2.2 hG4, hJ5.out⟩
            case measure =>
              rw [(hR4.same hk.1).restSize, hR.restSize]
              simp only [ByteArray.size_extract]
              have := HFS.out
              have := HT0.out
              omega
end Go.Proofs.YtbcjhmeeonhmaaaDoor.H
end

/-
What reflectlite answers where errors.As is asked for an error of no record.
-/
section
set_option linter.unusedVariables false
set_option maxRecDepth 100000
namespace Go.Proofs.YtbcjhmeeonhmaaaDoor.H
open Go Go.RowKit Go.Extern

/-! What reflectlite answers at these two types. -/
theorem as_unpackP (b : Addr) (w : World) : (ReflectliteValue.unpack (.iface 78 (.pointer (some b)))).run Tryd.prog w = .ok (.agg #[.pointer (some ⟨4, 78, none⟩), .pointer (some ⟨w.heap.size, 0, none⟩), .int .u64 150]) (w.alloc (.cells #[.pointer (some b)] 78)) := by kernel_rfl
theorem as_unpackE (n : Int) (w : World) : (ReflectliteValue.unpack (.iface 76 (.agg #[.int .i64 n]))).run Tryd.prog w = .ok (.agg #[.pointer (some ⟨4, 76, none⟩), .pointer (some ⟨w.heap.size, 0, none⟩), .int .u64 153]) (w.alloc (.cells #[.int .i64 n] 76)) := by kernel_rfl
def asVF : Array Value → Sem Value := fun args => ReflectliteValue.unpack (args.getD 0 (.tuple #[]))
theorem as_vP (b : Addr) (w : World) : (asVF #[.iface 78 (.pointer (some b))]).run Tryd.prog w = .ok (.agg #[.pointer (some ⟨4, 78, none⟩), .pointer (some ⟨w.heap.size, 0, none⟩), .int .u64 150]) (w.alloc (.cells #[.pointer (some b)] 78)) := as_unpackP b w
theorem as_vE (n : Int) (w : World) : (asVF #[.iface 76 (.agg #[.int .i64 n])]).run Tryd.prog w = .ok (.agg #[.pointer (some ⟨4, 76, none⟩), .pointer (some ⟨w.heap.size, 0, none⟩), .int .u64 153]) (w.alloc (.cells #[.int .i64 n] 76)) := as_unpackE n w
def asTyF : Array Value → Sem Value := ReflectliteValue.methodAny (ReflectliteValue.valueError "reflectlite.Value.Type" 0) fun t _ _ _ => ReflectliteType.toType t
theorem as_ty (p : Addr) (w : World) : (asTyF #[.agg #[.pointer (some ⟨4, 78, none⟩), .pointer (some p), .int .u64 150]]).run Tryd.prog w = .ok (.iface 124 (.agg #[.pointer (some ⟨4, 78, none⟩)])) w := by kernel_rfl
def asImF : Array Value → Sem Value := ReflectliteType.relation "Implements" ReflectliteType.implements_
theorem as_im (w : World) : (asImF #[.agg #[.pointer (some ⟨4, 76, none⟩)], .iface 124 (.agg #[.pointer (some ⟨4, 45, none⟩)])]).run Tryd.prog w = .ok (.bool true) w := by kernel_rfl
def asAsF : Array Value → Sem Value := ReflectliteType.relation "AssignableTo" ReflectliteType.assignableTo
theorem as_as (w : World) : (asAsF #[.agg #[.pointer (some ⟨4, 76, none⟩)], .iface 124 (.agg #[.pointer (some ⟨4, 76, none⟩)])]).run Tryd.prog w = .ok (.bool true) w := by kernel_rfl
def asElF : Array Value → Sem Value := ReflectliteType.method ReflectliteType.elem
theorem as_el (w : World) : (asElF #[.agg #[.pointer (some ⟨4, 78, none⟩)]]).run Tryd.prog w = .ok (.iface 124 (.agg #[.pointer (some ⟨4, 76, none⟩)])) w := by kernel_rfl
def asKiF : Array Value → Sem Value := ReflectliteType.abiMethod fun t => do pure (.int .u8 (← Rtype.kind t))
theorem as_kiP (w : World) : (asKiF #[.pointer (some ⟨4, 78, none⟩)]).run Tryd.prog w = .ok (.int .u8 22) w := by kernel_rfl
theorem as_kiE (w : World) : (asKiF #[.pointer (some ⟨4, 76, none⟩)]).run Tryd.prog w = .ok (.int .u8 25) w := by kernel_rfl
theorem as_mKind (h : Addr) (w : World) : (Go.method 311 124 (.agg #[.pointer (some h)]) "Kind").run Tryd.prog w = .ok (109, .pointer (some h)) w := by kernel_rfl
theorem as_mElem (v : Value) (w : World) : (Go.method 311 124 v "Elem").run Tryd.prog w = .ok (121, v) w := by kernel_rfl
theorem as_mImpl (v : Value) (w : World) : (Go.method 311 124 v "Implements").run Tryd.prog w = .ok (122, v) w := by kernel_rfl
theorem as_mAss (v : Value) (w : World) : (Go.method 311 124 v "AssignableTo").run Tryd.prog w = .ok (119, v) w := by kernel_rfl
theorem as_typeOf (v : Value) (w : World) : (ReflectliteType.typeOf #[.iface 76 v]).run Tryd.prog w = .ok (.iface 124 (.agg #[.pointer (some ⟨4, 76, none⟩)])) w := by kernel_rfl
def asNilF : Array Value → Sem Value := ReflectliteValue.method (ReflectliteValue.valueError "reflectlite.Value.IsNil" 0) ReflectliteValue.isNil
def asEF : Array Value → Sem Value := ReflectliteValue.method (ReflectliteValue.valueError "reflectlite.Value.Elem" 0) ReflectliteValue.elem
theorem as_partsP (p : Addr) (w : World) : (ReflectliteValue.parts (.agg #[.pointer (some ⟨4, 78, none⟩), .pointer (some p), .int .u64 150])).run Tryd.prog w = .ok (some (78, p, 150)) w := by kernel_rfl
theorem as_partsE (p : Addr) (w : World) : (ReflectliteValue.parts (.agg #[.pointer (some ⟨4, 76, none⟩), .pointer (some p), .int .u64 153])).run Tryd.prog w = .ok (some (76, p, 153)) w := by kernel_rfl
theorem as_partsD (p : Addr) (w : World) : (ReflectliteValue.parts (.agg #[.pointer (some ⟨4, 76, none⟩), .pointer (some p), .int .u64 409])).run Tryd.prog w = .ok (some (76, p, 409)) w := by kernel_rfl
theorem as_aggP (w : World) : (isAgg 78).run Tryd.prog w = .ok false w := by kernel_rfl
theorem as_aggE (w : World) : (isAgg 76).run Tryd.prog w = .ok true w := by kernel_rfl
theorem as_szE (w : World) : (sizeOf 76).run Tryd.prog w = .ok 1 w := by kernel_rfl
theorem as_load (a : Addr) (v : Value) (w : World) (hc : w.cell? a = some v) : (loadVar 78 a).run Tryd.prog w = .ok v w := by
  simp [loadVar, as_aggP, Result.andThen, hc]
theorem as_isNil (a b : Addr) (w : World) (hc : w.cell? a = some (.pointer (some b))) : (asNilF #[.agg #[.pointer (some ⟨4, 78, none⟩), .pointer (some a), .int .u64 150]]).run Tryd.prog w = .ok (.bool false) w := by
  change Sem.run Tryd.prog (do
    match ← ReflectliteValue.parts (.agg #[.pointer (some ⟨4, 78, none⟩), .pointer (some a), .int .u64 150]) with
    | none => ReflectliteValue.valueError "reflectlite.Value.IsNil" 0
    | some (t, a, fl) => ReflectliteValue.isNil t a fl (fl % 32)) w = _
  rw [Sem.run_bind, as_partsP]
  change Sem.run Tryd.prog (ReflectliteValue.isNil 78 a 150 22) w = _
  change Sem.run Tryd.prog (do
    match ← loadVar 78 a with
    | .chan none | .nilFunc | .nilIface | .map none | .pointer none | .slice none _ _ => (pure (Value.bool true) : Sem Value)
    | _ => (pure (Value.bool false) : Sem Value)) w = _
  rw [Sem.run_bind, as_load a _ w hc]
  rfl
theorem as_elemT (w : World) : (Rtype.elem? 78).run Tryd.prog w = .ok (some 76) w := by kernel_rfl
theorem as_mk (b : Addr) (w : World) : (ReflectliteValue.mk 76 b ReflectliteValue.flagAddr).run Tryd.prog w = .ok (.agg #[.pointer (some ⟨4, 76, none⟩), .pointer (some b), .int .u64 409]) w := by kernel_rfl
theorem as_vElem (a b : Addr) (w : World) (hc : w.cell? a = some (.pointer (some b))) : (asEF #[.agg #[.pointer (some ⟨4, 78, none⟩), .pointer (some a), .int .u64 150]]).run Tryd.prog w = .ok (.agg #[.pointer (some ⟨4, 76, none⟩), .pointer (some b), .int .u64 409]) w := by
  change Sem.run Tryd.prog (do
    match ← ReflectliteValue.parts (.agg #[.pointer (some ⟨4, 78, none⟩), .pointer (some a), .int .u64 150]) with
    | none => ReflectliteValue.valueError "reflectlite.Value.Elem" 0
    | some (t, a, fl) => ReflectliteValue.elem t a fl (fl % 32)) w = _
  rw [Sem.run_bind, as_partsP]
  change Sem.run Tryd.prog (ReflectliteValue.elem 78 a 150 22) w = _
  change Sem.run Tryd.prog (do
    let x ← loadVar 78 a
    let y ← Rtype.elem? 78
    match (22 : Nat), x, y with
    | 20, i, _ => ReflectliteValue.unpack i
    | 22, .pointer none, _ => pure ReflectliteValue.zeroV
    | 22, .pointer (some p), some e => ReflectliteValue.mk e p ReflectliteValue.flagAddr
    | _, _, _ => ReflectliteValue.valueError "reflectlite.Value.Elem" 22) w = _
  rw [Sem.run_bind, as_load a _ w hc]
  change Sem.run Tryd.prog (do
    let y ← Rtype.elem? 78
    match (22 : Nat), Value.pointer (some b), y with
    | 20, i, _ => ReflectliteValue.unpack i
    | 22, .pointer none, _ => pure ReflectliteValue.zeroV
    | 22, .pointer (some p), some e => ReflectliteValue.mk e p ReflectliteValue.flagAddr
    | _, _, _ => ReflectliteValue.valueError "reflectlite.Value.Elem" 22) w = _
  rw [Sem.run_bind, as_elemT]
  exact as_mk b w
theorem as_dir (w : World) : (Rtype.directlyAssignable 76 76).run Tryd.prog w = .ok true w := by kernel_rfl
theorem as_loadE (a : Nat) (v : Value) (w : World) (hc : w.cell? ⟨a, 0, none⟩ = some v) : (loadVar 76 ⟨a, 0, none⟩).run Tryd.prog w = .ok (.agg #[v]) w := by
  have h0 : ((⟨a, 0, none⟩ : Addr).add 0) = ⟨a, 0, none⟩ := rfl
  simp [loadVar, as_aggE, as_szE, Result.andThen, loadCells, loadCellsFrom, h0, hc]
theorem as_storeE (a : Nat) (n : Int) (v : Value) (w : World) (hc : w.cell? ⟨a, 0, none⟩ = some v) (hf : w.frozen? ⟨a, 0, none⟩ = false) : (storeVar 76 ⟨a, 0, none⟩ (.agg #[.int .i64 n])).run Tryd.prog w = .ok () (w.setCell ⟨a, 0, none⟩ (.int .i64 n)) := by
  have h0 : ((⟨a, 0, none⟩ : Addr).add 0) = ⟨a, 0, none⟩ := rfl
  have hst := run_store Tryd.prog w ⟨a, 0, none⟩ (.int .i64 n) .plain rfl
  simp [storeVar, as_szE, Result.andThen, storeCells, Value.cells, h0]
  rw [hst]
  simp [hc, hf]
theorem as_set (p q : Nat) (n : Int) (v : Value) (w : World) (hp : w.cell? ⟨p, 0, none⟩ = some v) (hf : w.frozen? ⟨p, 0, none⟩ = false) (hq : w.cell? ⟨q, 0, none⟩ = some (.int .i64 n)) :
    (ReflectliteValue.set #[.agg #[.pointer (some ⟨4, 76, none⟩), .pointer (some ⟨p, 0, none⟩), .int .u64 409], .agg #[.pointer (some ⟨4, 76, none⟩), .pointer (some ⟨q, 0, none⟩), .int .u64 153]]).run Tryd.prog w = .ok (.tuple #[]) (w.setCell ⟨p, 0, none⟩ (.int .i64 n)) := by
  change Sem.run Tryd.prog (do
    let (some (dst, a, fl), some (src, b, _)) := (← ReflectliteValue.parts (.agg #[.pointer (some ⟨4, 76, none⟩), .pointer (some ⟨p, 0, none⟩), .int .u64 409]), ← ReflectliteValue.parts (.agg #[.pointer (some ⟨4, 76, none⟩), .pointer (some ⟨q, 0, none⟩), .int .u64 153]))
      | unsupported (.noEntry "extern/(internal/reflectlite.Value).Set.zeroValue")
    if fl / ReflectliteValue.flagAddr % 2 == 0 then unsupported (.noEntry "extern/(internal/reflectlite.Value).Set.unaddressable")
    let val ← loadVar src b
    if ← Rtype.directlyAssignable dst src then storeVar dst a val
    else if ← Rtype.implements dst src then
      if (← Rtype.kind src) == 20 then
        match val with
        | .nilIface => unsupported (.noEntry "extern/reflectlite: a nil value of one interface type handed on as a value of another")
        | _ => storeVar dst a val
      else storeVar dst a (.iface src val)
    else panicString ("reflectlite.Set: value of type " ++ (← Rtype.spelt src) ++ " is not assignable to type " ++ (← Rtype.spelt dst))
    pure (Value.tuple #[])) w = _
  rw [Sem.run_bind, as_partsD]
  simp only [Result.andThen]
  rw [Sem.run_bind, as_partsE]
  simp only [Result.andThen]
  rw [if_neg (by decide), Sem.run_bind, as_loadE q _ w hq]
  simp only [Result.andThen]
  rw [Sem.run_bind, as_dir]
  simp only [Result.andThen]
  rw [if_pos trivial, Sem.run_bind, as_storeE p n v w hp hf]
  rfl
theorem ex_valueOf (args : Array Value) (w : World) : (callFunc 49 args).run Tryd.prog w = (((asVF) args).run Tryd.prog w).andThen fun v w' => .ok (.value v) w' := @run_callFunc_extern Tryd.prog 49 _ (asVF) Tryd.func49 (by kernel_rfl) (by kernel_rfl) (by kernel_rfl) (by kernel_rfl) args w
theorem ex_type (args : Array Value) (w : World) : (callFunc 50 args).run Tryd.prog w = (((asTyF) args).run Tryd.prog w).andThen fun v w' => .ok (.value v) w' := @run_callFunc_extern Tryd.prog 50 _ (asTyF) Tryd.func50 (by kernel_rfl) (by kernel_rfl) (by kernel_rfl) (by kernel_rfl) args w
theorem ex_isNil (args : Array Value) (w : World) : (callFunc 51 args).run Tryd.prog w = (((asNilF) args).run Tryd.prog w).andThen fun v w' => .ok (.value v) w' := @run_callFunc_extern Tryd.prog 51 _ (asNilF) Tryd.func51 (by kernel_rfl) (by kernel_rfl) (by kernel_rfl) (by kernel_rfl) args w
theorem ex_vElem (args : Array Value) (w : World) : (callFunc 64 args).run Tryd.prog w = (((asEF) args).run Tryd.prog w).andThen fun v w' => .ok (.value v) w' := @run_callFunc_extern Tryd.prog 64 _ (asEF) Tryd.func64 (by kernel_rfl) (by kernel_rfl) (by kernel_rfl) (by kernel_rfl) args w
theorem ex_set (args : Array Value) (w : World) : (callFunc 65 args).run Tryd.prog w = (((ReflectliteValue.set) args).run Tryd.prog w).andThen fun v w' => .ok (.value v) w' := @run_callFunc_extern Tryd.prog 65 _ (ReflectliteValue.set) Tryd.func65 (by kernel_rfl) (by kernel_rfl) (by kernel_rfl) (by kernel_rfl) args w
theorem ex_typeOf (args : Array Value) (w : World) : (callFunc 63 args).run Tryd.prog w = (((ReflectliteType.typeOf) args).run Tryd.prog w).andThen fun v w' => .ok (.value v) w' := @run_callFunc_extern Tryd.prog 63 _ (ReflectliteType.typeOf) Tryd.func63 (by kernel_rfl) (by kernel_rfl) (by kernel_rfl) (by kernel_rfl) args w
theorem ex_impl (args : Array Value) (w : World) : (callFunc 122 args).run Tryd.prog w = (((asImF) args).run Tryd.prog w).andThen fun v w' => .ok (.value v) w' := @run_callFunc_extern Tryd.prog 122 _ (asImF) Tryd.func122 (by kernel_rfl) (by kernel_rfl) (by kernel_rfl) (by kernel_rfl) args w
theorem ex_ass (args : Array Value) (w : World) : (callFunc 119 args).run Tryd.prog w = (((asAsF) args).run Tryd.prog w).andThen fun v w' => .ok (.value v) w' := @run_callFunc_extern Tryd.prog 119 _ (asAsF) Tryd.func119 (by kernel_rfl) (by kernel_rfl) (by kernel_rfl) (by kernel_rfl) args w
theorem ex_elem (args : Array Value) (w : World) : (callFunc 121 args).run Tryd.prog w = (((asElF) args).run Tryd.prog w).andThen fun v w' => .ok (.value v) w' := @run_callFunc_extern Tryd.prog 121 _ (asElF) Tryd.func121 (by kernel_rfl) (by kernel_rfl) (by kernel_rfl) (by kernel_rfl) args w
theorem ex_kind (args : Array Value) (w : World) : (callFunc 109 args).run Tryd.prog w = (((asKiF) args).run Tryd.prog w).andThen fun v w' => .ok (.value v) w' := @run_callFunc_extern Tryd.prog 109 _ (asKiF) Tryd.func109 (by kernel_rfl) (by kernel_rfl) (by kernel_rfl) (by kernel_rfl) args w

end Go.Proofs.YtbcjhmeeonhmaaaDoor.H
end

/-
pax.told: errors.As at an error of no record.
-/
section
set_option linter.unusedVariables false
set_option maxRecDepth 100000
namespace Go.Proofs.YtbcjhmeeonhmaaaDoor.H
open Go Go.RowKit Go.Extern

set_option maxHeartbeats 4000000 in
theorem as_ (n : Int) (b a : Nat) (w : World) (hb : w.cell? ⟨b, 0, none⟩ = some (.int .i64 0)) (hf : w.frozen? ⟨b, 0, none⟩ = false) (ha : w.cell? ⟨a, 0, none⟩ = some (.pointer (some ⟨b, 0, none⟩))) :
    Calls Tryd.prog 52 #[wrongV n, .iface 78 (.pointer (some ⟨b, 0, none⟩)), .agg #[.pointer (some ⟨4, 78, none⟩), .pointer (some ⟨a, 0, none⟩), .int .u64 150], .iface 124 (.agg #[.pointer (some ⟨4, 76, none⟩)])] w fun e w' =>
      e = .returned (.bool true) ∧ w.grownBy w' (some b) ∧ w'.cell? ⟨b, 0, none⟩ = some (.int .i64 n) := by
  have hbl := World.block_lt_of_cell? w _ hb
  have hal := World.block_lt_of_cell? w _ ha
  have e1 := ex_typeOf
  have e2 := as_typeOf
  have e3 := ex_ass
  have e4 := as_as
  have e5 := as_mAss
  have e6 := ex_vElem
  have e8 := ex_valueOf
  have e9 := as_vE
  have e10 := ex_set
  obtain ⟨W1, hW1⟩ : ∃ W1, w.alloc (.cells #[.pointer (some ⟨4, 78, none⟩), .pointer (some ⟨a, 0, none⟩), .int .u64 150] 102) = W1 := ⟨_, rfl⟩
  have hB1 : Below w.heap.size w W1 := by rw [← hW1]; exact below_one _ _
  have hc0 : W1.cell? ⟨w.heap.size, 0, none⟩ = some (.pointer (some ⟨4, 78, none⟩)) := by rw [← hW1]; exact cel_new w _ _ 0 rfl
  have hc1 : W1.cell? ⟨w.heap.size, 1, none⟩ = some (.pointer (some ⟨a, 0, none⟩)) := by rw [← hW1]; exact cel_new w _ _ 1 rfl
  have hc2 : W1.cell? ⟨w.heap.size, 2, none⟩ = some (.int .u64 150) := by rw [← hW1]; exact cel_new w _ _ 2 rfl
  have f1 := as_vElem ⟨a, 0, none⟩ ⟨b, 0, none⟩ W1 (celB hB1 ha)
  obtain ⟨W2, hW2⟩ : ∃ W2, W1.alloc (.cells #[.int .i64 n] 76) = W2 := ⟨_, rfl⟩
  have hB2 : Below w.heap.size w W2 := by rw [← hW2]; exact below_al hB1 _
  have hb2 := celB hB2 hb
  have hf2 : W2.frozen? ⟨b, 0, none⟩ = false := by rw [← hf]; unfold World.frozen?; simp only []; rw [hB2.block b hbl]
  have hq : W2.cell? ⟨W1.heap.size, 0, none⟩ = some (.int .i64 n) := by rw [← hW2]; exact cel_new W1 _ _ 0 rfl
  have f2 := as_set b W1.heap.size n _ W2 hb2 hf2 hq
  have hg : w.grownBy (W2.setCell ⟨b, 0, none⟩ (.int .i64 n)) (some b) := Lib.grownBy_setB (grown_of_below hB2 _) 0 _
  have hd : (W2.setCell ⟨b, 0, none⟩ (.int .i64 n)).cell? ⟨b, 0, none⟩ = some (.int .i64 n) := World.cell?_setCell_same' _ _ _ (by rw [hb2]; rfl)
  unfold wrongV
  go_enter Tryd.func52, Tryd.ntmps52
  go_wp2
  refine wp_loop_rounds 1 ?_
  rw [rounds_succ]
  go_wp2
  go_ret
  exact ⟨rfl, hg, hd⟩

set_option maxHeartbeats 4000000 in
theorem As_ (n : Int) (b : Nat) (w : World) (hG : GW w) (hb : w.cell? ⟨b, 0, none⟩ = some (.int .i64 0)) (hf : w.frozen? ⟨b, 0, none⟩ = false) :
    Calls Tryd.prog 35 #[wrongV n, .iface 78 (.pointer (some ⟨b, 0, none⟩))] w fun e w' =>
      e = .returned (.bool true) ∧ w.grownBy w' (some b) ∧ w'.cell? ⟨b, 0, none⟩ = some (.int .i64 n) := by
  have hbl := World.block_lt_of_cell? w _ hb
  obtain ⟨_, _, _, _, _, _, _, _, _, _, _, g6⟩ := id hG
  have e8 := ex_valueOf
  have e9 := as_vP
  have e10 := ex_type
  have e11 := as_ty
  have e12 := ex_kind
  have e13 := as_kiP
  have e14 := as_kiE
  have e15 := as_mKind
  have e16 := ex_isNil
  have e17 := ex_elem
  have e18 := as_el
  have e19 := as_mElem
  have e20 := ex_impl
  have e21 := as_im
  have e22 := as_mImpl
  obtain ⟨W1, hW1⟩ : ∃ W1, w.alloc (.cells #[.pointer (some ⟨b, 0, none⟩)] 78) = W1 := ⟨_, rfl⟩
  have hB1 : Below w.heap.size w W1 := by rw [← hW1]; exact below_one _ _
  have hz1 : W1.heap.size = w.heap.size + 1 := by rw [← hW1]; simp
  have hx1 : W1.cell? ⟨w.heap.size, 0, none⟩ = some (.pointer (some ⟨b, 0, none⟩)) := by rw [← hW1]; exact cel_new w _ _ 0 rfl
  obtain ⟨W2, hW2⟩ : ∃ W2, W1.alloc (.cells #[.pointer (some ⟨4, 78, none⟩), .pointer (some ⟨w.heap.size, 0, none⟩), .int .u64 150] 102) = W2 := ⟨_, rfl⟩
  have hB2 : Below w.heap.size w W2 := by rw [← hW2]; exact below_al hB1 _
  have hc0 : W2.cell? ⟨w.heap.size + 1, 0, none⟩ = some (.pointer (some ⟨4, 78, none⟩)) := by rw [← hW2, ← hz1]; exact cel_new W1 _ _ 0 rfl
  have hc1 : W2.cell? ⟨w.heap.size + 1, 1, none⟩ = some (.pointer (some ⟨w.heap.size, 0, none⟩)) := by rw [← hW2, ← hz1]; exact cel_new W1 _ _ 1 rfl
  have hc2 : W2.cell? ⟨w.heap.size + 1, 2, none⟩ = some (.int .u64 150) := by rw [← hW2, ← hz1]; exact cel_new W1 _ _ 2 rfl
  have hx2 : W2.cell? ⟨w.heap.size, 0, none⟩ = some (.pointer (some ⟨b, 0, none⟩)) := by rw [← hW2]; exact cel_al hx1 _
  have f1 := as_isNil ⟨w.heap.size, 0, none⟩ ⟨b, 0, none⟩ W2 hx2
  have hb2 := celB hB2 hb
  have hf2 : W2.frozen? ⟨b, 0, none⟩ = false := by rw [← hf]; unfold World.frozen?; simp only []; rw [hB2.block b hbl]
  have g62 := celB hB2 g6
  have HA := as_ n b w.heap.size W2 hb2 hf2 hx2
  unfold wrongV at HA ⊢
  have HA := Lib.hid HA
  go_enter Tryd.func35, Tryd.ntmps35
  go_wp2_with fail
  refine HA.out.mono ?_
  rintro e W3 ⟨rfl, hg3, hd3⟩
  go_wp2
  go_ret
  exact ⟨rfl, ⟨hg3.os.trans hB2.os, hg3.tape.trans hB2.tape, hg3.output.trans hB2.output, Nat.le_trans hB2.size hg3.size, fun i hi hr => (hg3.block i (Nat.lt_of_lt_of_le hi hB2.size) hr).trans (hB2.block i hi)⟩, hd3⟩

set_option maxHeartbeats 4000000 in
theorem pax_told (n : Int) (w : World) (hG : GW w) :
    Calls Tryd.prog 23 #[wrongV n] w fun e w' => e = .returned (.tuple #[.int .i64 n, .int .i64 90]) ∧ Below w.heap.size w w' := by
  have hA := As_ n w.heap.size (w.alloc (.cells #[.int .i64 0] 76)) (hG.below (below_one _ _)) (cel_new w _ _ 0 rfl) (by unfold World.frozen?; simp only []; rw [World.alloc_heap_new]; rfl)
  have HA := Lib.hid hA
  clear hA
  go_enter Tryd.func23, Tryd.ntmps23
  go_wp2_with fail
  refine HA.out.mono ?_
  rintro e W1 ⟨rfl, hg, hd⟩
  go_wp2
  exact bodyPost_ret (v := .tuple #[.int .i64 n, .int .i64 90]) (by simp [results, Tryd.results23, go_sem]) rfl ⟨rfl, (below_one w (.cells #[.int .i64 0] 76)).trans ⟨hg.os, hg.tape, hg.output, hg.size, fun i hi => hg.block i (by simp; omega) (by intro e; injection e; omega)⟩⟩
end Go.Proofs.YtbcjhmeeonhmaaaDoor.H
end

/-
A range over a function, where the round's variable has a block of its own (it is captured, or its address is taken): one law for the caller, out of the iterator's contract. Over any program. By this session.
-/
section
set_option linter.unusedVariables false
namespace Go.Proofs.YtbcjhmeeonhmaaaDoor.H
open Go Go.RowKit

theorem wp_rangeFunc_iterA {P : Program} {α : Type} {g : Operand} {ps : Array Tmp} {assign body : Code} {Q : Exit → Act → World → Prop} {a : Act} {w : World}
    {gf : Nat} {lb : Array Value} (hg : a.eval g = .func (.func gf) #[] lb) (eg : ∀ args w, (callFunc gf args).run P w = .ok (.enter gf args) w)
    {encs : α → Array Value} {St Kp : World → World → Prop} {Yp : List α → α → World → Prop} {S Sp : List α → World → Prop} {P0 : World → Prop} (hseq : Iter P gf lb encs St Kp Yp S Sp P0)
    (hSt : ∀ A B, St A B → ∀ k o, w.heap.size ≤ k → A.heap[k]? = some o → o.isCells = false → o.isWalk = false → B.heap[k]? = some o) (hP0 : ∀ W, Below w.heap.size w W → P0 W)
    (hKt : ∀ {A B C : World}, Kp A B → Kp B C → Kp A C) (hKa : ∀ (W : World) (o : Obj), w.heap.size ≤ W.heap.size → Kp W (W.alloc o)) (hKb : ∀ (W : World) (l : Nat) (o o' : Obj), w.heap.size ≤ l → W.heap[l]? = some o → o.isCells = false → o.isWalk = false → Kp W (W.putObj l o')) (hps : ∀ x, (encs x).size = ps.size)
    (I : List α → World → Prop) (Ix : Code → List α → World → Prop) (hI : OwnFrom w.heap.size I) (hIx : ∀ c, OwnFrom w.heap.size (Ix c))
    (hIs : ∀ s A B, I s A → St A B → I s B) (hIxs : ∀ c s A B, Ix c s A → St A B → Ix c s B)
    (hY : ∀ x, OwnFrom w.heap.size (fun pre W => Yp pre x W)) (hS : OwnFrom w.heap.size S) (hSp : OwnFrom w.heap.size Sp) (h0 : I [] w) (a₁ : α → Nat → Act) (ob : α → Obj) (hob : ∀ x, (ob x).isCells = true)
    (hassign : ∀ (l : Nat) (x : α) (W : World) (K : Act → World → Prop), K (a₁ x W.heap.size) (W.alloc (ob x)) →
      assign.wpIn (Fence.wide.inRound l) 0 P (Exit.then K (fun _ _ _ => False)) { tmps := (ps.zip (encs x)).foldl (fun t (p, v) => t.setIfInBounds p v) a.tmps, defers := [] } W)
    (hbody : ∀ (l : Nat) (pre : List α) (x : α) (W : World) (b : Nat), w.heap.size ≤ b → W.heap[b]? = some (ob x) → I pre W → Yp pre x W → body.wpIn (Fence.wide.inRound l) 0 P (iterPost w.heap.size Kp I Ix (pre ++ [x]) W) (a₁ x b) W)
    (hdone : ∀ (D : Nat) (xs : List α) (W : World), w.heap.size ≤ D → S xs W → I xs W → W.heap[D]? = some (.deferred (some [])) → Q .normal { a with defers := { target := .collected D, args := #[] } :: a.defers } W)
    (hstop : ∀ (D : Nat) (c : Code) (pre : List α) (W : World), w.heap.size ≤ D → Sp pre W → Ix c pre W → W.heap[D]? = some (.deferred (some [])) → c.wpIn Fence.wide 0 P Q { a with defers := { target := .collected D, args := #[] } :: a.defers } W) :
    (Code.rangeFunc g ps assign body).wpIn Fence.wide 0 P Q a w := by
  refine wpIn_rangeFunc ?_
  intro fn hfn
  rw [Fence.wide_round]
  obtain ⟨rec, hrec⟩ : ∃ rec : LoopState → Option Code → Loop, rec = fun st pe => { state := st, pending := pe, fn, tmps := a.tmps, params := ps, assign, body, defers := w.heap.size } := ⟨_, rfl⟩
  obtain ⟨W1, hW1⟩ : ∃ W1, (w.alloc (.deferred (some []))).alloc (.loop (rec .ready none)) = W1 := ⟨_, rfl⟩
  have hL1 : W1.heap[w.heap.size + 1]? = some (.loop (rec .ready none)) := by
    rw [← hW1]; have := World.alloc_heap_new (w.alloc (.deferred (some []))) (.loop (rec .ready none)); rwa [World.size_alloc] at this
  have hK1 : W1.heap[w.heap.size]? = some (.deferred (some [])) := by
    rw [← hW1]; exact (Below.heap_alloc _ _ _ (by simp)).trans (World.alloc_heap_new w _)
  have own_al : ∀ {β : Type} {I : β → World → Prop} (_ : OwnFrom w.heap.size I) {s : β} {W : World} (o : Obj), I s W → I s (W.alloc o) := fun h s W o hs => h _ _ _ none hs (World.grownBy_alloc W o none) (fun r e => by cases e)
  have own_put : ∀ {β : Type} {I : β → World → Prop} (_ : OwnFrom w.heap.size I) {s : β} {W : World} {l : Nat} {o : Obj} (o' : Obj), I s W → w.heap.size ≤ l → W.heap[l]? = some o → o.isCells = false → I s (W.putObj l o') :=
    fun h s W l o o' hs hl ho hc => h _ _ _ (some l) hs (grownBy_putObj' W l o') (fun r e => by cases e; exact ⟨hl, o, ho, hc⟩)
  have hI1 : I [] W1 := by rw [← hW1]; exact own_al hI _ (own_al hI _ h0)
  have hb1 : Below w.heap.size w W1 := by
    rw [← hW1]; exact ((Below.refl _ w).alloc (Nat.le_refl _) _).alloc (by simp) _
  refine ⟨w.heap.size + 1, [{ target := .collected w.heap.size, args := #[] }], W1, { target := .fn (.func gf) lb, args := #[.func (.yield (w.heap.size + 1)) #[] #[]] }, W1, gf,
    #[.func (.yield (w.heap.size + 1)) #[] #[]] ++ lb, W1, ?_, ?_, ?_, ?_, (fun h => by cases h), ?_⟩
  · rw [← hW1, hrec]; exact run_enterLoop_outer _ _ _ _ _
  · simp only [resolve, hg]
    simp [go_sem]
  · intro f' hf'; trivial
  · simp [invoke, go_sem, eg]
  · refine callsIn_wide.2 ?_
    refine (hseq (w.heap.size + 1)
      (fun pre W => I pre W ∧ W.heap[w.heap.size + 1]? = some (.loop (rec .ready none)) ∧ W.heap[w.heap.size]? = some (.deferred (some [])))
      (fun pre W => ∃ c, Ix c pre W ∧ W.heap[w.heap.size + 1]? = some (.loop (rec .done (some c))) ∧ W.heap[w.heap.size]? = some (.deferred (some [])))
      W1
      (fun s A B hs hst => ⟨hIs s A B hs.1 hst, hSt A B hst _ _ (by omega) hs.2.1 rfl rfl, hSt A B hst _ _ (Nat.le_refl _) hs.2.2 rfl rfl⟩)
      (fun s A B hs hst => by
        obtain ⟨c, hc, hl, hk⟩ := hs
        exact ⟨c, hIxs c s A B hc hst, hSt A B hst _ _ (by omega) hl rfl rfl, hSt A B hst _ _ (Nat.le_refl _) hk rfl rfl⟩)
      (hP0 W1 hb1) ?_ ⟨hI1, hL1, hK1⟩).mono ?_
    · -- ONE ROUND
      rintro pre x W ⟨hi, hl, hk⟩ hyp
      have hlt0 : w.heap.size + 1 < W.heap.size := (Array.getElem?_eq_some_iff.1 hl).1
      have hy := run_yield (P := P) (args := encs x) hl (by rw [hrec]; exact hps x)
      rw [hrec] at hy
      obtain ⟨Wa, hWa⟩ : ∃ Wa, W.alloc (ob x) = Wa := ⟨_, rfl⟩
      have hbx : Wa.heap[W.heap.size]? = some (ob x) := by rw [← hWa]; exact World.alloc_heap_new _ _
      have hla : Wa.heap[w.heap.size + 1]? = some (.loop (rec .ready none)) := by rw [← hWa]; exact (Below.heap_alloc _ _ _ hlt0).trans hl
      have hka : Wa.heap[w.heap.size]? = some (.deferred (some [])) := by rw [← hWa]; exact (Below.heap_alloc _ _ _ (by omega)).trans hk
      have hia : I pre Wa := by rw [← hWa]; exact own_al hI _ hi
      have hya : Yp pre x Wa := by rw [← hWa]; exact own_al (I := fun pre W => Yp pre x W) (hY x) _ hyp
      have hKaa : Kp W Wa := by rw [← hWa]; exact hKa _ _ (by omega)
      have hlt : w.heap.size + 1 < Wa.heap.size := (Array.getElem?_eq_some_iff.1 hla).1
      have hne : W.heap.size ≠ w.heap.size + 1 := by omega
      refine ⟨fn, _, assign, body, hy, roundIn_of_wpIn trivial (hassign _ x W _ ?_)⟩
      rw [hWa]
      refine ⟨_, run_beginRound hla (by rw [hrec]), ?_⟩
      have hl2 : (Wa.putObj (w.heap.size + 1) (.loop { rec .ready none with state := .busy })).heap[w.heap.size + 1]? = some (.loop { rec .ready none with state := .busy }) := World.putObj_heap_same hlt
      have hk2 : (Wa.putObj (w.heap.size + 1) (.loop { rec .ready none with state := .busy })).heap[w.heap.size]? = some (.deferred (some [])) := (World.putObj_heap_other (by omega)).trans hka
      have hw2 : Kp W (Wa.putObj (w.heap.size + 1) (.loop { rec .ready none with state := .busy })) := hKt hKaa (hKb _ _ _ _ (by omega) hla rfl rfl)
      refine wpIn_mono (hbody _ pre x _ W.heap.size (by omega) ((World.putObj_heap_other hne).trans hbx) (own_put hI _ hia (by omega) hla rfl) (own_put (I := fun pre W => Yp pre x W) (hY x) _ hya (by omega) hla rfl)) ?_
      have fin : ∀ (jump : Option Code) (W3 : World), KeepsFrom w.heap.size (Wa.putObj (w.heap.size + 1) (.loop { rec .ready none with state := .busy })) W3 →
          (Instr.endRound (w.heap.size + 1) jump).run P W3 = .ok (.bool jump.isNone) (W3.putObj (w.heap.size + 1) (.loop (rec (if jump.isNone then .ready else .done) jump))) ∧
          W3.heap[w.heap.size + 1]? = some (.loop { rec .ready none with state := .busy }) ∧
          (W3.putObj (w.heap.size + 1) (.loop (rec (if jump.isNone then .ready else .done) jump))).heap[w.heap.size + 1]? = some (.loop (rec (if jump.isNone then .ready else .done) jump)) ∧
          (W3.putObj (w.heap.size + 1) (.loop (rec (if jump.isNone then .ready else .done) jump))).heap[w.heap.size]? = some (.deferred (some [])) := fun jump W3 hk3 => by
        have hl3 := hk3.same _ _ (by omega) hl2 rfl
        have := run_endRound (P := P) jump hl3
        rw [hrec] at this ⊢
        exact ⟨this, by rw [hrec] at hl3; exact hl3, World.putObj_heap_same (Array.getElem?_eq_some_iff.1 hl3).1, (World.putObj_heap_other (by omega)).trans (hk3.same _ _ (Nat.le_refl _) hk2 rfl)⟩
      have lv : ∀ (c : Code) (W3 : World), KeepsFrom w.heap.size (Wa.putObj (w.heap.size + 1) (.loop { rec .ready none with state := .busy })) W3 → Kp (Wa.putObj (w.heap.size + 1) (.loop { rec .ready none with state := .busy })) W3 → Ix c (pre ++ [x]) W3 →
          ∃ v w', (Instr.endRound (w.heap.size + 1) (some c)).run P W3 = .ok v w' ∧ ((Ending.returned v = .returned (.bool true) ∧ (I (pre ++ [x]) w' ∧ w'.heap[w.heap.size + 1]? = some (.loop (rec .ready none)) ∧ w'.heap[w.heap.size]? = some (.deferred (some []))) ∧ Kp W w') ∨
            (Ending.returned v = .returned (.bool false) ∧ (∃ c, Ix c (pre ++ [x]) w' ∧ w'.heap[w.heap.size + 1]? = some (.loop (rec .done (some c))) ∧ w'.heap[w.heap.size]? = some (.deferred (some []))) ∧ Kp W w')) := fun c W3 hk3 hkp3 hi3 => by
        obtain ⟨hr, hl3, hl4, hk4⟩ := fin (some c) W3 hk3
        exact ⟨_, _, hr, .inr ⟨rfl, ⟨c, own_put (hIx c) _ hi3 (by omega) hl3 rfl, hl4, hk4⟩, hKt (hKt hw2 hkp3) (hKb _ _ _ _ (by omega) hl3 rfl rfl)⟩⟩
      rintro e a3 W3 hp
      cases e with
      | normal =>
        obtain ⟨hk3, hkp3, hi3⟩ := hp
        obtain ⟨hr, hl3, hl4, hk4⟩ := fin none W3 hk3
        exact ⟨_, _, hr, .inl ⟨rfl, ⟨own_put hI _ hi3 (by omega) hl3 rfl, hl4, hk4⟩, hKt (hKt hw2 hkp3) (hKb _ _ _ _ (by omega) hl3 rfl rfl)⟩⟩
      | ret => exact lv _ W3 hp.1 hp.2.1 hp.2.2
      | exit id => exact lv _ W3 hp.1 hp.2.1 hp.2.2
      | goto t => exact lv _ W3 hp.1 hp.2.1 hp.2.2
      | panic ch => exact hp.elim
      | outgrown => exact hp.elim
    · -- BEHIND THE ITERATOR
      rintro e W2 ⟨⟨v, rfl⟩, (⟨xs, hS2, hi, hl, hk⟩ | ⟨pre, hSp2, c, hi, hl, hk⟩)⟩
      · exact ⟨none, _, by have := run_endLoop (P := P) hl (by rw [hrec]; simp); rw [hrec] at this; exact this, hdone _ xs _ (Nat.le_refl _) (own_put hS _ hS2 (by omega) hl rfl) (own_put hI _ hi (by omega) hl rfl) ((World.putObj_heap_other (by omega)).trans hk)⟩
      · exact ⟨some c, _, by have := run_endLoop (P := P) hl (by rw [hrec]; simp); rw [hrec] at this; exact this, hstop _ c pre _ (Nat.le_refl _) (own_put hSp _ hSp2 (by omega) hl rfl) (own_put (hIx c) _ hi (by omega) hl rfl) ((World.putObj_heap_other (by omega)).trans hk)⟩
end Go.Proofs.YtbcjhmeeonhmaaaDoor.H
end

/-
pax.Get, walked.
-/
section
set_option linter.unusedVariables false
set_option maxRecDepth 100000
namespace Go.Proofs.YtbcjhmeeonhmaaaDoor.H
open Go Go.RowKit Go.Proofs.YtbcjhmeeonhmaaaDoorW.PrintWords Go.Proofs.YtbcjhmeeonhmaaaDoorW.PrintMore Go.Proofs.YtbcjhmeeonhmaaaDoor.M
attribute [local go_sem] Oper.semAt_some

/-- The records of bytes, and where there is none. -/
def recF : Nat → List S31 → ByteArray → List S31 × Option ByteArray
  | 0, pre, t => (pre, none)
  | k + 1, pre, t => if t.size = 0 then (pre, none) else match firstS t with
    | none => (pre, some t)
    | some (n, v, m) => if pre.length + 1 ≤ 30 ∧ n ∉ pre.map (·.f0) then recF k (pre ++ [⟨n, v⟩]) (t.extract m t.size) else (pre, some t)
def getsS (s : ByteArray) : List S31 × Int × Int := match recF 40 [] s with
  | (xs, none) => (xs, 0, 0)
  | (_, some t) => ([], (s.size : Int) - t.size, 90)
theorem Rec.run {s t : ByteArray} {pre : List S31} (h : Rec s pre t) : ∀ k, recF (pre.length + k) [] s = recF k pre t := by
  induction h with
  | nil => intro k; simp
  | snoc h h0 hf hn ih =>
    intro k
    rw [List.length_append, List.length_singleton, Nat.add_assoc, ih, Nat.add_comm 1 k]
    simp only [recF, if_neg h0, hf]
    rw [if_pos hn]
theorem getsS_done {s t : ByteArray} {xs : List S31} (h : Rec s xs t) (ht : t.size = 0) : getsS s = (xs, 0, 0) := by
  have hl := h.size
  have := h.run (39 - xs.length + 1)
  rw [show xs.length + (39 - xs.length + 1) = 40 from by omega] at this
  unfold getsS
  rw [this, recF, if_pos ht]
theorem getsS_bad {s t : ByteArray} {xs : List S31} (h : Rec s xs t) (hb : Bad xs t) : getsS s = ([], (s.size : Int) - t.size, 90) := by
  have hl := h.size
  have := h.run (39 - xs.length + 1)
  rw [show xs.length + (39 - xs.length + 1) = 40 from by omega] at this
  unfold getsS
  rw [this, recF, if_neg hb.1]
  rcases hb.2 with h1 | ⟨n, v, k, h1, h2⟩
  · rw [h1]
  · rw [h1]; simp only []; rw [if_neg h2]

theorem records_mk (X : Nat) (w : World) : Calls Tryd.prog 22 #[.pointer (some ⟨X, 0, none⟩)] w fun e w' =>
    e = .returned (.func (.func 33) #[] #[.pointer (some ⟨w.heap.size, 0, none⟩)]) ∧ w.alloc (.cells #[.pointer (some ⟨X, 0, none⟩)] 41) = w' := by
  have hmf : ∀ (fn : Fn) (first cap : Array Value) (w : World), (Instr.makeFunc fn first cap).run Tryd.prog w = .ok (.func fn first cap) w := fun _ _ _ _ => rfl
  go_enter Tryd.func22, Tryd.ntmps22
  go_wp2
  go_ret
  exact ⟨rfl, rfl⟩

/-- Records' cells. -/
def cellsA (xs : List S31) : List Value := xs.flatMap fun x => [.string x.f0, .string x.f1]
theorem cellsA_snoc (xs : List S31) (x : S31) : cellsA (xs ++ [x]) = cellsA xs ++ [.string x.f0, .string x.f1] := by simp [cellsA]
theorem R_of_cells {w : World} {base : Nat} {v : Value} {xs : List S31} (h : w.ownsRow base 31 2 v xs.length (cellsA xs)) : Kd.R k31 31 w base (fun _ => True) v xs := by
  refine ⟨fun _ _ => trivial, _, h, ?_⟩
  clear h
  have : ∀ (R : S31 → List Value → Prop), (∀ x : S31, R x [.string x.f0, .string x.f1]) → Reps R 2 xs (cellsA xs) := by
    intro R hR
    induction xs with
    | nil => exact Reps.none _ _
    | cons x t ih =>
      show Reps R 2 (x :: t) (Value.string x.f0 :: Value.string x.f1 :: cellsA t)
      exact Reps.c2 (hR x) ih
  exact this _ (fun x => k31_mkM _ _ _ x)

theorem cell_two_new (w : World) (x y : Value) (t : TypeId) : ∀ j u, [x, y][j]? = some u → (w.alloc (.cells #[x, y] t)).cell? ((⟨w.heap.size, 0, none⟩ : Addr).add j) = some u := by
  intro j u hj
  have h := two_cells (World.alloc_heap_new w (.cells #[x, y] t))
  match j, hj with
  | 0, hj => simp at hj; subst hj; exact h.1
  | 1, hj => simp at hj; subst hj; exact h.2.1
  | j + 2, hj => simp at hj
theorem own_block_kind {W : World} {base : Nat} {e : TypeId} {size n : Nat} {v : Value} {xs : List Value} (hr : W.ownsRow base e size v n xs) {k : Nat} {o : Obj} (hk : W.heap[k]? = some o) (ho : ∀ c fz, o ≠ .cells c e fz) : some k ≠ v.ownBlock := by
  rcases hr.2 with ⟨rfl, _⟩ | ⟨g, cap, cur, rfl, hb, hgb, _⟩
  · simp [Value.ownBlock]
  · intro h
    simp only [Value.ownBlock, Option.some.injEq] at h
    subst h
    rw [hgb] at hk
    exact ho _ _ (Option.some.inj hk).symm
theorem ownsRow_step {w0 W W' : World} {R base : Nat} {e : TypeId} {size n : Nat} {v : Value} {xs : List Value} (hr : W.ownsRow base e size v n xs) (h : RecStep w0 R W W') (hR : R < base) (he : e ≠ 69) : W'.ownsRow base e size v n xs := by
  refine ⟨hr.1, ?_⟩
  rcases hr.2 with h1 | ⟨g, cap, cur, h1, hb, hg, h2⟩
  · exact .inl h1
  · exact .inr ⟨g, cap, cur, h1, hb, h.1.2.2.2.2 g _ hg (by omega) (by intro c fz e'; injection e' with _ e' _; exact he e') rfl, h2⟩
theorem boxed_step {w0 W W' : World} {R B : Nat} {t : TypeId} {v : Value} (h : Boxed W B t v) (hs : RecStep w0 R W W') (hB : B ≠ R) (ht : t ≠ 69) : Boxed W' B t v :=
  hs.1.2.2.2.2 B _ h hB (by intro c fz e'; injection e' with _ e' _; exact ht e') rfl
/-- What Get hands back. -/
def GotA (s : ByteArray) (w : World) (e : Ending) (w' : World) : Prop :=
  ∃ v0 : Value, e = .returned (.tuple #[v0, .int .i64 (getsS s).2.1, .int .i64 (getsS s).2.2]) ∧ Kd.R k31 31 w' w.heap.size (fun _ => True) v0 (getsS s).1 ∧ Below w.heap.size w w'

set_option maxHeartbeats 4000000 in
theorem paxGet (s : ByteArray) (w : World) (hG : GW w) (hs : s.size ≤ 1073741824) : Calls Tryd.prog 10 #[.string s] w (GotA s w) := by
  have HS := Lib.hid hs
  obtain ⟨i0, hi, hz0, hz1, hz2⟩ := info_parts info31
  refine (callsIn_wide (n := 0)).1 ?_
  refine callsIn_of_wp_marks Tryd.func10 rfl trivial ?_ rfl
  simp only [Tryd.ntmps10, List.size_toArray, List.length_cons, List.length_nil, Nat.reduceAdd, Nat.reduceSub, Array.replicate_succ, Array.replicate_zero, List.push_toArray, List.append_toArray, List.nil_append, List.cons_append]
  gi_wp2_with (refine ⟨trivial, rfl, ?_⟩; gi_at_call 22; refine callsIn_wide.2 ((records_mk _ _).mono ?_); rintro e w' ⟨rfl, rfl⟩)
  obtain ⟨W0, hW0⟩ : ∃ W0, ((w.alloc (.cells #[.string s, .int .i64 s.size, .nilIface] 47)).alloc (.cells #[.slice none 0 0] 23)).alloc (.cells #[.pointer (some ⟨w.heap.size, 0, none⟩)] 41) = W0 := ⟨_, rfl⟩
  have hz : W0.heap.size = w.heap.size + 3 := by rw [← hW0]; simp
  have hB0 : Below w.heap.size w W0 := by rw [← hW0]; exact (((Below.refl _ w).alloc (Nat.le_refl _) _).alloc (by simp) _).alloc (by simp; omega) _
  have hRd : RdAt w.heap.size s s.size .nilIface W0 := by rw [← hW0]; exact heap_al (heap_al (World.alloc_heap_new _ _) _) _
  have hbL : Boxed W0 (w.heap.size + 1) 23 (.slice none 0 0) := by rw [← hW0]; have := Boxed.new (w.alloc (.cells #[.string s, .int .i64 s.size, .nilIface] 47)) 23 (.slice none 0 0); rw [World.size_alloc] at this; exact this.alloc _
  have hbB : Boxed W0 (w.heap.size + 1 + 1) 41 (.pointer (some ⟨w.heap.size, 0, none⟩)) := by rw [← hW0]; have := Boxed.new ((w.alloc (.cells #[.string s, .int .i64 s.size, .nilIface] 47)).alloc (.cells #[.slice none 0 0] 23)) 41 (.pointer (some ⟨w.heap.size, 0, none⟩)); rw [World.size_alloc, World.size_alloc] at this; exact this
  rw [hW0]
  clear hW0 hs
  refine wp_rangeFunc_iterA (gf := 33) (lb := #[.pointer (some ⟨w.heap.size + 1 + 1, 0, none⟩)]) rfl (enters_of Tryd.func33 (by kernel_rfl) rfl)
    (records_iter w hG w.heap.size (w.heap.size + 1 + 1) (Nat.le_refl _) s HS.out)
    (fun A B h k o hk h1 h2 h3 => h.1.2.2.2.2 k o h1 (by omega) (by rintro c fz rfl; cases h2) h3)
    (fun W h => ⟨celB (h.mono (Nat.le_refl _)) hbB.cell, hRd.below h, hB0.trans (h.mono (by omega)), by omega⟩)
    (fun h k => ⟨k.1.trans h.1, k.2.1.trans h.2.1, fun i c fz e => k.2.2.1 i c fz (h.2.2.1 i c fz e), fun i es c e => k.2.2.2.1 i es c (h.2.2.2.1 i es c e), fun b => k.2.2.2.2 (h.2.2.2.2 b)⟩)
    (fun W o hW => ⟨Below.heap_alloc _ _ _ (by omega), Below.heap_alloc _ _ _ (by omega), fun i c fz e => heap_al e _, fun i es c e => heap_al e _, fun b => b.alloc b.size _⟩)
    (fun W l o o' hl h h1 h2 => ⟨World.putObj_heap_other (by omega), World.putObj_heap_other (by omega), fun i c fz e => (World.putObj_heap_other (by rintro rfl; rw [h] at e; cases e; cases h1)).trans e, fun i es c e => (World.putObj_heap_other (by rintro rfl; rw [h] at e; cases e; cases h2)).trans e,
      fun b => b.trans ⟨rfl, rfl, rfl, by rw [World.putObj_size]; exact Nat.le_refl _, fun i hi => World.putObj_heap_other (by have := b.size; omega)⟩⟩) (fun _ => rfl)
    (fun pre W => (∃ v, Boxed W (w.heap.size + 1) 23 v ∧ W.ownsRow (w.heap.size + 1) 31 2 v pre.length (cellsA pre)) ∧ Boxed W (w.heap.size + 1 + 1) 41 (.pointer (some ⟨w.heap.size, 0, none⟩)) ∧ Below w.heap.size w W ∧ w.heap.size + 3 ≤ W.heap.size ∧ w.heap.size < W.heap.size)
    (fun _ _ _ => False) ?hI (fun _ _ _ _ _ hs _ _ => hs) ?hIs (fun _ _ _ _ h _ => h) ?hY ?hS ?hSp
    ⟨⟨_, hbL, World.ownsRow_nil _ _ _ _⟩, hbB, hB0, by omega, by omega⟩
    (fun x b => { tmps := #[.string s, undef, .slice none 0 0, .int .i64 0, .int .i64 0, .pointer (some ⟨w.heap.size, 0, none⟩), .pointer (some ⟨w.heap.size + 1, 0, none⟩), .pointer (some ⟨b, 0, none⟩), undef, undef, .string s, .agg #[.string s], .string s, .int .i64 s.size, .agg #[.string s, .int .i64 s.size, .nilIface], .pointer (some ⟨w.heap.size, 0, none⟩), .pointer (some ⟨w.heap.size, 0, none⟩), .func (.func 33) #[] #[.pointer (some ⟨w.heap.size + 1 + 1, 0, none⟩)], .agg #[.string x.f0, .string x.f1], undef, undef, undef, undef, undef, undef, undef, undef, undef, undef, undef, undef, undef, undef, undef, undef, undef, undef, undef, undef], defers := [] })
    (fun x => .cells #[.string x.f0, .string x.f1] 31) (fun _ => rfl) ?assign ?body ?done ?stop
  case hI =>
    rintro pre A B row ⟨⟨v, hv, hr⟩, hBx, hB, hz', hz''⟩ hg hrow
    exact ⟨⟨v, hv.kept hg (fun e => by have := hrow _ e.symm; omega), hr.kept hg (ownBlock_ne_row hr hrow)⟩, hBx.kept hg (fun e => by have := hrow _ e.symm; omega), hB.grown hg (by omega) (fun k e => by have := hrow _ e; omega), Nat.le_trans hz' hg.size, by have := hg.size; omega⟩
  case hIs =>
    rintro pre A B ⟨⟨v, hv, hr⟩, hBx, hB, hz', hz''⟩ hst
    exact ⟨⟨v, boxed_step hv hst (by omega) (by decide), ownsRow_step hr hst (by omega) (by decide)⟩, boxed_step hBx hst (by omega) (by decide), hst.2 hB, Nat.le_trans hz' hst.1.2.2.2.1, by have := hst.1.2.2.2.1; omega⟩
  case hY => intro x; exact ownFrom_pure _ _
  case hS =>
    rintro xs A B row ⟨t, h1, h2⟩ hg hrow
    have hk : ∀ {t' : ByteArray} {ev : Value}, RdAt w.heap.size t' s.size ev A → RdAt w.heap.size t' s.size ev B := fun h => h.same (hg.block _ (lt_of_heap h) (fun e => by have := hrow _ e.symm; omega))
    exact ⟨t, h1, h2.elim (fun ⟨a, t', b⟩ => .inl ⟨a, t', hk b⟩) (fun ⟨a, t', b⟩ => .inr ⟨a, t', hk b⟩)⟩
  case hSp => exact ownFrom_pure _ _
  case assign =>
    intro l x W K hK
    unfold encA
    gi_wp2
    exact hK
  case stop =>
    rintro D c pre W _ _ h _
    exact h.elim
  case body =>
    rintro l pre x W b hb0 hbx ⟨⟨v, hv, hrow⟩, hBx, hB, hz', hz''⟩ ⟨hlen, _⟩
    have hc := hv.cell
    obtain ⟨x0, x1, _⟩ := two_cells hbx
    gi_wp2_with (gi_at_builtin; refine wpListIn_append_own _ rfl _ _ 23 rfl (w.heap.size + 1) 31 i0 (.agg #[.string ⟨#[]⟩, .string ⟨#[]⟩]) 2 32 Tryd.underlying23 hi hz0 hz1 hz2 rfl (by decide) _ _ _ rfl (hrow.alloc _) ⟨W.heap.size, 0, none⟩ 1 1 [.string x.f0, .string x.f1] rfl rfl (cell_two_new _ _ _ _) (by simp [Value.oneCell']) (by unfold maxLen; omega) (by omega) (by have := hB.size; simp; omega) ?_; intro v' w1 hown' hgrow _; obtain ⟨g', cap', rfl⟩ := ownsRow_succ hown'; obtain ⟨hv1, hv2, hr2, hk2, hb2⟩ := hv.appended (by decide) hrow (by omega) (Nat.le_refl _) hown' hgrow; have hc1 := hv1.cell; have hf1 := hv1.frozen)
    have hg2 : (W.alloc (.cells #[.string x.f0, .string x.f1] 31)).grownBy w1 v.ownBlock := hgrow
    have oth : ∀ (C : Nat) (o : Obj), W.heap[C]? = some o → (∀ c fz, o ≠ .cells c 31 fz) → C ≠ w.heap.size + 1 → (w1.setCell ⟨w.heap.size + 1, 0, none⟩ (.slice (some ⟨g', 0, none⟩) (pre.length + 1) cap')).heap[C]? = some o := fun C o h1 h2 h3 =>
      (appended_other (C := C) (v' := .slice (some ⟨g', 0, none⟩) (pre.length + 1) cap') hg2 (lt_of_heap h1) (B := w.heap.size + 1) h3 (own_block_kind hrow h1 h2)).trans h1
    have oX := appended_other (C := w.heap.size) (v' := .slice (some ⟨g', 0, none⟩) (pre.length + 1) cap') hg2 (by omega) (B := w.heap.size + 1) (by omega) (fun e => by rcases ownBlock_ne_of_base hrow (X := w.heap.size) (by omega) with h | h; rw [h] at e; cases e; exact h e.symm)
    have oB := appended_other (C := w.heap.size + 1 + 1) (v' := .slice (some ⟨g', 0, none⟩) (pre.length + 1) cap') hg2 (by omega) (B := w.heap.size + 1) (by omega) (hBx.not_row (by decide) hrow)
    have hBn : ∀ c fz, W.heap[w.heap.size + 1]? ≠ some (.cells c 69 fz) := fun c fz e => by rw [show W.heap[w.heap.size + 1]? = _ from hv] at e; injection e with e; injection e with _ e _; cases e
    have hBm : ∀ es c, W.heap[w.heap.size + 1]? ≠ some (.map es c) := fun es c e => by rw [show W.heap[w.heap.size + 1]? = _ from hv] at e; cases e
    have hBB : Below w.heap.size w (w1.setCell ⟨w.heap.size + 1, 0, none⟩ (.slice (some ⟨g', 0, none⟩) (pre.length + 1) cap')) := hB.trans (hb2.mono (by omega))
    exact ⟨hk2.from _, ⟨oX, oB, fun k c fz e => oth k _ e (by intro c' fz' e'; injection e' with _ e' _; cases e') (by rintro rfl; exact hBn _ _ e), fun k es c e => oth k _ e (by intro c' fz' e'; cases e') (by rintro rfl; exact hBm _ _ e), fun _ => hBB⟩,
      ⟨⟨_, hv2, by rw [cellsA_snoc]; simpa using hr2⟩, oB.trans hBx, hBB, by have := hb2.size; omega, by have := hb2.size; omega⟩⟩
  case done =>
    rintro D ys W hD ⟨t, hE, hend⟩ ⟨⟨v, hv, hrow⟩, hBx, hB, hz', hz''⟩ hK
    have hc := hv.cell
    rcases hend with ⟨ht, t', hR⟩ | ⟨hbad, t', hR⟩
    · have hg := getsS_done hE ht
      have c2 := hR.c2
      have HGS := Lib.hid hg
      clear hg ht hE
      gi_wp2
      refine ⟨by simp, .inl ⟨_, _, rfl, run_takeDeferred hK, ?_⟩⟩
      refine ⟨_, results_tmp3 rfl _ _ _, ?_⟩
      refine ⟨v, by rw [HGS.out]; rfl, ?_, ?_⟩
      · rw [HGS.out]; exact R_of_cells (ownsRow_base (ownsRow_putObj (W := W) (l := D) hrow _ hK rfl) (by omega))
      · exact hB.trans (belowK_b (w := w) (Nat.le_refl _) W D _ _ (by omega) hK rfl rfl)
    · have hg := getsS_bad hE hbad
      have c2 := hR.c2
      have HGS := Lib.hid hg
      obtain ⟨n, hn⟩ : ∃ n, (s.size : Int) - t.size = n := ⟨_, rfl⟩
      rw [hn] at HGS c2
      have HT := Lib.hid (pax_told n W (hG.below hB))
      unfold wrongV at c2 HT
      clear hg hbad hE hn
      gi_wp2_with fail
      refine ⟨trivial, rfl, callsIn_wide.2 (HT.out.mono ?_)⟩
      rintro _ W2 ⟨rfl, hb2⟩
      have hK2 := heapB hb2 (lt_of_heap hK) hK
      gi_wp2
      refine ⟨by simp, .inl ⟨_, _, rfl, run_takeDeferred hK2, ?_⟩⟩
      refine ⟨_, results_tmp3 rfl _ _ _, ?_⟩
      refine ⟨.slice none 0 0, by rw [HGS.out]; rfl, ?_, ?_⟩
      · rw [HGS.out]; exact Kd.R_nil _ _ _ _ _
      · exact (hB.trans (hb2.mono hB.size)).trans (belowK_b (w := w) (Nat.le_refl _) W2 D _ _ (by omega) hK2 rfl rfl)
end Go.Proofs.YtbcjhmeeonhmaaaDoor.H
end

-- Laid by a program of this session for this claim.
section
namespace Go.Proofs.YtbcjhmeeonhmaaaDoor.M
open Go.RowKit Go.Proofs.YtbcjhmeeonhmaaaDoorW.PrintWords Go.Proofs.YtbcjhmeeonhmaaaDoorW.PrintLast Go.Proofs.YtbcjhmeeonhmaaaDoorW.PrintMore
attribute [local go_sem] max2_int min2_int max_two min_two max_three min_three max_four min_four   -- for this text's walks alone
set_option linter.unusedVariables false
set_option linter.unusedSimpArgs false

/-! ### pax_Get: function 10 -/
-- IMPORT Derived.Test.YtbcjhmeeonhmaaaDoorHPaxGet Derived.Test.YtbcjhmeeonhmaaaDoorHGm
def pax_Get.f (a0 : ByteArray) : Option (List S31 × Int × Int) := if a0.size ≤ 1073741824 then some (H.getsS a0) else none
theorem pax_Get.calls (a0 : ByteArray) (r1 : List S31) (r2 : Int) (r3 : Int) (w : World) (hG : GW w) (h : pax_Get.f a0 = some (r1, r2, r3)) :
    Calls Tryd.prog 10 #[.string a0] w fun e w' => ∃ v0_ : Value, e = .returned (.tuple #[v0_, .int .i64 r2, .int .i64 r3]) ∧ Kd.R k31 31 w' w.heap.size (fun _ => True) v0_ r1 ∧ Below w.heap.size w w' := by
  unfold pax_Get.f at h
  by_cases hh : a0.size ≤ 1073741824
  · rw [if_pos hh] at h
    have := H.paxGet a0 w hG hh
    unfold H.GotA at this
    rw [Option.some.inj h] at this
    exact this
  · rw [if_neg hh] at h; cases h

end Go.Proofs.YtbcjhmeeonhmaaaDoor.M
end

-- Laid by a program of this session for this claim.
section
namespace Go.Proofs.YtbcjhmeeonhmaaaDoor.M
open Go.RowKit Go.Proofs.YtbcjhmeeonhmaaaDoorW.PrintWords Go.Proofs.YtbcjhmeeonhmaaaDoorW.PrintLast Go.Proofs.YtbcjhmeeonhmaaaDoorW.PrintMore
attribute [local go_sem] max2_int min2_int max_two min_two max_three min_three max_four min_four   -- for this text's walks alone
set_option linter.unusedVariables false
set_option linter.unusedSimpArgs false

/-! ### pax_One: function 15 -/
-- IMPORT Derived.Test.YtbcjhmeeonhmaaaDoorHOneW
def pax_One.f (a0_0 : ByteArray) (a0_1 : ByteArray) : Option (ByteArray × Int) := some (H.oneS a0_0 a0_1)
theorem pax_One.calls (a0_0 : ByteArray) (a0_1 : ByteArray) (r1 : ByteArray) (r2 : Int) (w : World) (h : pax_One.f a0_0 a0_1 = some (r1, r2)) :
    Calls Tryd.prog 15 #[.agg #[.string a0_0, .string a0_1]] w fun e w' => e = .returned (.tuple #[.string r1, .int .i64 r2]) ∧ Below w.heap.size w w' := by
  have := H.one a0_0 a0_1 w
  rw [Option.some.inj h] at this
  exact this

end Go.Proofs.YtbcjhmeeonhmaaaDoor.M
end

-- Laid by a program of this session for this claim.
section
namespace Go.Proofs.YtbcjhmeeonhmaaaDoor.M
open Go.RowKit Go.Proofs.YtbcjhmeeonhmaaaDoorW.PrintWords Go.Proofs.YtbcjhmeeonhmaaaDoorW.PrintLast Go.Proofs.YtbcjhmeeonhmaaaDoorW.PrintMore
attribute [local go_sem] max2_int min2_int max_two min_two max_three min_three max_four min_four   -- for this text's walks alone
set_option linter.unusedVariables false
set_option linter.unusedSimpArgs false

/-! ### pax_Size: function 14 -/
def pax_Size.f (a0_0 : ByteArray) (a0_1 : ByteArray) : Option (Int) := (pax_One.f a0_0 a0_1).bind fun bt179 => (some (bt179.1.size : Int))
set_option maxHeartbeats 8000000 in
set_option maxRecDepth 100000 in
theorem pax_Size.calls (a0_0 : ByteArray) (a0_1 : ByteArray) (r : Int) (w : World) (h : pax_Size.f a0_0 a0_1 = some r) :
    Calls Tryd.prog 14 #[.agg #[.string a0_0, .string a0_1]] w fun e w' => e = .returned (.int .i64 r) ∧ Below w.heap.size w w' := by
  have hu31 := Tryd.underlying31
  have HB := Aside0.mk (Below.refl w.heap.size w)
  have H : ((pax_One.f a0_0 a0_1).bind fun bt179 => (some (bt179.1.size : Int))) = some r := h
  clear h
  replace H := Option.bind_eq_some_iff.mp H
  obtain ⟨⟨t179, t180⟩, A20, H⟩ := H
  replace H : (some (t179.size : Int)) = some r := H
  have A2 := Aside0.mk A20
  clear A20
  obtain rfl := Option.some.inj H
  go_enter Tryd.func14, Tryd.ntmps14
  go_wp2_with (first | ((with_reducible refine gate_dst (N := 1) rfl ?_); refine box_event ?hg (N := 1) ?hd (cs := #[.string a0_0, .string a0_1]) (t := 31) ?hr ?_; (case hd => rfl); (case hg => rfl); (case hr => first | (go_simp; done) | (go_simp; rfl)); intro gb178 hg w3 hbox hb; have n0_ := Aside0.mk (below_step (by repeat (first | (with_reducible first | exact HB.out | apply below_alloc | apply pw_below_drewN | apply below_drew1) | exact HB.out)) hb); have n1_ := Aside0.mk (hbox); have n2_ := Aside0.mk ((by rw [hg]; exact (below_size (by repeat (first | (with_reducible first | exact HB.out | apply below_alloc | apply pw_below_drewN | apply below_drew1) | exact HB.out))) : w.heap.size ≤ gb178)); have n3_ := Aside0.mk ((by rw [hg]; exact (below_size (by repeat (first | (with_reducible first | exact HB.out | apply below_alloc | apply pw_below_drewN | apply below_drew1) | exact HB.out))) : w.heap.size ≤ gb178)); clear HB; have HB := n0_; have BK178 := n1_; have GW178 := n2_; have GE178 := n3_; clear n0_ n1_ n2_ n3_; clear hb hbox hg; have hcz4_0 : w3.cell? ⟨gb178, 0, none⟩ = some (.string a0_0) := (blk_cell BK178.out 0).trans rfl; have hcz4_1 : w3.cell? ⟨gb178, 1, none⟩ = some (.string a0_1) := (blk_cell BK178.out 1).trans rfl; have hfz4_0 := blk_frozen BK178.out 0; have hfz4_1 := blk_frozen BK178.out 1) | ((with_reducible refine gate_callee (f := 15) rfl ?_); refine goesL_ (some 7) rfl rfl Tryd.func15 (by kernel_rfl) rfl #[.agg #[.string a0_0, .string a0_1]] rfl (by (try simp only [List.map_toArray, List.map_cons, List.map_nil]); first | done | rfl | (simp only [List.length_drop, List.length_take]; rfl)) ?_; (with_reducible refine (pax_One.calls a0_0 a0_1 t179 t180 _ A2.out).mono ?_); rintro e w5 ⟨rfl, hb⟩; refine ⟨_, rfl, ?_⟩; have n0_ := Aside0.mk (blk_below (g := gb178) (o := .cells #[.string a0_0, .string a0_1] 31 (0, 0)) (by (with_reducible repeat (first | refine blk_drewN ?_ _ | refine blk_drew ?_ | refine blk_alloc ?_ _)); exact BK178.out) hb); have n1_ := Aside0.mk (below_step (by repeat (first | (with_reducible first | exact HB.out | apply below_alloc | apply pw_below_drewN | apply below_drew1 | refine below_set ?_ GE178.out) | exact HB.out)) hb); clear BK178; clear HB; have BK178 := n0_; have HB := n1_; clear n0_ n1_; (try clear hb); (try clear hb2); (try clear hk); (try clear hi)))
  go_ret
  exact ⟨by first | rfl | (simp [errW_none, errW_some] <;> rfl) | (simp [*, errW_none, errW_some] <;> rfl), by repeat (first | (with_reducible first | exact HB.out | apply below_alloc | apply pw_below_drewN | apply below_drew1 | refine below_set ?_ GE178.out) | exact HB.out)⟩

end Go.Proofs.YtbcjhmeeonhmaaaDoor.M
end

-- Laid by a program of this session for this claim.
section
namespace Go.Proofs.YtbcjhmeeonhmaaaDoor.M
open Go.RowKit Go.Proofs.YtbcjhmeeonhmaaaDoorW.PrintWords Go.Proofs.YtbcjhmeeonhmaaaDoorW.PrintLast Go.Proofs.YtbcjhmeeonhmaaaDoorW.PrintMore
attribute [local go_sem] max2_int min2_int max_two min_two max_three min_three max_four min_four   -- for this text's walks alone
set_option linter.unusedVariables false
set_option linter.unusedSimpArgs false

/-! ### pleacherlaw09_shown: function 9 -/
def pleacherlaw09_shown.f  : Option (Bool) := (pax_One.f (⟨#[112, 97, 116, 104]⟩ : ByteArray) (⟨#[97]⟩ : ByteArray)).bind fun bt181 => ((pax_Get.f (⟨#[57, 32, 112, 97, 116, 104, 61, 97, 10, 53, 32, 107, 61, 10]⟩ : ByteArray)).bind fun bt183 => ((pax_Get.f (⟨#[57, 32, 112, 97, 116, 104, 61, 97, 10, 54, 32, 107, 61, 10]⟩ : ByteArray)).bind fun bt188 => (if bt181.1.toList = ([57, 32, 112, 97, 116, 104, 61, 97, 10] : List UInt8) then (if bt181.2 = 0 then (if (bt183.1.length : Int) = 2 then (if bt183.2.1 = 0 then (if bt183.2.2 = 0 then (if bt188.2.1 = 9 then (if bt188.2.2 = 90 then ((pax_Size.f (⟨#[107]⟩ : ByteArray) (⟨#[]⟩ : ByteArray)).bind fun t193 => (some (t193 == 5))) else (some false)) else (some false)) else (some false)) else (some false)) else (some false)) else (some false)) else (some false))))
set_option maxHeartbeats 8000000 in
set_option maxRecDepth 100000 in
theorem pleacherlaw09_shown.calls  (r : Bool) (w : World) (hG : GW w) (h : pleacherlaw09_shown.f  = some r) :
    Calls Tryd.prog 9 #[] w fun e w' => e = .returned (.bool r) ∧ Below w.heap.size w w' := by
  have HG := Aside0.mk hG
  clear hG
  have hu31 := Tryd.underlying31
  have HB := Aside0.mk (Below.refl w.heap.size w)
  have H : ((pax_One.f (⟨#[112, 97, 116, 104]⟩ : ByteArray) (⟨#[97]⟩ : ByteArray)).bind fun bt181 => ((pax_Get.f (⟨#[57, 32, 112, 97, 116, 104, 61, 97, 10, 53, 32, 107, 61, 10]⟩ : ByteArray)).bind fun bt183 => ((pax_Get.f (⟨#[57, 32, 112, 97, 116, 104, 61, 97, 10, 54, 32, 107, 61, 10]⟩ : ByteArray)).bind fun bt188 => (if bt181.1.toList = ([57, 32, 112, 97, 116, 104, 61, 97, 10] : List UInt8) then (if bt181.2 = 0 then (if (bt183.1.length : Int) = 2 then (if bt183.2.1 = 0 then (if bt183.2.2 = 0 then (if bt188.2.1 = 9 then (if bt188.2.2 = 90 then ((pax_Size.f (⟨#[107]⟩ : ByteArray) (⟨#[]⟩ : ByteArray)).bind fun t193 => (some (t193 == 5))) else (some false)) else (some false)) else (some false)) else (some false)) else (some false)) else (some false)) else (some false))))) = some r := h
  clear h
  replace H := Option.bind_eq_some_iff.mp H
  obtain ⟨⟨t181, t182⟩, A10, H⟩ := H
  replace H : ((pax_Get.f (⟨#[57, 32, 112, 97, 116, 104, 61, 97, 10, 53, 32, 107, 61, 10]⟩ : ByteArray)).bind fun bt183 => ((pax_Get.f (⟨#[57, 32, 112, 97, 116, 104, 61, 97, 10, 54, 32, 107, 61, 10]⟩ : ByteArray)).bind fun bt188 => (if t181.toList = ([57, 32, 112, 97, 116, 104, 61, 97, 10] : List UInt8) then (if t182 = 0 then (if (bt183.1.length : Int) = 2 then (if bt183.2.1 = 0 then (if bt183.2.2 = 0 then (if bt188.2.1 = 9 then (if bt188.2.2 = 90 then ((pax_Size.f (⟨#[107]⟩ : ByteArray) (⟨#[]⟩ : ByteArray)).bind fun t193 => (some (t193 == 5))) else (some false)) else (some false)) else (some false)) else (some false)) else (some false)) else (some false)) else (some false)))) = some r := H
  have A1 := Aside0.mk A10
  clear A10
  replace H := Option.bind_eq_some_iff.mp H
  obtain ⟨⟨t183, t184, t185⟩, A20, H⟩ := H
  replace H : ((pax_Get.f (⟨#[57, 32, 112, 97, 116, 104, 61, 97, 10, 54, 32, 107, 61, 10]⟩ : ByteArray)).bind fun bt188 => (if t181.toList = ([57, 32, 112, 97, 116, 104, 61, 97, 10] : List UInt8) then (if t182 = 0 then (if (t183.length : Int) = 2 then (if t184 = 0 then (if t185 = 0 then (if bt188.2.1 = 9 then (if bt188.2.2 = 90 then ((pax_Size.f (⟨#[107]⟩ : ByteArray) (⟨#[]⟩ : ByteArray)).bind fun t193 => (some (t193 == 5))) else (some false)) else (some false)) else (some false)) else (some false)) else (some false)) else (some false)) else (some false))) = some r := H
  have A2 := Aside0.mk A20
  clear A20
  replace H := Option.bind_eq_some_iff.mp H
  obtain ⟨⟨t188, t189, t190⟩, A30, H⟩ := H
  replace H : (if t181.toList = ([57, 32, 112, 97, 116, 104, 61, 97, 10] : List UInt8) then (if t182 = 0 then (if (t183.length : Int) = 2 then (if t184 = 0 then (if t185 = 0 then (if t189 = 9 then (if t190 = 90 then ((pax_Size.f (⟨#[107]⟩ : ByteArray) (⟨#[]⟩ : ByteArray)).bind fun t193 => (some (t193 == 5))) else (some false)) else (some false)) else (some false)) else (some false)) else (some false)) else (some false)) else (some false)) = some r := H
  have A3 := Aside0.mk A30
  clear A30
  by_cases c4 : t181.toList = ([57, 32, 112, 97, 116, 104, 61, 97, 10] : List UInt8)
  · rw [if_pos c4] at H
    have c4b0 : (t181.toList == ([57, 32, 112, 97, 116, 104, 61, 97, 10] : List UInt8)) = true := beq_iff_eq.mpr c4
    have c4b1 : (t181.toList != ([57, 32, 112, 97, 116, 104, 61, 97, 10] : List UInt8)) = false := bne_eq_false_iff_eq.mpr c4
    clear c4
    by_cases c5 : t182 = 0
    · rw [if_pos c5] at H
      have c5b0 : (t182 == 0) = true := beq_iff_eq.mpr c5
      have c5b1 : (t182 != 0) = false := bne_eq_false_iff_eq.mpr c5
      clear c5
      by_cases c6 : (t183.length : Int) = 2
      · rw [if_pos c6] at H
        have c6b0 : ((t183.length : Int) == 2) = true := beq_iff_eq.mpr c6
        have c6b1 : ((t183.length : Int) != 2) = false := bne_eq_false_iff_eq.mpr c6
        clear c6
        by_cases c7 : t184 = 0
        · rw [if_pos c7] at H
          have c7b0 : (t184 == 0) = true := beq_iff_eq.mpr c7
          have c7b1 : (t184 != 0) = false := bne_eq_false_iff_eq.mpr c7
          clear c7
          by_cases c8 : t185 = 0
          · rw [if_pos c8] at H
            have c8b0 : (t185 == 0) = true := beq_iff_eq.mpr c8
            have c8b1 : (t185 != 0) = false := bne_eq_false_iff_eq.mpr c8
            clear c8
            by_cases c9 : t189 = 9
            · rw [if_pos c9] at H
              have c9b0 : (t189 == 9) = true := beq_iff_eq.mpr c9
              have c9b1 : (t189 != 9) = false := bne_eq_false_iff_eq.mpr c9
              clear c9
              by_cases c10 : t190 = 90
              · rw [if_pos c10] at H
                have c10b0 : (t190 == 90) = true := beq_iff_eq.mpr c10
                have c10b1 : (t190 != 90) = false := bne_eq_false_iff_eq.mpr c10
                clear c10
                replace H := Option.bind_eq_some_iff.mp H
                obtain ⟨t193, A110, H⟩ := H
                replace H : (some (t193 == 5)) = some r := H
                have A11 := Aside0.mk A110
                clear A110
                obtain rfl := Option.some.inj H
                go_enter Tryd.func9, Tryd.ntmps9
                go_wp2_with (first | ((with_reducible refine gate_callee (f := 15) rfl ?_); refine goesL_ (some 11) rfl rfl Tryd.func15 (by kernel_rfl) rfl #[.agg #[.string (⟨#[112, 97, 116, 104]⟩ : ByteArray), .string (⟨#[97]⟩ : ByteArray)]] rfl (by (try simp only [List.map_toArray, List.map_cons, List.map_nil]); first | done | rfl | (simp only [List.length_drop, List.length_take]; rfl)) ?_; (with_reducible refine (pax_One.calls (⟨#[112, 97, 116, 104]⟩ : ByteArray) (⟨#[97]⟩ : ByteArray) t181 t182 _ A1.out).mono ?_); rintro e w12 ⟨rfl, hb⟩; refine ⟨_, rfl, ?_⟩; have n0_ := Aside0.mk (below_step (by repeat (first | (with_reducible first | exact HB.out | apply below_alloc | apply pw_below_drewN | apply below_drew1) | exact HB.out)) hb); clear HB; have HB := n0_; clear n0_; (try clear hb); (try clear hb2); (try clear hk); (try clear hi)) | ((with_reducible refine gate_callee (f := 10) rfl ?_); refine goesL_ (some 15) rfl rfl Tryd.func10 (by kernel_rfl) rfl #[.string (⟨#[57, 32, 112, 97, 116, 104, 61, 97, 10, 53, 32, 107, 61, 10]⟩ : ByteArray)] rfl (by (try simp only [List.map_toArray, List.map_cons, List.map_nil]); first | done | rfl | (simp only [List.length_drop, List.length_take]; rfl)) ?_; (with_reducible refine (pax_Get.calls (⟨#[57, 32, 112, 97, 116, 104, 61, 97, 10, 53, 32, 107, 61, 10]⟩ : ByteArray) t183 t184 t185 _ ?side1 A2.out).mono ?_); (case side1 => exact GW.below HG.out (by repeat (first | (with_reducible first | exact HB.out | apply below_alloc | apply pw_below_drewN | apply below_drew1) | exact HB.out))); rintro e w13 ⟨v186, rfl, ho0, hb⟩; refine ⟨_, rfl, ?_⟩; have n0_ := Aside0.mk (Kd.R_lower ho0 (below_size (by repeat (first | (with_reducible first | exact HB.out | apply below_alloc | apply pw_below_drewN | apply below_drew1) | exact HB.out)))); have n1_ := Aside0.mk (below_step (by repeat (first | (with_reducible first | exact HB.out | apply below_alloc | apply pw_below_drewN | apply below_drew1) | exact HB.out)) hb); clear HB; have HO187 := n0_; have HB := n1_; clear n0_ n1_; (try clear hb); (try clear hb2); (try clear hk); (try clear hi); (try clear ho0)) | ((with_reducible refine gate_callee (f := 10) rfl ?_); refine goesL_ (some 20) rfl rfl Tryd.func10 (by kernel_rfl) rfl #[.string (⟨#[57, 32, 112, 97, 116, 104, 61, 97, 10, 54, 32, 107, 61, 10]⟩ : ByteArray)] rfl (by (try simp only [List.map_toArray, List.map_cons, List.map_nil]); first | done | rfl | (simp only [List.length_drop, List.length_take]; rfl)) ?_; (with_reducible refine (pax_Get.calls (⟨#[57, 32, 112, 97, 116, 104, 61, 97, 10, 54, 32, 107, 61, 10]⟩ : ByteArray) t188 t189 t190 _ ?side1 A3.out).mono ?_); (case side1 => exact GW.below HG.out (by repeat (first | (with_reducible first | exact HB.out | apply below_alloc | apply pw_below_drewN | apply below_drew1) | exact HB.out))); rintro e w14 ⟨v191, rfl, ho0, hb⟩; refine ⟨_, rfl, ?_⟩; have n0_ := Aside0.mk (Kd.R_elder' (by (with_reducible repeat (first | apply Kd.R_alloc | apply Kd.R_drewN | apply Kd.R_drew)); exact HO187.out) (Kd.R_base ho0) hb); have n1_ := Aside0.mk (Kd.R_lower (Kd.R_new' ho0 (Kd.R_lt (by (with_reducible repeat (first | apply Kd.R_alloc | apply Kd.R_drewN | apply Kd.R_drew)); exact HO187.out))) (below_size (by repeat (first | (with_reducible first | exact HB.out | apply below_alloc | apply pw_below_drewN | apply below_drew1) | exact HB.out)))); have n2_ := Aside0.mk (below_step (by repeat (first | (with_reducible first | exact HB.out | apply below_alloc | apply pw_below_drewN | apply below_drew1) | exact HB.out)) hb); clear HO187; clear HB; have HO187 := n0_; have HO192 := n1_; have HB := n2_; clear n0_ n1_ n2_; (try clear hb); (try clear hb2); (try clear hk); (try clear hi); (try clear ho0); obtain ⟨Ao15, co15, eo15⟩ := Kd.R_slice HO187.out; subst eo15) | (go_at_call 14; (with_reducible refine (pax_Size.calls (⟨#[107]⟩ : ByteArray) (⟨#[]⟩ : ByteArray) t193 _ A11.out).mono ?_); rintro e w16 ⟨rfl, hb⟩; have n0_ := Aside0.mk (Kd.R_below (by (with_reducible repeat (first | apply Kd.R_alloc | apply Kd.R_drewN | apply Kd.R_drew)); exact HO187.out) hb); have n1_ := Aside0.mk (Kd.R_below (by (with_reducible repeat (first | apply Kd.R_alloc | apply Kd.R_drewN | apply Kd.R_drew)); exact HO192.out) hb); have n2_ := Aside0.mk (below_step (by repeat (first | (with_reducible first | exact HB.out | apply below_alloc | apply pw_below_drewN | apply below_drew1) | exact HB.out)) hb); clear HO187; clear HO192; clear HB; have HO187 := n0_; have HO192 := n1_; have HB := n2_; clear n0_ n1_ n2_; (try clear hb); (try clear hb2); (try clear hk); (try clear hi)))
                go_ret
                exact ⟨by first | rfl | (simp [errW_none, errW_some] <;> rfl) | (simp [*, errW_none, errW_some] <;> rfl), by repeat (first | (with_reducible first | exact HB.out | apply below_alloc | apply pw_below_drewN | apply below_drew1) | exact HB.out)⟩
              · rw [if_neg c10] at H
                have c10b0 : (t190 == 90) = false := beq_eq_false_iff_ne.mpr c10
                have c10b1 : (t190 != 90) = true := bne_iff_ne.mpr c10
                obtain rfl := Option.some.inj H
                go_enter Tryd.func9, Tryd.ntmps9
                go_wp2_with (first | ((with_reducible refine gate_callee (f := 15) rfl ?_); refine goesL_ (some 11) rfl rfl Tryd.func15 (by kernel_rfl) rfl #[.agg #[.string (⟨#[112, 97, 116, 104]⟩ : ByteArray), .string (⟨#[97]⟩ : ByteArray)]] rfl (by (try simp only [List.map_toArray, List.map_cons, List.map_nil]); first | done | rfl | (simp only [List.length_drop, List.length_take]; rfl)) ?_; (with_reducible refine (pax_One.calls (⟨#[112, 97, 116, 104]⟩ : ByteArray) (⟨#[97]⟩ : ByteArray) t181 t182 _ A1.out).mono ?_); rintro e w17 ⟨rfl, hb⟩; refine ⟨_, rfl, ?_⟩; have n0_ := Aside0.mk (below_step (by repeat (first | (with_reducible first | exact HB.out | apply below_alloc | apply pw_below_drewN | apply below_drew1) | exact HB.out)) hb); clear HB; have HB := n0_; clear n0_; (try clear hb); (try clear hb2); (try clear hk); (try clear hi)) | ((with_reducible refine gate_callee (f := 10) rfl ?_); refine goesL_ (some 15) rfl rfl Tryd.func10 (by kernel_rfl) rfl #[.string (⟨#[57, 32, 112, 97, 116, 104, 61, 97, 10, 53, 32, 107, 61, 10]⟩ : ByteArray)] rfl (by (try simp only [List.map_toArray, List.map_cons, List.map_nil]); first | done | rfl | (simp only [List.length_drop, List.length_take]; rfl)) ?_; (with_reducible refine (pax_Get.calls (⟨#[57, 32, 112, 97, 116, 104, 61, 97, 10, 53, 32, 107, 61, 10]⟩ : ByteArray) t183 t184 t185 _ ?side1 A2.out).mono ?_); (case side1 => exact GW.below HG.out (by repeat (first | (with_reducible first | exact HB.out | apply below_alloc | apply pw_below_drewN | apply below_drew1) | exact HB.out))); rintro e w18 ⟨v186, rfl, ho0, hb⟩; refine ⟨_, rfl, ?_⟩; have n0_ := Aside0.mk (Kd.R_lower ho0 (below_size (by repeat (first | (with_reducible first | exact HB.out | apply below_alloc | apply pw_below_drewN | apply below_drew1) | exact HB.out)))); have n1_ := Aside0.mk (below_step (by repeat (first | (with_reducible first | exact HB.out | apply below_alloc | apply pw_below_drewN | apply below_drew1) | exact HB.out)) hb); clear HB; have HO187 := n0_; have HB := n1_; clear n0_ n1_; (try clear hb); (try clear hb2); (try clear hk); (try clear hi); (try clear ho0)) | ((with_reducible refine gate_callee (f := 10) rfl ?_); refine goesL_ (some 20) rfl rfl Tryd.func10 (by kernel_rfl) rfl #[.string (⟨#[57, 32, 112, 97, 116, 104, 61, 97, 10, 54, 32, 107, 61, 10]⟩ : ByteArray)] rfl (by (try simp only [List.map_toArray, List.map_cons, List.map_nil]); first | done | rfl | (simp only [List.length_drop, List.length_take]; rfl)) ?_; (with_reducible refine (pax_Get.calls (⟨#[57, 32, 112, 97, 116, 104, 61, 97, 10, 54, 32, 107, 61, 10]⟩ : ByteArray) t188 t189 t190 _ ?side1 A3.out).mono ?_); (case side1 => exact GW.below HG.out (by repeat (first | (with_reducible first | exact HB.out | apply below_alloc | apply pw_below_drewN | apply below_drew1) | exact HB.out))); rintro e w19 ⟨v191, rfl, ho0, hb⟩; refine ⟨_, rfl, ?_⟩; have n0_ := Aside0.mk (Kd.R_elder' (by (with_reducible repeat (first | apply Kd.R_alloc | apply Kd.R_drewN | apply Kd.R_drew)); exact HO187.out) (Kd.R_base ho0) hb); have n1_ := Aside0.mk (Kd.R_lower (Kd.R_new' ho0 (Kd.R_lt (by (with_reducible repeat (first | apply Kd.R_alloc | apply Kd.R_drewN | apply Kd.R_drew)); exact HO187.out))) (below_size (by repeat (first | (with_reducible first | exact HB.out | apply below_alloc | apply pw_below_drewN | apply below_drew1) | exact HB.out)))); have n2_ := Aside0.mk (below_step (by repeat (first | (with_reducible first | exact HB.out | apply below_alloc | apply pw_below_drewN | apply below_drew1) | exact HB.out)) hb); clear HO187; clear HB; have HO187 := n0_; have HO192 := n1_; have HB := n2_; clear n0_ n1_ n2_; (try clear hb); (try clear hb2); (try clear hk); (try clear hi); (try clear ho0); obtain ⟨Ao20, co20, eo20⟩ := Kd.R_slice HO187.out; subst eo20))
                go_ret
                exact ⟨by first | rfl | (simp [errW_none, errW_some] <;> rfl) | (simp [*, errW_none, errW_some] <;> rfl), by repeat (first | (with_reducible first | exact HB.out | apply below_alloc | apply pw_below_drewN | apply below_drew1) | exact HB.out)⟩
            · rw [if_neg c9] at H
              have c9b0 : (t189 == 9) = false := beq_eq_false_iff_ne.mpr c9
              have c9b1 : (t189 != 9) = true := bne_iff_ne.mpr c9
              obtain rfl := Option.some.inj H
              go_enter Tryd.func9, Tryd.ntmps9
              go_wp2_with (first | ((with_reducible refine gate_callee (f := 15) rfl ?_); refine goesL_ (some 11) rfl rfl Tryd.func15 (by kernel_rfl) rfl #[.agg #[.string (⟨#[112, 97, 116, 104]⟩ : ByteArray), .string (⟨#[97]⟩ : ByteArray)]] rfl (by (try simp only [List.map_toArray, List.map_cons, List.map_nil]); first | done | rfl | (simp only [List.length_drop, List.length_take]; rfl)) ?_; (with_reducible refine (pax_One.calls (⟨#[112, 97, 116, 104]⟩ : ByteArray) (⟨#[97]⟩ : ByteArray) t181 t182 _ A1.out).mono ?_); rintro e w21 ⟨rfl, hb⟩; refine ⟨_, rfl, ?_⟩; have n0_ := Aside0.mk (below_step (by repeat (first | (with_reducible first | exact HB.out | apply below_alloc | apply pw_below_drewN | apply below_drew1) | exact HB.out)) hb); clear HB; have HB := n0_; clear n0_; (try clear hb); (try clear hb2); (try clear hk); (try clear hi)) | ((with_reducible refine gate_callee (f := 10) rfl ?_); refine goesL_ (some 15) rfl rfl Tryd.func10 (by kernel_rfl) rfl #[.string (⟨#[57, 32, 112, 97, 116, 104, 61, 97, 10, 53, 32, 107, 61, 10]⟩ : ByteArray)] rfl (by (try simp only [List.map_toArray, List.map_cons, List.map_nil]); first | done | rfl | (simp only [List.length_drop, List.length_take]; rfl)) ?_; (with_reducible refine (pax_Get.calls (⟨#[57, 32, 112, 97, 116, 104, 61, 97, 10, 53, 32, 107, 61, 10]⟩ : ByteArray) t183 t184 t185 _ ?side1 A2.out).mono ?_); (case side1 => exact GW.below HG.out (by repeat (first | (with_reducible first | exact HB.out | apply below_alloc | apply pw_below_drewN | apply below_drew1) | exact HB.out))); rintro e w22 ⟨v186, rfl, ho0, hb⟩; refine ⟨_, rfl, ?_⟩; have n0_ := Aside0.mk (Kd.R_lower ho0 (below_size (by repeat (first | (with_reducible first | exact HB.out | apply below_alloc | apply pw_below_drewN | apply below_drew1) | exact HB.out)))); have n1_ := Aside0.mk (below_step (by repeat (first | (with_reducible first | exact HB.out | apply below_alloc | apply pw_below_drewN | apply below_drew1) | exact HB.out)) hb); clear HB; have HO187 := n0_; have HB := n1_; clear n0_ n1_; (try clear hb); (try clear hb2); (try clear hk); (try clear hi); (try clear ho0)) | ((with_reducible refine gate_callee (f := 10) rfl ?_); refine goesL_ (some 20) rfl rfl Tryd.func10 (by kernel_rfl) rfl #[.string (⟨#[57, 32, 112, 97, 116, 104, 61, 97, 10, 54, 32, 107, 61, 10]⟩ : ByteArray)] rfl (by (try simp only [List.map_toArray, List.map_cons, List.map_nil]); first | done | rfl | (simp only [List.length_drop, List.length_take]; rfl)) ?_; (with_reducible refine (pax_Get.calls (⟨#[57, 32, 112, 97, 116, 104, 61, 97, 10, 54, 32, 107, 61, 10]⟩ : ByteArray) t188 t189 t190 _ ?side1 A3.out).mono ?_); (case side1 => exact GW.below HG.out (by repeat (first | (with_reducible first | exact HB.out | apply below_alloc | apply pw_below_drewN | apply below_drew1) | exact HB.out))); rintro e w23 ⟨v191, rfl, ho0, hb⟩; refine ⟨_, rfl, ?_⟩; have n0_ := Aside0.mk (Kd.R_elder' (by (with_reducible repeat (first | apply Kd.R_alloc | apply Kd.R_drewN | apply Kd.R_drew)); exact HO187.out) (Kd.R_base ho0) hb); have n1_ := Aside0.mk (Kd.R_lower (Kd.R_new' ho0 (Kd.R_lt (by (with_reducible repeat (first | apply Kd.R_alloc | apply Kd.R_drewN | apply Kd.R_drew)); exact HO187.out))) (below_size (by repeat (first | (with_reducible first | exact HB.out | apply below_alloc | apply pw_below_drewN | apply below_drew1) | exact HB.out)))); have n2_ := Aside0.mk (below_step (by repeat (first | (with_reducible first | exact HB.out | apply below_alloc | apply pw_below_drewN | apply below_drew1) | exact HB.out)) hb); clear HO187; clear HB; have HO187 := n0_; have HO192 := n1_; have HB := n2_; clear n0_ n1_ n2_; (try clear hb); (try clear hb2); (try clear hk); (try clear hi); (try clear ho0); obtain ⟨Ao24, co24, eo24⟩ := Kd.R_slice HO187.out; subst eo24))
              go_ret
              exact ⟨by first | rfl | (simp [errW_none, errW_some] <;> rfl) | (simp [*, errW_none, errW_some] <;> rfl), by repeat (first | (with_reducible first | exact HB.out | apply below_alloc | apply pw_below_drewN | apply below_drew1) | exact HB.out)⟩
          · rw [if_neg c8] at H
            have c8b0 : (t185 == 0) = false := beq_eq_false_iff_ne.mpr c8
            have c8b1 : (t185 != 0) = true := bne_iff_ne.mpr c8
            obtain rfl := Option.some.inj H
            go_enter Tryd.func9, Tryd.ntmps9
            go_wp2_with (first | ((with_reducible refine gate_callee (f := 15) rfl ?_); refine goesL_ (some 11) rfl rfl Tryd.func15 (by kernel_rfl) rfl #[.agg #[.string (⟨#[112, 97, 116, 104]⟩ : ByteArray), .string (⟨#[97]⟩ : ByteArray)]] rfl (by (try simp only [List.map_toArray, List.map_cons, List.map_nil]); first | done | rfl | (simp only [List.length_drop, List.length_take]; rfl)) ?_; (with_reducible refine (pax_One.calls (⟨#[112, 97, 116, 104]⟩ : ByteArray) (⟨#[97]⟩ : ByteArray) t181 t182 _ A1.out).mono ?_); rintro e w25 ⟨rfl, hb⟩; refine ⟨_, rfl, ?_⟩; have n0_ := Aside0.mk (below_step (by repeat (first | (with_reducible first | exact HB.out | apply below_alloc | apply pw_below_drewN | apply below_drew1) | exact HB.out)) hb); clear HB; have HB := n0_; clear n0_; (try clear hb); (try clear hb2); (try clear hk); (try clear hi)) | ((with_reducible refine gate_callee (f := 10) rfl ?_); refine goesL_ (some 15) rfl rfl Tryd.func10 (by kernel_rfl) rfl #[.string (⟨#[57, 32, 112, 97, 116, 104, 61, 97, 10, 53, 32, 107, 61, 10]⟩ : ByteArray)] rfl (by (try simp only [List.map_toArray, List.map_cons, List.map_nil]); first | done | rfl | (simp only [List.length_drop, List.length_take]; rfl)) ?_; (with_reducible refine (pax_Get.calls (⟨#[57, 32, 112, 97, 116, 104, 61, 97, 10, 53, 32, 107, 61, 10]⟩ : ByteArray) t183 t184 t185 _ ?side1 A2.out).mono ?_); (case side1 => exact GW.below HG.out (by repeat (first | (with_reducible first | exact HB.out | apply below_alloc | apply pw_below_drewN | apply below_drew1) | exact HB.out))); rintro e w26 ⟨v186, rfl, ho0, hb⟩; refine ⟨_, rfl, ?_⟩; have n0_ := Aside0.mk (Kd.R_lower ho0 (below_size (by repeat (first | (with_reducible first | exact HB.out | apply below_alloc | apply pw_below_drewN | apply below_drew1) | exact HB.out)))); have n1_ := Aside0.mk (below_step (by repeat (first | (with_reducible first | exact HB.out | apply below_alloc | apply pw_below_drewN | apply below_drew1) | exact HB.out)) hb); clear HB; have HO187 := n0_; have HB := n1_; clear n0_ n1_; (try clear hb); (try clear hb2); (try clear hk); (try clear hi); (try clear ho0)) | ((with_reducible refine gate_callee (f := 10) rfl ?_); refine goesL_ (some 20) rfl rfl Tryd.func10 (by kernel_rfl) rfl #[.string (⟨#[57, 32, 112, 97, 116, 104, 61, 97, 10, 54, 32, 107, 61, 10]⟩ : ByteArray)] rfl (by (try simp only [List.map_toArray, List.map_cons, List.map_nil]); first | done | rfl | (simp only [List.length_drop, List.length_take]; rfl)) ?_; (with_reducible refine (pax_Get.calls (⟨#[57, 32, 112, 97, 116, 104, 61, 97, 10, 54, 32, 107, 61, 10]⟩ : ByteArray) t188 t189 t190 _ ?side1 A3.out).mono ?_); (case side1 => exact GW.below HG.out (by repeat (first | (with_reducible first | exact HB.out | apply below_alloc | apply pw_below_drewN | apply below_drew1) | exact HB.out))); rintro e w27 ⟨v191, rfl, ho0, hb⟩; refine ⟨_, rfl, ?_⟩; have n0_ := Aside0.mk (Kd.R_elder' (by (with_reducible repeat (first | apply Kd.R_alloc | apply Kd.R_drewN | apply Kd.R_drew)); exact HO187.out) (Kd.R_base ho0) hb); have n1_ := Aside0.mk (Kd.R_lower (Kd.R_new' ho0 (Kd.R_lt (by (with_reducible repeat (first | apply Kd.R_alloc | apply Kd.R_drewN | apply Kd.R_drew)); exact HO187.out))) (below_size (by repeat (first | (with_reducible first | exact HB.out | apply below_alloc | apply pw_below_drewN | apply below_drew1) | exact HB.out)))); have n2_ := Aside0.mk (below_step (by repeat (first | (with_reducible first | exact HB.out | apply below_alloc | apply pw_below_drewN | apply below_drew1) | exact HB.out)) hb); clear HO187; clear HB; have HO187 := n0_; have HO192 := n1_; have HB := n2_; clear n0_ n1_ n2_; (try clear hb); (try clear hb2); (try clear hk); (try clear hi); (try clear ho0); obtain ⟨Ao28, co28, eo28⟩ := Kd.R_slice HO187.out; subst eo28))
            go_ret
            exact ⟨by first | rfl | (simp [errW_none, errW_some] <;> rfl) | (simp [*, errW_none, errW_some] <;> rfl), by repeat (first | (with_reducible first | exact HB.out | apply below_alloc | apply pw_below_drewN | apply below_drew1) | exact HB.out)⟩
        · rw [if_neg c7] at H
          have c7b0 : (t184 == 0) = false := beq_eq_false_iff_ne.mpr c7
          have c7b1 : (t184 != 0) = true := bne_iff_ne.mpr c7
          obtain rfl := Option.some.inj H
          go_enter Tryd.func9, Tryd.ntmps9
          go_wp2_with (first | ((with_reducible refine gate_callee (f := 15) rfl ?_); refine goesL_ (some 11) rfl rfl Tryd.func15 (by kernel_rfl) rfl #[.agg #[.string (⟨#[112, 97, 116, 104]⟩ : ByteArray), .string (⟨#[97]⟩ : ByteArray)]] rfl (by (try simp only [List.map_toArray, List.map_cons, List.map_nil]); first | done | rfl | (simp only [List.length_drop, List.length_take]; rfl)) ?_; (with_reducible refine (pax_One.calls (⟨#[112, 97, 116, 104]⟩ : ByteArray) (⟨#[97]⟩ : ByteArray) t181 t182 _ A1.out).mono ?_); rintro e w29 ⟨rfl, hb⟩; refine ⟨_, rfl, ?_⟩; have n0_ := Aside0.mk (below_step (by repeat (first | (with_reducible first | exact HB.out | apply below_alloc | apply pw_below_drewN | apply below_drew1) | exact HB.out)) hb); clear HB; have HB := n0_; clear n0_; (try clear hb); (try clear hb2); (try clear hk); (try clear hi)) | ((with_reducible refine gate_callee (f := 10) rfl ?_); refine goesL_ (some 15) rfl rfl Tryd.func10 (by kernel_rfl) rfl #[.string (⟨#[57, 32, 112, 97, 116, 104, 61, 97, 10, 53, 32, 107, 61, 10]⟩ : ByteArray)] rfl (by (try simp only [List.map_toArray, List.map_cons, List.map_nil]); first | done | rfl | (simp only [List.length_drop, List.length_take]; rfl)) ?_; (with_reducible refine (pax_Get.calls (⟨#[57, 32, 112, 97, 116, 104, 61, 97, 10, 53, 32, 107, 61, 10]⟩ : ByteArray) t183 t184 t185 _ ?side1 A2.out).mono ?_); (case side1 => exact GW.below HG.out (by repeat (first | (with_reducible first | exact HB.out | apply below_alloc | apply pw_below_drewN | apply below_drew1) | exact HB.out))); rintro e w30 ⟨v186, rfl, ho0, hb⟩; refine ⟨_, rfl, ?_⟩; have n0_ := Aside0.mk (Kd.R_lower ho0 (below_size (by repeat (first | (with_reducible first | exact HB.out | apply below_alloc | apply pw_below_drewN | apply below_drew1) | exact HB.out)))); have n1_ := Aside0.mk (below_step (by repeat (first | (with_reducible first | exact HB.out | apply below_alloc | apply pw_below_drewN | apply below_drew1) | exact HB.out)) hb); clear HB; have HO187 := n0_; have HB := n1_; clear n0_ n1_; (try clear hb); (try clear hb2); (try clear hk); (try clear hi); (try clear ho0)) | ((with_reducible refine gate_callee (f := 10) rfl ?_); refine goesL_ (some 20) rfl rfl Tryd.func10 (by kernel_rfl) rfl #[.string (⟨#[57, 32, 112, 97, 116, 104, 61, 97, 10, 54, 32, 107, 61, 10]⟩ : ByteArray)] rfl (by (try simp only [List.map_toArray, List.map_cons, List.map_nil]); first | done | rfl | (simp only [List.length_drop, List.length_take]; rfl)) ?_; (with_reducible refine (pax_Get.calls (⟨#[57, 32, 112, 97, 116, 104, 61, 97, 10, 54, 32, 107, 61, 10]⟩ : ByteArray) t188 t189 t190 _ ?side1 A3.out).mono ?_); (case side1 => exact GW.below HG.out (by repeat (first | (with_reducible first | exact HB.out | apply below_alloc | apply pw_below_drewN | apply below_drew1) | exact HB.out))); rintro e w31 ⟨v191, rfl, ho0, hb⟩; refine ⟨_, rfl, ?_⟩; have n0_ := Aside0.mk (Kd.R_elder' (by (with_reducible repeat (first | apply Kd.R_alloc | apply Kd.R_drewN | apply Kd.R_drew)); exact HO187.out) (Kd.R_base ho0) hb); have n1_ := Aside0.mk (Kd.R_lower (Kd.R_new' ho0 (Kd.R_lt (by (with_reducible repeat (first | apply Kd.R_alloc | apply Kd.R_drewN | apply Kd.R_drew)); exact HO187.out))) (below_size (by repeat (first | (with_reducible first | exact HB.out | apply below_alloc | apply pw_below_drewN | apply below_drew1) | exact HB.out)))); have n2_ := Aside0.mk (below_step (by repeat (first | (with_reducible first | exact HB.out | apply below_alloc | apply pw_below_drewN | apply below_drew1) | exact HB.out)) hb); clear HO187; clear HB; have HO187 := n0_; have HO192 := n1_; have HB := n2_; clear n0_ n1_ n2_; (try clear hb); (try clear hb2); (try clear hk); (try clear hi); (try clear ho0); obtain ⟨Ao32, co32, eo32⟩ := Kd.R_slice HO187.out; subst eo32))
          go_ret
          exact ⟨by first | rfl | (simp [errW_none, errW_some] <;> rfl) | (simp [*, errW_none, errW_some] <;> rfl), by repeat (first | (with_reducible first | exact HB.out | apply below_alloc | apply pw_below_drewN | apply below_drew1) | exact HB.out)⟩
      · rw [if_neg c6] at H
        have c6b0 : ((t183.length : Int) == 2) = false := beq_eq_false_iff_ne.mpr c6
        have c6b1 : ((t183.length : Int) != 2) = true := bne_iff_ne.mpr c6
        obtain rfl := Option.some.inj H
        go_enter Tryd.func9, Tryd.ntmps9
        go_wp2_with (first | ((with_reducible refine gate_callee (f := 15) rfl ?_); refine goesL_ (some 11) rfl rfl Tryd.func15 (by kernel_rfl) rfl #[.agg #[.string (⟨#[112, 97, 116, 104]⟩ : ByteArray), .string (⟨#[97]⟩ : ByteArray)]] rfl (by (try simp only [List.map_toArray, List.map_cons, List.map_nil]); first | done | rfl | (simp only [List.length_drop, List.length_take]; rfl)) ?_; (with_reducible refine (pax_One.calls (⟨#[112, 97, 116, 104]⟩ : ByteArray) (⟨#[97]⟩ : ByteArray) t181 t182 _ A1.out).mono ?_); rintro e w33 ⟨rfl, hb⟩; refine ⟨_, rfl, ?_⟩; have n0_ := Aside0.mk (below_step (by repeat (first | (with_reducible first | exact HB.out | apply below_alloc | apply pw_below_drewN | apply below_drew1) | exact HB.out)) hb); clear HB; have HB := n0_; clear n0_; (try clear hb); (try clear hb2); (try clear hk); (try clear hi)) | ((with_reducible refine gate_callee (f := 10) rfl ?_); refine goesL_ (some 15) rfl rfl Tryd.func10 (by kernel_rfl) rfl #[.string (⟨#[57, 32, 112, 97, 116, 104, 61, 97, 10, 53, 32, 107, 61, 10]⟩ : ByteArray)] rfl (by (try simp only [List.map_toArray, List.map_cons, List.map_nil]); first | done | rfl | (simp only [List.length_drop, List.length_take]; rfl)) ?_; (with_reducible refine (pax_Get.calls (⟨#[57, 32, 112, 97, 116, 104, 61, 97, 10, 53, 32, 107, 61, 10]⟩ : ByteArray) t183 t184 t185 _ ?side1 A2.out).mono ?_); (case side1 => exact GW.below HG.out (by repeat (first | (with_reducible first | exact HB.out | apply below_alloc | apply pw_below_drewN | apply below_drew1) | exact HB.out))); rintro e w34 ⟨v186, rfl, ho0, hb⟩; refine ⟨_, rfl, ?_⟩; have n0_ := Aside0.mk (Kd.R_lower ho0 (below_size (by repeat (first | (with_reducible first | exact HB.out | apply below_alloc | apply pw_below_drewN | apply below_drew1) | exact HB.out)))); have n1_ := Aside0.mk (below_step (by repeat (first | (with_reducible first | exact HB.out | apply below_alloc | apply pw_below_drewN | apply below_drew1) | exact HB.out)) hb); clear HB; have HO187 := n0_; have HB := n1_; clear n0_ n1_; (try clear hb); (try clear hb2); (try clear hk); (try clear hi); (try clear ho0)) | ((with_reducible refine gate_callee (f := 10) rfl ?_); refine goesL_ (some 20) rfl rfl Tryd.func10 (by kernel_rfl) rfl #[.string (⟨#[57, 32, 112, 97, 116, 104, 61, 97, 10, 54, 32, 107, 61, 10]⟩ : ByteArray)] rfl (by (try simp only [List.map_toArray, List.map_cons, List.map_nil]); first | done | rfl | (simp only [List.length_drop, List.length_take]; rfl)) ?_; (with_reducible refine (pax_Get.calls (⟨#[57, 32, 112, 97, 116, 104, 61, 97, 10, 54, 32, 107, 61, 10]⟩ : ByteArray) t188 t189 t190 _ ?side1 A3.out).mono ?_); (case side1 => exact GW.below HG.out (by repeat (first | (with_reducible first | exact HB.out | apply below_alloc | apply pw_below_drewN | apply below_drew1) | exact HB.out))); rintro e w35 ⟨v191, rfl, ho0, hb⟩; refine ⟨_, rfl, ?_⟩; have n0_ := Aside0.mk (Kd.R_elder' (by (with_reducible repeat (first | apply Kd.R_alloc | apply Kd.R_drewN | apply Kd.R_drew)); exact HO187.out) (Kd.R_base ho0) hb); have n1_ := Aside0.mk (Kd.R_lower (Kd.R_new' ho0 (Kd.R_lt (by (with_reducible repeat (first | apply Kd.R_alloc | apply Kd.R_drewN | apply Kd.R_drew)); exact HO187.out))) (below_size (by repeat (first | (with_reducible first | exact HB.out | apply below_alloc | apply pw_below_drewN | apply below_drew1) | exact HB.out)))); have n2_ := Aside0.mk (below_step (by repeat (first | (with_reducible first | exact HB.out | apply below_alloc | apply pw_below_drewN | apply below_drew1) | exact HB.out)) hb); clear HO187; clear HB; have HO187 := n0_; have HO192 := n1_; have HB := n2_; clear n0_ n1_ n2_; (try clear hb); (try clear hb2); (try clear hk); (try clear hi); (try clear ho0); obtain ⟨Ao36, co36, eo36⟩ := Kd.R_slice HO187.out; subst eo36))
        go_ret
        exact ⟨by first | rfl | (simp [errW_none, errW_some] <;> rfl) | (simp [*, errW_none, errW_some] <;> rfl), by repeat (first | (with_reducible first | exact HB.out | apply below_alloc | apply pw_below_drewN | apply below_drew1) | exact HB.out)⟩
    · rw [if_neg c5] at H
      have c5b0 : (t182 == 0) = false := beq_eq_false_iff_ne.mpr c5
      have c5b1 : (t182 != 0) = true := bne_iff_ne.mpr c5
      obtain rfl := Option.some.inj H
      go_enter Tryd.func9, Tryd.ntmps9
      go_wp2_with (first | ((with_reducible refine gate_callee (f := 15) rfl ?_); refine goesL_ (some 11) rfl rfl Tryd.func15 (by kernel_rfl) rfl #[.agg #[.string (⟨#[112, 97, 116, 104]⟩ : ByteArray), .string (⟨#[97]⟩ : ByteArray)]] rfl (by (try simp only [List.map_toArray, List.map_cons, List.map_nil]); first | done | rfl | (simp only [List.length_drop, List.length_take]; rfl)) ?_; (with_reducible refine (pax_One.calls (⟨#[112, 97, 116, 104]⟩ : ByteArray) (⟨#[97]⟩ : ByteArray) t181 t182 _ A1.out).mono ?_); rintro e w37 ⟨rfl, hb⟩; refine ⟨_, rfl, ?_⟩; have n0_ := Aside0.mk (below_step (by repeat (first | (with_reducible first | exact HB.out | apply below_alloc | apply pw_below_drewN | apply below_drew1) | exact HB.out)) hb); clear HB; have HB := n0_; clear n0_; (try clear hb); (try clear hb2); (try clear hk); (try clear hi)) | ((with_reducible refine gate_callee (f := 10) rfl ?_); refine goesL_ (some 15) rfl rfl Tryd.func10 (by kernel_rfl) rfl #[.string (⟨#[57, 32, 112, 97, 116, 104, 61, 97, 10, 53, 32, 107, 61, 10]⟩ : ByteArray)] rfl (by (try simp only [List.map_toArray, List.map_cons, List.map_nil]); first | done | rfl | (simp only [List.length_drop, List.length_take]; rfl)) ?_; (with_reducible refine (pax_Get.calls (⟨#[57, 32, 112, 97, 116, 104, 61, 97, 10, 53, 32, 107, 61, 10]⟩ : ByteArray) t183 t184 t185 _ ?side1 A2.out).mono ?_); (case side1 => exact GW.below HG.out (by repeat (first | (with_reducible first | exact HB.out | apply below_alloc | apply pw_below_drewN | apply below_drew1) | exact HB.out))); rintro e w38 ⟨v186, rfl, ho0, hb⟩; refine ⟨_, rfl, ?_⟩; have n0_ := Aside0.mk (Kd.R_lower ho0 (below_size (by repeat (first | (with_reducible first | exact HB.out | apply below_alloc | apply pw_below_drewN | apply below_drew1) | exact HB.out)))); have n1_ := Aside0.mk (below_step (by repeat (first | (with_reducible first | exact HB.out | apply below_alloc | apply pw_below_drewN | apply below_drew1) | exact HB.out)) hb); clear HB; have HO187 := n0_; have HB := n1_; clear n0_ n1_; (try clear hb); (try clear hb2); (try clear hk); (try clear hi); (try clear ho0)) | ((with_reducible refine gate_callee (f := 10) rfl ?_); refine goesL_ (some 20) rfl rfl Tryd.func10 (by kernel_rfl) rfl #[.string (⟨#[57, 32, 112, 97, 116, 104, 61, 97, 10, 54, 32, 107, 61, 10]⟩ : ByteArray)] rfl (by (try simp only [List.map_toArray, List.map_cons, List.map_nil]); first | done | rfl | (simp only [List.length_drop, List.length_take]; rfl)) ?_; (with_reducible refine (pax_Get.calls (⟨#[57, 32, 112, 97, 116, 104, 61, 97, 10, 54, 32, 107, 61, 10]⟩ : ByteArray) t188 t189 t190 _ ?side1 A3.out).mono ?_); (case side1 => exact GW.below HG.out (by repeat (first | (with_reducible first | exact HB.out | apply below_alloc | apply pw_below_drewN | apply below_drew1) | exact HB.out))); rintro e w39 ⟨v191, rfl, ho0, hb⟩; refine ⟨_, rfl, ?_⟩; have n0_ := Aside0.mk (Kd.R_elder' (by (with_reducible repeat (first | apply Kd.R_alloc | apply Kd.R_drewN | apply Kd.R_drew)); exact HO187.out) (Kd.R_base ho0) hb); have n1_ := Aside0.mk (Kd.R_lower (Kd.R_new' ho0 (Kd.R_lt (by (with_reducible repeat (first | apply Kd.R_alloc | apply Kd.R_drewN | apply Kd.R_drew)); exact HO187.out))) (below_size (by repeat (first | (with_reducible first | exact HB.out | apply below_alloc | apply pw_below_drewN | apply below_drew1) | exact HB.out)))); have n2_ := Aside0.mk (below_step (by repeat (first | (with_reducible first | exact HB.out | apply below_alloc | apply pw_below_drewN | apply below_drew1) | exact HB.out)) hb); clear HO187; clear HB; have HO187 := n0_; have HO192 := n1_; have HB := n2_; clear n0_ n1_ n2_; (try clear hb); (try clear hb2); (try clear hk); (try clear hi); (try clear ho0)))
      go_ret
      exact ⟨by first | rfl | (simp [errW_none, errW_some] <;> rfl) | (simp [*, errW_none, errW_some] <;> rfl), by repeat (first | (with_reducible first | exact HB.out | apply below_alloc | apply pw_below_drewN | apply below_drew1) | exact HB.out)⟩
  · rw [if_neg c4] at H
    have c4b0 : (t181.toList == ([57, 32, 112, 97, 116, 104, 61, 97, 10] : List UInt8)) = false := beq_eq_false_iff_ne.mpr c4
    have c4b1 : (t181.toList != ([57, 32, 112, 97, 116, 104, 61, 97, 10] : List UInt8)) = true := bne_iff_ne.mpr c4
    obtain rfl := Option.some.inj H
    go_enter Tryd.func9, Tryd.ntmps9
    go_wp2_with (first | ((with_reducible refine gate_callee (f := 15) rfl ?_); refine goesL_ (some 11) rfl rfl Tryd.func15 (by kernel_rfl) rfl #[.agg #[.string (⟨#[112, 97, 116, 104]⟩ : ByteArray), .string (⟨#[97]⟩ : ByteArray)]] rfl (by (try simp only [List.map_toArray, List.map_cons, List.map_nil]); first | done | rfl | (simp only [List.length_drop, List.length_take]; rfl)) ?_; (with_reducible refine (pax_One.calls (⟨#[112, 97, 116, 104]⟩ : ByteArray) (⟨#[97]⟩ : ByteArray) t181 t182 _ A1.out).mono ?_); rintro e w40 ⟨rfl, hb⟩; refine ⟨_, rfl, ?_⟩; have n0_ := Aside0.mk (below_step (by repeat (first | (with_reducible first | exact HB.out | apply below_alloc | apply pw_below_drewN | apply below_drew1) | exact HB.out)) hb); clear HB; have HB := n0_; clear n0_; (try clear hb); (try clear hb2); (try clear hk); (try clear hi)) | ((with_reducible refine gate_callee (f := 10) rfl ?_); refine goesL_ (some 15) rfl rfl Tryd.func10 (by kernel_rfl) rfl #[.string (⟨#[57, 32, 112, 97, 116, 104, 61, 97, 10, 53, 32, 107, 61, 10]⟩ : ByteArray)] rfl (by (try simp only [List.map_toArray, List.map_cons, List.map_nil]); first | done | rfl | (simp only [List.length_drop, List.length_take]; rfl)) ?_; (with_reducible refine (pax_Get.calls (⟨#[57, 32, 112, 97, 116, 104, 61, 97, 10, 53, 32, 107, 61, 10]⟩ : ByteArray) t183 t184 t185 _ ?side1 A2.out).mono ?_); (case side1 => exact GW.below HG.out (by repeat (first | (with_reducible first | exact HB.out | apply below_alloc | apply pw_below_drewN | apply below_drew1) | exact HB.out))); rintro e w41 ⟨v186, rfl, ho0, hb⟩; refine ⟨_, rfl, ?_⟩; have n0_ := Aside0.mk (Kd.R_lower ho0 (below_size (by repeat (first | (with_reducible first | exact HB.out | apply below_alloc | apply pw_below_drewN | apply below_drew1) | exact HB.out)))); have n1_ := Aside0.mk (below_step (by repeat (first | (with_reducible first | exact HB.out | apply below_alloc | apply pw_below_drewN | apply below_drew1) | exact HB.out)) hb); clear HB; have HO187 := n0_; have HB := n1_; clear n0_ n1_; (try clear hb); (try clear hb2); (try clear hk); (try clear hi); (try clear ho0)) | ((with_reducible refine gate_callee (f := 10) rfl ?_); refine goesL_ (some 20) rfl rfl Tryd.func10 (by kernel_rfl) rfl #[.string (⟨#[57, 32, 112, 97, 116, 104, 61, 97, 10, 54, 32, 107, 61, 10]⟩ : ByteArray)] rfl (by (try simp only [List.map_toArray, List.map_cons, List.map_nil]); first | done | rfl | (simp only [List.length_drop, List.length_take]; rfl)) ?_; (with_reducible refine (pax_Get.calls (⟨#[57, 32, 112, 97, 116, 104, 61, 97, 10, 54, 32, 107, 61, 10]⟩ : ByteArray) t188 t189 t190 _ ?side1 A3.out).mono ?_); (case side1 => exact GW.below HG.out (by repeat (first | (with_reducible first | exact HB.out | apply below_alloc | apply pw_below_drewN | apply below_drew1) | exact HB.out))); rintro e w42 ⟨v191, rfl, ho0, hb⟩; refine ⟨_, rfl, ?_⟩; have n0_ := Aside0.mk (Kd.R_elder' (by (with_reducible repeat (first | apply Kd.R_alloc | apply Kd.R_drewN | apply Kd.R_drew)); exact HO187.out) (Kd.R_base ho0) hb); have n1_ := Aside0.mk (Kd.R_lower (Kd.R_new' ho0 (Kd.R_lt (by (with_reducible repeat (first | apply Kd.R_alloc | apply Kd.R_drewN | apply Kd.R_drew)); exact HO187.out))) (below_size (by repeat (first | (with_reducible first | exact HB.out | apply below_alloc | apply pw_below_drewN | apply below_drew1) | exact HB.out)))); have n2_ := Aside0.mk (below_step (by repeat (first | (with_reducible first | exact HB.out | apply below_alloc | apply pw_below_drewN | apply below_drew1) | exact HB.out)) hb); clear HO187; clear HB; have HO187 := n0_; have HO192 := n1_; have HB := n2_; clear n0_ n1_ n2_; (try clear hb); (try clear hb2); (try clear hk); (try clear hi); (try clear ho0)))
    go_ret
    exact ⟨by first | rfl | (simp [errW_none, errW_some] <;> rfl) | (simp [*, errW_none, errW_some] <;> rfl), by repeat (first | (with_reducible first | exact HB.out | apply below_alloc | apply pw_below_drewN | apply below_drew1) | exact HB.out)⟩

end Go.Proofs.YtbcjhmeeonhmaaaDoor.M
end

/-
The law's examples.
-/
section
set_option linter.unusedVariables false
set_option maxRecDepth 100000
namespace Go.Proofs.YtbcjhmeeonhmaaaDoor.H
open Go Go.RowKit Go.Proofs.YtbcjhmeeonhmaaaDoorW.PrintWords Go.Proofs.YtbcjhmeeonhmaaaDoorW.PrintMore Go.Proofs.YtbcjhmeeonhmaaaDoor.M

/-- Digits by rounds: what the kernel can reckon. -/
def dgcF : Nat → Nat → Nat → List Int
  | 0, b, n => [chr (n % b)]
  | k + 1, b, n => if n / b = 0 ∨ b < 2 then [chr (n % b)] else chr (n % b) :: dgcF k b (n / b)
theorem dgcF_eq (b : Nat) : ∀ (k n : Nat), n ≤ k → dgc b n = dgcF k b n
  | 0, n, h => by
    obtain rfl : n = 0 := by omega
    rw [dgc_stop (by simp)]; rfl
  | k + 1, n, h => by
    unfold dgcF
    by_cases hc : n / b = 0 ∨ b < 2
    · rw [if_pos hc]
      rw [dgc, dif_pos hc]
    · rw [if_neg hc, dgc_more (by omega) (by omega)]
      rw [dgcF_eq b k (n / b) (by have := Nat.div_lt_self (n := n) (k := b) (by rcases Nat.eq_zero_or_pos n with h0 | h0; (subst h0; simp at hc); exact h0) (by omega); omega)]
def putF (b n : Nat) : ByteArray := strOfNums (dgcF n b n).reverse
theorem putS_eq : putS = putF := by
  funext b n
  unfold putS putF
  rw [dgcF_eq b n n (Nat.le_refl _)]
theorem sh1 : oneS ⟨#[112, 97, 116, 104]⟩ ⟨#[97]⟩ = (⟨#[57, 32, 112, 97, 116, 104, 61, 97, 10]⟩, 0) := by
  simp only [oneS, szL, dgl, putS_eq]; decide +kernel
theorem sh2 : oneS ⟨#[107]⟩ ⟨#[]⟩ = (⟨#[53, 32, 107, 61, 10]⟩, 0) := by
  simp only [oneS, szL, dgl, putS_eq]; decide +kernel
theorem sh3 : firstS ⟨#[57, 32, 112, 97, 116, 104, 61, 97, 10, 53, 32, 107, 61, 10]⟩ = some (⟨#[112, 97, 116, 104]⟩, ⟨#[97]⟩, 9) := by
  simp only [firstS, ownC, oneS, szL, dgl, putS_eq]; decide +kernel
theorem sh4 : firstS ⟨#[53, 32, 107, 61, 10]⟩ = some (⟨#[107]⟩, ⟨#[]⟩, 5) := by
  simp only [firstS, ownC, oneS, szL, dgl, putS_eq]; decide +kernel
theorem sh5 : firstS ⟨#[57, 32, 112, 97, 116, 104, 61, 97, 10, 54, 32, 107, 61, 10]⟩ = some (⟨#[112, 97, 116, 104]⟩, ⟨#[97]⟩, 9) := by
  simp only [firstS, ownC, oneS, szL, dgl, putS_eq]; decide +kernel
theorem sh6 : firstS ⟨#[54, 32, 107, 61, 10]⟩ = none := by
  simp only [firstS, ownC, oneS, szL, dgl, putS_eq]; decide +kernel
theorem sg1 : getsS ⟨#[57, 32, 112, 97, 116, 104, 61, 97, 10, 53, 32, 107, 61, 10]⟩ = ([⟨⟨#[112, 97, 116, 104]⟩, ⟨#[97]⟩⟩, ⟨⟨#[107]⟩, ⟨#[]⟩⟩], 0, 0) := by
  have r1 := Rec.snoc (.nil ⟨#[57, 32, 112, 97, 116, 104, 61, 97, 10, 53, 32, 107, 61, 10]⟩) (by decide) sh3 ⟨by decide, by simp⟩
  have e1 : (⟨#[57, 32, 112, 97, 116, 104, 61, 97, 10, 53, 32, 107, 61, 10]⟩ : ByteArray).extract 9 (⟨#[57, 32, 112, 97, 116, 104, 61, 97, 10, 53, 32, 107, 61, 10]⟩ : ByteArray).size = ⟨#[53, 32, 107, 61, 10]⟩ := by decide
  rw [e1] at r1
  have r2 := Rec.snoc r1 (by decide) sh4 ⟨by decide, by decide⟩
  have e2 : (⟨#[53, 32, 107, 61, 10]⟩ : ByteArray).extract 5 (⟨#[53, 32, 107, 61, 10]⟩ : ByteArray).size = ⟨#[]⟩ := by decide
  rw [e2] at r2
  exact getsS_done r2 rfl
theorem sg2 : getsS ⟨#[57, 32, 112, 97, 116, 104, 61, 97, 10, 54, 32, 107, 61, 10]⟩ = ([], 9, 90) := by
  have r1 := Rec.snoc (.nil ⟨#[57, 32, 112, 97, 116, 104, 61, 97, 10, 54, 32, 107, 61, 10]⟩) (by decide) sh5 ⟨by decide, by simp⟩
  have e1 : (⟨#[57, 32, 112, 97, 116, 104, 61, 97, 10, 54, 32, 107, 61, 10]⟩ : ByteArray).extract 9 (⟨#[57, 32, 112, 97, 116, 104, 61, 97, 10, 54, 32, 107, 61, 10]⟩ : ByteArray).size = ⟨#[54, 32, 107, 61, 10]⟩ := by decide
  rw [e1] at r1
  exact getsS_bad r1 ⟨by decide, .inl sh6⟩
theorem size_f (n v : ByteArray) : pax_Size.f n v = some ((oneS n v).1.size : Int) := by
  unfold pax_Size.f pax_One.f; rfl
theorem shown_f : pleacherlaw09_shown.f = some true := by
  unfold pleacherlaw09_shown.f pax_One.f pax_Get.f
  rw [if_pos (by decide), if_pos (by decide), sh1, sg1, sg2]
  simp only [Option.bind_some, size_f, sh2, toList_data]
  decide
end Go.Proofs.YtbcjhmeeonhmaaaDoor.H
end

-- Laid by a program of this session for this claim.
section
namespace Go.Proofs.YtbcjhmeeonhmaaaDoor.M
open Go.RowKit Go.Proofs.YtbcjhmeeonhmaaaDoorW.PrintWords Go.Proofs.YtbcjhmeeonhmaaaDoorW.PrintLast Go.Proofs.YtbcjhmeeonhmaaaDoorW.PrintMore
attribute [local go_sem] max2_int min2_int max_two min_two max_three min_three max_four min_four   -- for this text's walks alone
set_option linter.unusedVariables false
set_option linter.unusedSimpArgs false

/-! ### pleacherlaw09_one: function 27 -/
end Go.Proofs.YtbcjhmeeonhmaaaDoor.M
end

-- Laid by a program of this session for this claim.
section
namespace Go.Proofs.YtbcjhmeeonhmaaaDoor.M
open Go.RowKit Go.Proofs.YtbcjhmeeonhmaaaDoorW.PrintWords Go.Proofs.YtbcjhmeeonhmaaaDoorW.PrintLast Go.Proofs.YtbcjhmeeonhmaaaDoorW.PrintMore
attribute [local go_sem] max2_int min2_int max_two min_two max_three min_three max_four min_four   -- for this text's walks alone
set_option linter.unusedVariables false
set_option linter.unusedSimpArgs false

/-! ### pleacherlaw09_Few: function 16 -/
end Go.Proofs.YtbcjhmeeonhmaaaDoor.M
end

-- Laid by a program of this session for this claim.
section
namespace Go.Proofs.YtbcjhmeeonhmaaaDoor.M
open Go.RowKit Go.Proofs.YtbcjhmeeonhmaaaDoorW.PrintWords Go.Proofs.YtbcjhmeeonhmaaaDoorW.PrintLast Go.Proofs.YtbcjhmeeonhmaaaDoorW.PrintMore
attribute [local go_sem] max2_int min2_int max_two min_two max_three min_three max_four min_four   -- for this text's walks alone
set_option linter.unusedVariables false
set_option linter.unusedSimpArgs false

/-! ### pleacherref09_One: function 19 -/
-- IMPORT Derived.Test.YtbcjhmeeonhmaaaDoorHOneW
def pleacherref09_One.f (a0_0 : ByteArray) (a0_1 : ByteArray) : Option (ByteArray × Int) := if a0_0.size ≤ 1073741824 ∧ a0_1.size ≤ 1073741824 then some (H.oneS a0_0 a0_1) else none
theorem pleacherref09_One.calls (a0_0 : ByteArray) (a0_1 : ByteArray) (r1 : ByteArray) (r2 : Int) (w : World) (h : pleacherref09_One.f a0_0 a0_1 = some (r1, r2)) :
    Calls Tryd.prog 19 #[.agg #[.string a0_0, .string a0_1]] w fun e w' => e = .returned (.tuple #[.string r1, .int .i64 r2]) ∧ Below w.heap.size w w' := by
  unfold pleacherref09_One.f at h
  by_cases hh : a0_0.size ≤ 1073741824 ∧ a0_1.size ≤ 1073741824
  · rw [if_pos hh] at h
    have := H.refOne a0_0 a0_1 hh.1 hh.2 w
    rw [Option.some.inj h] at this
    exact this
  · rw [if_neg hh] at h; cases h

end Go.Proofs.YtbcjhmeeonhmaaaDoor.M
end

-- Laid by a program of this session for this claim.
section
namespace Go.Proofs.YtbcjhmeeonhmaaaDoor.M
open Go.RowKit Go.Proofs.YtbcjhmeeonhmaaaDoorW.PrintWords Go.Proofs.YtbcjhmeeonhmaaaDoorW.PrintLast Go.Proofs.YtbcjhmeeonhmaaaDoorW.PrintMore
attribute [local go_sem] max2_int min2_int max_two min_two max_three min_three max_four min_four   -- for this text's walks alone
set_option linter.unusedVariables false
set_option linter.unusedSimpArgs false

/-! ### pleacherref09_Find: function 21 -/
def pleacherref09_Find.l0 : Nat → List (S31) → ByteArray → Int → Option (ByteArray × Bool)
  | 0, _, _, _ => none
  | k + 1, x0, x1, x6 => if x6 < (x0.length : Int) then (if 0 ≤ x6 then (if ((rd_T31 x0 x6).f0).toList = x1.toList then (some ((rd_T31 x0 x6).f1, true)) else (pleacherref09_Find.l0 k x0 x1 (wrap64 (x6 + 1)))) else (none)) else (some ((⟨#[]⟩ : ByteArray), false))
def pleacherref09_Find.f (k : Nat) (l0 : List (S31)) (a1 : ByteArray) : Option (ByteArray × Bool) := pleacherref09_Find.l0 k l0 a1 0
set_option maxHeartbeats 8000000 in
set_option maxRecDepth 100000 in
theorem pleacherref09_Find.calls (k : Nat) (A0 : Option Addr) (c0 : Nat) (l0 : List (S31)) (a1 : ByteArray) (r1 : ByteArray) (r2 : Bool) (w : World) (hr0 : Kd.C k31 w A0 l0.length l0) (hc0 : l0.length ≤ c0) (h : pleacherref09_Find.f k l0 a1 = some (r1, r2)) :
    Calls Tryd.prog 21 #[.slice A0 l0.length c0, .string a1] w fun e w' => e = .returned (.tuple #[.string r1, .bool r2]) ∧ Drawn0 w w' := by
  have HR0 := Aside0.mk hr0
  have HC0 := Aside0.mk hc0
  clear hr0 hc0
  have H : (pleacherref09_Find.l0 k l0 a1 0) = some (r1, r2) := h
  clear h
  have H' := Aside0.mk H
  clear H
  go_enter Tryd.func21, Tryd.ntmps21
  go_wp2
  go_loopg [6] k (fun kq v6 w' => ∃ (x6_1 : Int), v6 = .int .i64 x6_1 ∧ Aside0 (pleacherref09_Find.l0 kq l0 a1 x6_1 = some (r1, r2)) ∧ Aside0 (kq ≤ k) ∧ Drawn0 w w')
  case atStart => exact ⟨(0), (by first | rfl | (simp; done) | (simp [*]; done)), H', ⟨Nat.le_refl _⟩, by repeat (first | exact Drawn0.refl _ | apply Drawn0.step)⟩
  case round =>
    clear H'
    try clear c2
    try clear p2
    obtain ⟨x6_1, rfl, HA, HK1, ⟨m1, rfl⟩⟩ := hrel
    cases gk with
    | zero => exact absurd HA.out (by simp [pleacherref09_Find.l0])
    | succ k1 =>
      have H := HA.out
      clear HA
      simp only [pleacherref09_Find.l0] at H
      by_cases c3 : x6_1 < (l0.length : Int)
      · rw [if_pos c3] at H
        have c3b0 : decide (x6_1 < (l0.length : Int)) = true := decide_eq_true c3
        clear c3
        by_cases c4 : 0 ≤ x6_1
        · rw [if_pos c4] at H
          have c4b0 : decide (0 ≤ x6_1) = true := decide_eq_true c4
          clear c4
          by_cases c5 : ((rd_T31 l0 x6_1).f0).toList = a1.toList
          · rw [if_pos c5] at H
            have c5b0 : (((rd_T31 l0 x6_1).f0).toList == a1.toList) = true := beq_iff_eq.mpr c5
            have c5b1 : (((rd_T31 l0 x6_1).f0).toList != a1.toList) = false := bne_eq_false_iff_eq.mpr c5
            clear c5
            simp only [Option.some.injEq, Prod.mk.injEq] at H
            obtain ⟨rfl, rfl⟩ := H
            have p202 : 0 ≤ (x6_1 : Int) := of_decide_eq_true (by first | (with_reducible assumption) | assumption)
            have q202 : x6_1 < (l0.length : Int) := of_decide_eq_true (by first | (with_reducible assumption) | assumption)
            obtain ⟨ad202, e202, hx202_0, hx202_1⟩ := at_T31 HR0.out x6_1 p202 q202
            cases e202
            replace p202 := eq_true p202
            replace q202 := eq_true q202
            have p203 : 0 ≤ (x6_1 : Int) := of_decide_eq_true (by first | (with_reducible assumption) | assumption)
            have q203 : x6_1 < (l0.length : Int) := of_decide_eq_true (by first | (with_reducible assumption) | assumption)
            obtain ⟨ad203, e203, hx203_0, hx203_1⟩ := at_T31 HR0.out x6_1 p203 q203
            obtain rfl : ad202 = ad203 := (by injection e203)
            replace p203 := eq_true p203
            replace q203 := eq_true q203
            go_wp2
            go_ret2
            exact ⟨by first | rfl | (simp; done) | (simp [*]; done), by repeat (first | exact Drawn0.refl _ | apply Drawn0.step)⟩
          · rw [if_neg c5] at H
            have c5b0 : (((rd_T31 l0 x6_1).f0).toList == a1.toList) = false := beq_eq_false_iff_ne.mpr c5
            have c5b1 : (((rd_T31 l0 x6_1).f0).toList != a1.toList) = true := bne_iff_ne.mpr c5
            have H' := Aside0.mk H
            clear H
            have p202 : 0 ≤ (x6_1 : Int) := of_decide_eq_true (by first | (with_reducible assumption) | assumption)
            have q202 : x6_1 < (l0.length : Int) := of_decide_eq_true (by first | (with_reducible assumption) | assumption)
            obtain ⟨ad202, e202, hx202_0, hx202_1⟩ := at_T31 HR0.out x6_1 p202 q202
            cases e202
            replace p202 := eq_true p202
            replace q202 := eq_true q202
            go_wp2
            go_roundg k1
            case measure => have := HK1.out; omega
            case rel => exact ⟨(wrap64 (x6_1 + 1)), (by first | rfl | (simp; done) | (simp [*]; done)), H', ⟨by have := HK1.out; omega⟩, by repeat (first | exact Drawn0.refl _ | apply Drawn0.step)⟩
        · rw [if_neg c4] at H
          exact absurd H (by simp)
      · rw [if_neg c3] at H
        have c3b0 : decide (x6_1 < (l0.length : Int)) = false := decide_eq_false c3
        clear c3
        simp only [Option.some.injEq, Prod.mk.injEq] at H
        obtain ⟨rfl, rfl⟩ := H
        go_wp2
        go_ret2
        exact ⟨by first | rfl | (simp; done) | (simp [*]; done), by repeat (first | exact Drawn0.refl _ | apply Drawn0.step)⟩

end Go.Proofs.YtbcjhmeeonhmaaaDoor.M
end

-- Laid by a program of this session for this claim.
section
namespace Go.Proofs.YtbcjhmeeonhmaaaDoor.M
open Go.RowKit Go.Proofs.YtbcjhmeeonhmaaaDoorW.PrintWords Go.Proofs.YtbcjhmeeonhmaaaDoorW.PrintLast Go.Proofs.YtbcjhmeeonhmaaaDoorW.PrintMore
attribute [local go_sem] max2_int min2_int max_two min_two max_three min_three max_four min_four   -- for this text's walks alone
set_option linter.unusedVariables false
set_option linter.unusedSimpArgs false

/-! ### pleacherref09_Put: function 18 -/
end Go.Proofs.YtbcjhmeeonhmaaaDoor.M
end

-- Laid by a program of this session for this claim.
section
namespace Go.Proofs.YtbcjhmeeonhmaaaDoor.M
open Go.RowKit Go.Proofs.YtbcjhmeeonhmaaaDoorW.PrintWords Go.Proofs.YtbcjhmeeonhmaaaDoorW.PrintLast Go.Proofs.YtbcjhmeeonhmaaaDoorW.PrintMore
attribute [local go_sem] max2_int min2_int max_two min_two max_three min_three max_four min_four   -- for this text's walks alone
set_option linter.unusedVariables false
set_option linter.unusedSimpArgs false

/-! ### pax_Find: function 20 -/
def pax_Find.l0 : Nat → ByteArray → List (S31) → Int → Int → Option (ByteArray × Bool)
  | 0, _, _, _, _ => none
  | k + 1, x1, x8, x9, x10 => if x10 < x9 then (if 0 ≤ x10 then (if x10 < (x8.length : Int) then (if ((rd_T31 x8 x10).f0).toList = x1.toList then (some ((rd_T31 x8 x10).f1, true)) else (pax_Find.l0 k x1 x8 x9 (wrap64 (x10 + 1)))) else (none)) else (none)) else (some ((⟨#[]⟩ : ByteArray), false))
def pax_Find.f (k : Nat) (l0 : List (S31)) (a1 : ByteArray) : Option (ByteArray × Bool) := pax_Find.l0 k a1 l0 (l0.length : Int) 0
end Go.Proofs.YtbcjhmeeonhmaaaDoor.M
end

-- Laid by a program of this session for this claim.
section
namespace Go.Proofs.YtbcjhmeeonhmaaaDoor.M
open Go.RowKit Go.Proofs.YtbcjhmeeonhmaaaDoorW.PrintWords Go.Proofs.YtbcjhmeeonhmaaaDoorW.PrintLast Go.Proofs.YtbcjhmeeonhmaaaDoorW.PrintMore
attribute [local go_sem] max2_int min2_int max_two min_two max_three min_three max_four min_four   -- for this text's walks alone
set_option linter.unusedVariables false
set_option linter.unusedSimpArgs false

/-! ### pax_Put: function 17 -/
-- IMPORT Derived.Test.YtbcjhmeeonhmaaaDoorHPaxPut
end Go.Proofs.YtbcjhmeeonhmaaaDoor.M
end

/-
Lists of records: what the law's helpers, pax.Find and the document's Find and Put say.
-/
section
set_option linter.unusedVariables false
set_option maxRecDepth 100000
namespace Go.Proofs.YtbcjhmeeonhmaaaDoor.H
open Go Go.RowKit Go.Proofs.YtbcjhmeeonhmaaaDoorW.PrintWords Go.Proofs.YtbcjhmeeonhmaaaDoorW.PrintMore Go.Proofs.YtbcjhmeeonhmaaaDoor.M

abbrev At := S31
theorem rd_at (l : List At) (i : Nat) (h : i < l.length) : rd_T31 l (i : Int) = l[i] := by
  unfold rd_T31
  rw [Int.toNat_natCast, List.getD_eq_getElem?_getD, List.getElem?_eq_getElem h]; rfl
theorem mn_le (x : Int) (k : Int) : mn x k ≤ k ∧ mn x k ≤ x ∧ (mn x k = x ∨ mn x k = k) := by unfold mn; split <;> omega
/-- A name's value. -/
def findS : List At → ByteArray → ByteArray × Bool
  | [], _ => (⟨#[]⟩, false)
  | x :: t, n => if x.f0 = n then (x.f1, true) else findS t n
theorem find_l (l : List At) (n : ByteArray) (hl : l.length ≤ 1073741824) : ∀ (k i m : Nat), i + m = l.length → m ≤ k → pax_Find.l0 (k + 1) n l l.length i = some (findS (l.drop i) n) := by
  intro k
  induction k with
  | zero =>
    intro i m h1 h2
    rw [pax_Find.l0, if_neg (by omega), List.drop_of_length_le (by omega)]; rfl
  | succ k ih =>
    intro i m h1 h2
    by_cases h : i < l.length
    · rw [pax_Find.l0, if_pos (by omega), if_pos (by omega), if_pos (by omega), rd_at l i h, List.drop_eq_getElem_cons h, findS]
      by_cases hn : l[i].f0 = n
      · rw [if_pos (toList_inj.2 hn), if_pos hn]
      · rw [if_neg (fun e => hn (toList_inj.1 e)), if_neg hn, w64 (by omega) (by omega), show (i : Int) + 1 = ((i + 1 : Nat) : Int) from by omega]
        exact ih (i + 1) (m - 1) (by omega) (by omega)
    · rw [pax_Find.l0, if_neg (by omega), List.drop_of_length_le (by omega)]; rfl
theorem find_f (l : List At) (n : ByteArray) (hl : l.length ≤ 1073741824) (k : Nat) (hk : l.length + 1 ≤ k) : pax_Find.f k l n = some (findS l n) := by
  obtain ⟨j, rfl⟩ : ∃ j, k = j + 1 := ⟨k - 1, by omega⟩
  have := find_l l n hl j 0 l.length (by omega) (by omega)
  rw [List.drop_zero] at this
  exact this
theorem rfind_l (l : List At) (n : ByteArray) (hl : l.length ≤ 1073741824) : ∀ (k i m : Nat), i + m = l.length → m ≤ k → pleacherref09_Find.l0 (k + 1) l n i = some (findS (l.drop i) n) := by
  intro k
  induction k with
  | zero =>
    intro i m h1 h2
    rw [pleacherref09_Find.l0, if_neg (by omega), List.drop_of_length_le (by omega)]; rfl
  | succ k ih =>
    intro i m h1 h2
    by_cases h : i < l.length
    · rw [pleacherref09_Find.l0, if_pos (by omega), if_pos (by omega), rd_at l i h, List.drop_eq_getElem_cons h, findS]
      by_cases hn : l[i].f0 = n
      · rw [if_pos (toList_inj.2 hn), if_pos hn]
      · rw [if_neg (fun e => hn (toList_inj.1 e)), if_neg hn, w64 (by omega) (by omega), show (i : Int) + 1 = ((i + 1 : Nat) : Int) from by omega]
        exact ih (i + 1) (m - 1) (by omega) (by omega)
    · rw [pleacherref09_Find.l0, if_neg (by omega), List.drop_of_length_le (by omega)]; rfl
theorem rfind_f (l : List At) (n : ByteArray) (hl : l.length ≤ 1073741824) (k : Nat) (hk : l.length + 1 ≤ k) : pleacherref09_Find.f k l n = some (findS l n) := by
  obtain ⟨j, rfl⟩ : ∃ j, k = j + 1 := ⟨k - 1, by omega⟩
  have := rfind_l l n hl j 0 l.length (by omega) (by omega)
  rw [List.drop_zero] at this
  exact this
theorem findS_iff (l : List At) (n : ByteArray) : (findS l n).2 = true ↔ n ∈ l.map (·.f0) := by
  induction l with
  | nil => simp [findS]
  | cons x t ih =>
    unfold findS
    by_cases h : x.f0 = n
    · rw [if_pos h]; simp [h]
    · rw [if_neg h, ih]; simp; intro e; exact absurd e.symm h

/-! Put -/
end Go.Proofs.YtbcjhmeeonhmaaaDoor.H
end

/-
What the rows of this seat share: what 'laid' gives a walk, the witness' world, arguments opened.
-/
section
set_option linter.unusedVariables false
set_option maxRecDepth 100000
namespace Go.Proofs.YtbcjhmeeonhmaaaDoor.H
open Go Go.ChangeShapes Go.WideShapes Go.ChangeAt Go.RowKit Go.Proofs.YtbcjhmeeonhmaaaDoorW.PrintWords Go.Proofs.YtbcjhmeeonhmaaaDoorW.PrintMore Go.Proofs.YtbcjhmeeonhmaaaDoor.M

theorem own : ownKnob Tryd.prog.godebug = none := by kernel_rfl
theorem gType : Tryd.prog.globalNamed "errors.errorType" = some 0 := by kernel_rfl
theorem gBase : Tryd.prog.globalNamed "pleacher/num.errBase" = some 1 := by kernel_rfl
theorem gNum : Tryd.prog.globalNamed "pleacher/num.errNum" = some 2 := by kernel_rfl
theorem gBaseT : (Tryd.prog.globals[1]?).map (·.type) = some 45 := by kernel_rfl
theorem gNumT : (Tryd.prog.globals[2]?).map (·.type) = some 45 := by kernel_rfl
theorem rtT : (Tryd.prog.cutTypes.find? (·.1 == "internal/reflectlite.rtype")).map (·.2) = some 124 := by kernel_rfl
theorem sizeT : Tryd.prog.types.size = 211 := by kernel_rfl
theorem oneErr : ((List.range 211).filter fun t => Tryd.prog.rowNamed t [101, 114, 114, 111, 114]) = [45] := by kernel_rfl
theorem laidTwo {W : World} (h : laidMetH Tryd.prog Rows.paxPutsRow.laid W) : laidMet Tryd.prog [("pleacher/num.errBase", Rows.laid_pleacher_num_errBase), ("pleacher/num.errNum", Rows.laid_pleacher_num_errNum)] W ∧ handlesMet Tryd.prog [("errors.errorType", Rows.laid_errors_errorType)] W := h

theorem cellsE : Tryd.prog.cellsOf 199 = 1 := by kernel_rfl
theorem cellsS : Tryd.prog.cellsOf 9 = 1 := by kernel_rfl
theorem starE : "*" ++ "errors.errorString" = "*errors.errorString" := by decide
theorem rowE (u : TypeId) (h : Tryd.prog.typeName? 3 u = some "*errors.errorString") : u = 179 :=
  typeName_ptr_named (nm := "errors.errorString") (by rw [starE]; kernel_rfl) (by kernel_rfl) (by decide) u (by rw [starE]; exact h)
/-- WHAT 'laid' GIVES: the two sentinels, and the type's handle. -/
theorem gw_of_laid {W : World} (h : laidMetH Tryd.prog Rows.paxPutsRow.laid W) : GW W := by
  obtain ⟨h1, h2⟩ := laidTwo h
  obtain ⟨a0, a1, s0, s1, c0, c1, t0, t1, v0, v1, _, _, _, _, _, _, hne, b0, b1⟩ := Go.laid_sentinels2 h1 gBase gBaseT gNum gNumT Tryd.underlying45 rowE Tryd.underlying179 Tryd.underlying199 rfl rfl Tryd.underlying9 cellsE cellsS
  obtain ⟨name, u, ty, e1, e2, e3, e4, e5⟩ := h2 _ (List.mem_singleton.2 rfl)
  have en : name = [101, 114, 114, 111, 114] := (Option.some.inj e1).symm
  subst en
  obtain rfl := Option.some.inj (rtT.symm.trans e2)
  have hm : ty ∈ (List.range 211).filter fun t => Tryd.prog.rowNamed t [101, 114, 114, 111, 114] := List.mem_filter.2 ⟨List.mem_range.2 (by rw [← sizeT]; exact e3), e4⟩
  rw [oneErr] at hm
  obtain rfl := List.mem_singleton.1 hm
  have hh : typeHandle Tryd.prog 45 = .pointer (some ⟨4, 45, none⟩) := by kernel_rfl
  rw [hh] at e5
  exact ⟨a0, a1, c0, c1, t0, t1, by simpa using World.var?_cell gBase v0 0, by simpa using World.var?_cell gNum v1 0, hne, b0, b1, by simpa using World.var?_cell gType e5 0⟩
/-- A WORLD FOR THE WITNESS: as the program's own start lays the three. -/
theorem door_met (os : Os) (args : Array Value) : laidMetH Tryd.prog Rows.paxPutsRow.laid ((World.doorLaid Tryd.prog 54 os).forCall (fun _ _ => 0) ⟨#[], args, []⟩).memory :=
  laidMetH_of_parts (laidMet_of_run' 8 (by kernel_rfl) (by kernel_rfl)) (by kernel_rfl)

theorem laidOutA : laidOutB Tryd.prog = true := by kernel_rfl
instance : Inhabited At := ⟨z31⟩
/-- POST where nothing below the old heap's end has turned, and 'true' is handed back. -/
theorem post_true {H : Type} {enc : TypeId × Value → H} {f : Func} {s : ChangeSpec} {apart fresh handsOn : Bool} {W W' : World} {args : Array Value} {ds gs : List (DataW H)} {before pa : List MemPlace}
    (hW : DataW.Whole enc Tryd.prog f.params.toList s.vars apart W args.toList ds gs before) (hvars : s.vars = []) (hr : f.resultTypes = #[4])
    (hfn : (s.fn H (ds ++ gs)).results = [.lit (.bool true)] ∧ (s.fn H (ds ++ gs)).args = ds ∧ (s.fn H (ds ++ gs)).vars = [])
    (hargs : DataW.TrodAll enc Tryd.prog W' 0 (fun b => decide (b < W.heap.size)) true f.params.toList args.toList ds pa) (hb : Below W.heap.size W W') (hpa : before = pa) :
    s.post enc Tryd.prog f apart fresh handsOn false W args (.bool true) W' := by
  refine ⟨ds, gs, before, [], pa, [], hW, ?_, ?_, ?_, hb.frame _, fun h => by cases h⟩
  · rw [hr, hfn.1]
    exact trodAll_cons_mk (shut_bool Tryd.underlying4 _) trodAll_mk0
  · rw [hfn.2.1]; exact hargs
  · rw [hvars, hfn.2.2]; rfl

theorem readS : Tryd.prog.readableRec 9 = true := by kernel_rfl
theorem rowsS : 9 < Tryd.prog.types.size := by rw [sizeT]; decide
end Go.Proofs.YtbcjhmeeonhmaaaDoor.H
end

/-
Put, told in plain words.
-/
section
set_option linter.unusedVariables false
set_option maxRecDepth 100000
namespace Go.Proofs.YtbcjhmeeonhmaaaDoor.H
open Go Go.RowKit Go.Proofs.YtbcjhmeeonhmaaaDoorW.PrintWords Go.Proofs.YtbcjhmeeonhmaaaDoorW.PrintMore Go.Proofs.YtbcjhmeeonhmaaaDoor.M
end Go.Proofs.YtbcjhmeeonhmaaaDoor.H
end

/-
Records and their bytes are one to one: what Put makes, Get reads, and the other way round.
-/
section
set_option linter.unusedVariables false
set_option maxRecDepth 100000
namespace Go.Proofs.YtbcjhmeeonhmaaaDoor.H
open Go Go.RowKit Go.Proofs.YtbcjhmeeonhmaaaDoorW.PrintWords Go.Proofs.YtbcjhmeeonhmaaaDoorW.PrintMore Go.Proofs.YtbcjhmeeonhmaaaDoor.M

theorem idx_at {l : List UInt8} {c : UInt8} {k : Nat} (h0 : l[k]? = some c) (h1 : ∀ j, j < k → l[j]? ≠ some c) : Lib.indexByte l c = (k : Int) := by
  have hg := Lib.indexByte_ge l c
  obtain ⟨i, hi⟩ : ∃ i, Lib.indexByte l c = i := ⟨_, rfl⟩
  rw [hi] at hg
  by_cases h : i = -1
  · exact absurd h0 (Lib.indexByte_none (hi.trans h) k)
  · obtain ⟨o, rfl⟩ := Int.eq_ofNat_of_zero_le (by omega : 0 ≤ i)
    have h2 := Lib.indexByte_some hi
    rw [hi]
    rcases Nat.lt_trichotomy o k with hlt | rfl | hlt
    · exact absurd h2.1 (h1 o hlt)
    · rfl
    · exact absurd h0 (h2.2 k hlt)
theorem data_ext {a b : ByteArray} (h : a.data.toList = b.data.toList) : a = b := ByteArray.ext (Array.toList_inj.1 h)
theorem ext_list (s : ByteArray) (i j : Nat) : (s.extract i j).data.toList = (s.data.toList.drop i).take (j - i) := by simp [List.extract]
theorem app_list (s t : ByteArray) : (s ++ t).data.toList = s.data.toList ++ t.data.toList := by simp
theorem dig_all : ∀ m : Nat, m < 1000 → ownC 10 (putF 10 m) = ((m : Int), 0) ∧ (putF 10 m).size ≤ 5 ∧ (32 : UInt8) ∉ (putF 10 m).data.toList := by decide +kernel
theorem own_put {m : Nat} (h : m < 1000) : ownC 10 (putS 10 m) = ((m : Int), 0) ∧ (putS 10 m).size ≤ 5 ∧ (32 : UInt8) ∉ (putS 10 m).data.toList := by rw [putS_eq]; exact dig_all m h
end Go.Proofs.YtbcjhmeeonhmaaaDoor.H
end

/-
UTF-8 of two texts, put together.
-/
section
set_option linter.unusedVariables false
set_option maxRecDepth 100000
namespace Go.Proofs.YtbcjhmeeonhmaaaDoor.H
open Go Go.RowKit Go.Proofs.YtbcjhmeeonhmaaaDoorW.PrintWords Go.Proofs.YtbcjhmeeonhmaaaDoorW.PrintMore Go.Proofs.YtbcjhmeeonhmaaaDoor.M

theorem bytes_list (s : ByteArray) (i : Nat) (h : i < s.size) : s.data.toList[i]? = some (s[i]'h) := by
  have : i < s.data.toList.length := by rw [size_data]; exact h
  rw [List.getElem?_eq_getElem this]; rfl
end Go.Proofs.YtbcjhmeeonhmaaaDoor.H
end

-- Laid by a program of this session for this claim.
section
namespace Go.Proofs.YtbcjhmeeonhmaaaDoor.M
open Go.RowKit Go.Proofs.YtbcjhmeeonhmaaaDoorW.PrintWords Go.Proofs.YtbcjhmeeonhmaaaDoorW.PrintLast Go.Proofs.YtbcjhmeeonhmaaaDoorW.PrintMore
attribute [local go_sem] max2_int min2_int max_two min_two max_three min_three max_four min_four   -- for this text's walks alone
set_option linter.unusedVariables false
set_option linter.unusedSimpArgs false

attribute [local go_sem high] eqA31
/-! ### pleacherref05_Attrs: function 13 -/
def pleacherref05_Attrs.l0 : Nat → List (S31) → List (S31) → Int → Option (Bool)
  | 0, _, _, _ => none
  | k + 1, x0, x1, x5 => if x5 < (x0.length : Int) then (if 0 ≤ x5 then (if x5 < (x1.length : Int) then (if (!((((rd_T31 x0 x5).f0).toList) == (((rd_T31 x1 x5).f0).toList)) || (!((((rd_T31 x0 x5).f1).toList) == (((rd_T31 x1 x5).f1).toList)))) = true then (some false) else (pleacherref05_Attrs.l0 k x0 x1 (wrap64 (x5 + 1)))) else (none)) else (none)) else (some true)
def pleacherref05_Attrs.f (k : Nat) (l0 : List (S31)) (l1 : List (S31)) : Option (Bool) := if (l0.length : Int) = (l1.length : Int) then (pleacherref05_Attrs.l0 k l0 l1 0) else (some false)
set_option maxHeartbeats 8000000 in
set_option maxRecDepth 100000 in
theorem pleacherref05_Attrs.calls (k : Nat) (A0 : Option Addr) (c0 : Nat) (l0 : List (S31)) (A1 : Option Addr) (c1 : Nat) (l1 : List (S31)) (r : Bool) (w : World) (hr0 : Kd.C k31 w A0 l0.length l0) (hc0 : l0.length ≤ c0) (hr1 : Kd.C k31 w A1 l1.length l1) (hc1 : l1.length ≤ c1) (h : pleacherref05_Attrs.f k l0 l1 = some r) :
    Calls Tryd.prog 13 #[.slice A0 l0.length c0, .slice A1 l1.length c1] w fun e w' => e = .returned (.bool r) ∧ Drawn0 w w' := by
  have hu31 := Tryd.underlying31
  have HR0 := Aside0.mk hr0
  have HC0 := Aside0.mk hc0
  clear hr0 hc0
  have HR1 := Aside0.mk hr1
  have HC1 := Aside0.mk hc1
  clear hr1 hc1
  have H : (if (l0.length : Int) = (l1.length : Int) then (pleacherref05_Attrs.l0 k l0 l1 0) else (some false)) = some r := h
  clear h
  by_cases c3 : (l0.length : Int) = (l1.length : Int)
  · rw [if_pos c3] at H
    have c3b0 : ((l0.length : Int) == (l1.length : Int)) = true := beq_iff_eq.mpr c3
    have c3b1 : ((l0.length : Int) != (l1.length : Int)) = false := bne_eq_false_iff_eq.mpr c3
    have c3b2 : (l0.length == l1.length) = true := by first | simpa using c3 | (simp at c3 ⊢; omega)
    clear c3
    have H' := Aside0.mk H
    clear H
    go_enter Tryd.func13, Tryd.ntmps13
    go_wp2
    repeat (go_quiet (fail); try go_wp2)
    go_loopg [5] k (fun kq v5 w' => ∃ (x5_1 : Int), v5 = .int .i64 x5_1 ∧ Aside0 (pleacherref05_Attrs.l0 kq l0 l1 x5_1 = some r) ∧ Aside0 (kq ≤ k) ∧ Drawn0 w w')
    case atStart => exact ⟨(0), (by first | rfl | (simp; done) | (simp [*]; done)), H', ⟨Nat.le_refl _⟩, by repeat (first | exact Drawn0.refl _ | apply Drawn0.step)⟩
    case round =>
      clear H'
      try clear c1
      try clear p2
      try clear c3
      try clear c3b0
      try clear c3b1
      try clear c3b2
      obtain ⟨x5_1, rfl, HA, HK1, ⟨m1, rfl⟩⟩ := hrel
      cases gk with
      | zero => exact absurd HA.out (by simp [pleacherref05_Attrs.l0])
      | succ k1 =>
        have H := HA.out
        clear HA
        simp only [pleacherref05_Attrs.l0] at H
        by_cases c4 : x5_1 < (l0.length : Int)
        · rw [if_pos c4] at H
          have c4b0 : decide (x5_1 < (l0.length : Int)) = true := decide_eq_true c4
          clear c4
          by_cases c5 : 0 ≤ x5_1
          · rw [if_pos c5] at H
            have c5b0 : decide (0 ≤ x5_1) = true := decide_eq_true c5
            clear c5
            by_cases c6 : x5_1 < (l1.length : Int)
            · rw [if_pos c6] at H
              have c6b0 : decide (x5_1 < (l1.length : Int)) = true := decide_eq_true c6
              clear c6
              by_cases c7 : (!((((rd_T31 l0 x5_1).f0).toList) == (((rd_T31 l1 x5_1).f0).toList)) || (!((((rd_T31 l0 x5_1).f1).toList) == (((rd_T31 l1 x5_1).f1).toList)))) = true
              · rw [if_pos c7] at H
                have c7b0 : (!((((rd_T31 l0 x5_1).f0).toList) == (((rd_T31 l1 x5_1).f0).toList)) || (!((((rd_T31 l0 x5_1).f1).toList) == (((rd_T31 l1 x5_1).f1).toList)))) = true := c7
                clear c7
                obtain rfl := Option.some.inj H
                have p251 : 0 ≤ (x5_1 : Int) := of_decide_eq_true (by first | (with_reducible assumption) | assumption)
                have q251 : x5_1 < (l0.length : Int) := of_decide_eq_true (by first | (with_reducible assumption) | assumption)
                obtain ⟨ad251, e251, hx251_0, hx251_1⟩ := at_T31 HR0.out x5_1 p251 q251
                cases e251
                replace p251 := eq_true p251
                replace q251 := eq_true q251
                have p252 : 0 ≤ (x5_1 : Int) := of_decide_eq_true (by first | (with_reducible assumption) | assumption)
                have q252 : x5_1 < (l1.length : Int) := of_decide_eq_true (by first | (with_reducible assumption) | assumption)
                obtain ⟨ad252, e252, hx252_0, hx252_1⟩ := at_T31 HR1.out x5_1 p252 q252
                cases e252
                replace p252 := eq_true p252
                replace q252 := eq_true q252
                go_wp2
                repeat (go_quiet (fail); try go_wp2)
                go_ret
                exact ⟨by first | rfl | (simp; done) | (simp [*]; done), by repeat (first | exact Drawn0.refl _ | apply Drawn0.step)⟩
              · rw [if_neg c7] at H
                have c7b0 : (!((((rd_T31 l0 x5_1).f0).toList) == (((rd_T31 l1 x5_1).f0).toList)) || (!((((rd_T31 l0 x5_1).f1).toList) == (((rd_T31 l1 x5_1).f1).toList)))) = false := by simpa using c7
                clear c7
                have H' := Aside0.mk H
                clear H
                have p251 : 0 ≤ (x5_1 : Int) := of_decide_eq_true (by first | (with_reducible assumption) | assumption)
                have q251 : x5_1 < (l0.length : Int) := of_decide_eq_true (by first | (with_reducible assumption) | assumption)
                obtain ⟨ad251, e251, hx251_0, hx251_1⟩ := at_T31 HR0.out x5_1 p251 q251
                cases e251
                replace p251 := eq_true p251
                replace q251 := eq_true q251
                have p252 : 0 ≤ (x5_1 : Int) := of_decide_eq_true (by first | (with_reducible assumption) | assumption)
                have q252 : x5_1 < (l1.length : Int) := of_decide_eq_true (by first | (with_reducible assumption) | assumption)
                obtain ⟨ad252, e252, hx252_0, hx252_1⟩ := at_T31 HR1.out x5_1 p252 q252
                cases e252
                replace p252 := eq_true p252
                replace q252 := eq_true q252
                go_wp2
                repeat (go_quiet (fail); try go_wp2)
                go_roundg k1
                case measure => have := HK1.out; omega
                case rel => exact ⟨(wrap64 (x5_1 + 1)), (by first | rfl | (simp; done) | (simp [*]; done)), H', ⟨by have := HK1.out; omega⟩, by repeat (first | exact Drawn0.refl _ | apply Drawn0.step)⟩
            · rw [if_neg c6] at H
              exact absurd H (by simp)
          · rw [if_neg c5] at H
            exact absurd H (by simp)
        · rw [if_neg c4] at H
          have c4b0 : decide (x5_1 < (l0.length : Int)) = false := decide_eq_false c4
          clear c4
          obtain rfl := Option.some.inj H
          go_wp2
          repeat (go_quiet (fail); try go_wp2)
          go_ret
          exact ⟨by first | rfl | (simp; done) | (simp [*]; done), by repeat (first | exact Drawn0.refl _ | apply Drawn0.step)⟩
  · rw [if_neg c3] at H
    have c3b0 : ((l0.length : Int) == (l1.length : Int)) = false := beq_eq_false_iff_ne.mpr c3
    have c3b1 : ((l0.length : Int) != (l1.length : Int)) = true := bne_iff_ne.mpr c3
    have c3b2 : (l0.length == l1.length) = false := by first | simpa using c3 | (simp at c3 ⊢; omega)
    obtain rfl := Option.some.inj H
    go_enter Tryd.func13, Tryd.ntmps13
    go_wp2
    repeat (go_quiet (fail); try go_wp2)
    go_ret
    exact ⟨by first | rfl | (simp; done) | (simp [*]; done), by repeat (first | exact Drawn0.refl _ | apply Drawn0.step)⟩

end Go.Proofs.YtbcjhmeeonhmaaaDoor.M
end

-- Laid by a program of this session for this claim.
section
namespace Go.Proofs.YtbcjhmeeonhmaaaDoor.M
open Go.RowKit Go.Proofs.YtbcjhmeeonhmaaaDoorW.PrintWords Go.Proofs.YtbcjhmeeonhmaaaDoorW.PrintLast Go.Proofs.YtbcjhmeeonhmaaaDoorW.PrintMore
attribute [local go_sem] max2_int min2_int max_two min_two max_three min_three max_four min_four   -- for this text's walks alone
set_option linter.unusedVariables false
set_option linter.unusedSimpArgs false

/-! ### pleacherlaw09_cut: function 11 -/
def pleacherlaw09_cut.f (a0 : ByteArray) : Option (ByteArray) := if 0 ≤ (mn (a0.size : Int) 1000) then (if (mn (a0.size : Int) 1000) ≤ (a0.size : Int) then (some (a0.extract 0 ((mn (a0.size : Int) 1000) : Int).toNat)) else (none)) else (none)
set_option maxHeartbeats 8000000 in
set_option maxRecDepth 100000 in
theorem pleacherlaw09_cut.calls (a0 : ByteArray) (r : ByteArray) (w : World) (h : pleacherlaw09_cut.f a0 = some r) :
    Calls Tryd.prog 11 #[.string a0] w fun e w' => e = .returned (.string r) ∧ Below w.heap.size w w' := by
  have HB := Aside0.mk (Below.refl w.heap.size w)
  have H : (if 0 ≤ (mn (a0.size : Int) 1000) then (if (mn (a0.size : Int) 1000) ≤ (a0.size : Int) then (some (a0.extract 0 ((mn (a0.size : Int) 1000) : Int).toNat)) else (none)) else (none)) = some r := h
  clear h
  obtain ⟨ji2, hji2⟩ : ∃ j_ : Int, (mn (a0.size : Int) 1000) = j_ := ⟨_, rfl⟩
  replace H : (if 0 ≤ (ji2) then (if (ji2) ≤ (a0.size : Int) then (some (a0.extract 0 ((ji2) : Int).toNat)) else (none)) else (none)) = some r := by first | (rw [hji2] at H; exact H) | (simp only [hji2] at H ⊢; exact H)
  (try (have hji2h : ji2 ≤ 1000 := by (rw [← hji2]; unfold mn; (repeat' split) <;> omega)))
  (try (have hji2g : ji2 ≤ 64 := by omega))
  (try (have hji2l : 0 ≤ ji2 := by (rw [← hji2]; unfold mn; (repeat' split) <;> omega)))
  (try (have hji2m : 0 ≤ ji2 := by omega))
  have hji2_ : (if 1000 < (a0.size : Int) then 1000 else (a0.size : Int)) = ji2 := hji2
  by_cases c3 : 0 ≤ (ji2)
  · rw [if_pos c3] at H
    have c3b0 := eq_true c3
    have c3b1 : decide (0 ≤ (ji2)) = true := decide_eq_true c3
    clear c3
    by_cases c4 : (ji2) ≤ (a0.size : Int)
    · rw [if_pos c4] at H
      have c4b0 := eq_true c4
      have c4b1 : decide ((ji2) ≤ (a0.size : Int)) = true := decide_eq_true c4
      clear c4
      obtain rfl := Option.some.inj H
      go_enter Tryd.func11, Tryd.ntmps11
      go_wp2
      go_ret
      exact ⟨by first | rfl | (simp [errW_none, errW_some] <;> rfl) | (simp only [← hji2]; first | rfl | (simp [errW_none, errW_some] <;> rfl)) | (simp [*, errW_none, errW_some] <;> rfl), by repeat (first | (with_reducible first | exact HB.out | apply below_alloc | apply pw_below_drewN | apply below_drew1) | exact HB.out)⟩
    · rw [if_neg c4] at H
      exact absurd H (by simp)
  · rw [if_neg c3] at H
    exact absurd H (by simp)

end Go.Proofs.YtbcjhmeeonhmaaaDoor.M
end

/-
Lists that are alike, a cut, what Get reads.
-/
section
set_option linter.unusedVariables false
set_option maxRecDepth 100000
namespace Go.Proofs.YtbcjhmeeonhmaaaDoor.H
open Go Go.RowKit Go.Proofs.YtbcjhmeeonhmaaaDoorW.PrintWords Go.Proofs.YtbcjhmeeonhmaaaDoorW.PrintMore Go.Proofs.YtbcjhmeeonhmaaaDoor.M

theorem attrs_l (l : List At) (hl : l.length ≤ 1073741824) : ∀ (k i m : Nat), i + m = l.length → m ≤ k → pleacherref05_Attrs.l0 (k + 1) l l i = some true := by
  intro k
  induction k with
  | zero =>
    intro i m h1 h2
    rw [pleacherref05_Attrs.l0, if_neg (by omega)]
  | succ k ih =>
    intro i m h1 h2
    by_cases h : i < l.length
    · rw [pleacherref05_Attrs.l0, if_pos (by omega), if_pos (by omega), if_pos (by omega), if_neg (by simp), w64 (by omega) (by omega), show (i : Int) + 1 = ((i + 1 : Nat) : Int) from by omega]
      exact ih (i + 1) (m - 1) (by omega) (by omega)
    · rw [pleacherref05_Attrs.l0, if_neg (by omega)]
theorem attrs_f (l : List At) (hl : l.length ≤ 1073741824) (k : Nat) (hk : l.length + 1 ≤ k) : pleacherref05_Attrs.f k l l = some true := by
  obtain ⟨j, rfl⟩ : ∃ j, k = j + 1 := ⟨k - 1, by omega⟩
  unfold pleacherref05_Attrs.f
  rw [if_pos rfl]
  exact attrs_l l hl j 0 l.length (by omega) (by omega)
theorem cut_f (s : ByteArray) : pleacherlaw09_cut.f s = some (s.extract 0 (min s.size 1000)) := by
  unfold pleacherlaw09_cut.f
  have h := mn_le (s.size : Int) 1000
  rw [if_pos (by omega), if_pos (by omega)]
  have e : (mn (s.size : Int) 1000).toNat = min s.size 1000 := by omega
  rw [e]
theorem rec_len : ∀ (k : Nat) (pre : List At) (t : ByteArray), (recF k pre t).1.length ≤ pre.length + k
  | 0, pre, t => Nat.le_refl _
  | k + 1, pre, t => by
    rw [recF]
    by_cases h0 : t.size = 0
    · rw [if_pos h0]; simp only []; omega
    · rw [if_neg h0]
      cases hf : firstS t with
      | none => simp only []; omega
      | some p =>
        obtain ⟨n, v, m⟩ := p
        simp only []
        by_cases h3 : pre.length + 1 ≤ 30 ∧ n ∉ pre.map (·.f0)
        · rw [if_pos h3]
          have := rec_len k (pre ++ [⟨n, v⟩]) (t.extract m t.size)
          rw [List.length_append, List.length_singleton] at this
          omega
        · rw [if_neg h3]; simp only []; omega
theorem gets_len (s : ByteArray) : (getsS s).1.length ≤ 40 := by
  have := rec_len 40 [] s
  unfold getsS
  cases hr : recF 40 [] s with
  | mk xs o =>
    rw [hr] at this
    cases o with
    | none => simpa using this
    | some t => simp
theorem get_f (s : ByteArray) (h : s.size ≤ 1073741824) : pax_Get.f s = some (getsS s) := by unfold pax_Get.f; rw [if_pos h]
theorem oneS_yes' {n v : ByteArray} (h : (oneS n v).2 = 0) : isOneB n v = true := by
  unfold oneS at h
  by_cases h9 : isOneB n v = true
  · exact h9
  · rw [if_neg h9] at h; cases h
end Go.Proofs.YtbcjhmeeonhmaaaDoor.H
end

-- Laid by a program of this session for this claim.
section
namespace Go.Proofs.YtbcjhmeeonhmaaaDoor.M
open Go.RowKit Go.Proofs.YtbcjhmeeonhmaaaDoorW.PrintWords Go.Proofs.YtbcjhmeeonhmaaaDoorW.PrintLast Go.Proofs.YtbcjhmeeonhmaaaDoorW.PrintMore
attribute [local go_sem] max2_int min2_int max_two min_two max_three min_three max_four min_four   -- for this text's walks alone
set_option linter.unusedVariables false
set_option linter.unusedSimpArgs false

/-! ### pleacherref09_first: function 24 -/
mutual
def pleacherref09_first.j1 : Nat → ByteArray → Int → Option (ByteArray × ByteArray × Int)
  | 0, _, _ => none
  | k + 1, x0, x4 => if 0 ≤ x4 then (if x4 ≤ (x0.size : Int) then ((pleacherref03_Own.f k 10 (x0.extract 0 (x4 : Int).toNat)).bind fun bt237 => (if bt237.2 = 0 then (if bt237.1 > (IntKind.u64.wrap ((x0.size : Int))) then (pleacherref09_first.j2 k x0 x4 bt237.1 true) else (pleacherref09_first.j2 k x0 x4 bt237.1 (decide ((wrap64 (bt237.1)) < (wrap64 (x4 + 2)))))) else (pleacherref09_first.j2 k x0 x4 bt237.1 true))) else (none)) else (none)
def pleacherref09_first.j2 : Nat → ByteArray → Int → Int → Bool → Option (ByteArray × ByteArray × Int)
  | 0, _, _, _, _ => none
  | k + 1, x0, x4, x5, x50 => if x50 = true then (some ((⟨#[]⟩ : ByteArray), (⟨#[]⟩ : ByteArray), 0)) else (if 0 ≤ (wrap64 (x4 + 1)) then (if (wrap64 (x4 + 1)) ≤ (IntKind.u64.wrap (x5 - 1)) then (if (IntKind.u64.wrap (x5 - 1)) ≤ (x0.size : Int) then (pleacherref09_first.l1 k x0 x5 (x0.extract ((wrap64 (x4 + 1)) : Int).toNat ((IntKind.u64.wrap (x5 - 1)) : Int).toNat) 0) else (none)) else (none)) else (none))
def pleacherref09_first.j4 : Nat → ByteArray → Int → ByteArray → Int → Option (ByteArray × ByteArray × Int)
  | 0, _, _, _, _ => none
  | k + 1, x0, x5, x7, x8 => if x8 = (x7.size : Int) then (some ((⟨#[]⟩ : ByteArray), (⟨#[]⟩ : ByteArray), 0)) else (if 0 ≤ x8 then (if x8 ≤ (x7.size : Int) then (if 0 ≤ (wrap64 (x8 + 1)) then (if (wrap64 (x8 + 1)) ≤ (x7.size : Int) then ((pleacherref09_One.f (x7.extract 0 (x8 : Int).toNat) (x7.extract ((wrap64 (x8 + 1)) : Int).toNat x7.size)).bind fun bt240 => (if bt240.2 = 0 then (if 0 ≤ x5 then (if x5 ≤ (x0.size : Int) then (if bt240.1.toList = (x0.extract 0 (x5 : Int).toNat).toList then (some (x7.extract 0 (x8 : Int).toNat, x7.extract ((wrap64 (x8 + 1)) : Int).toNat x7.size, wrap64 (x5))) else (some ((⟨#[]⟩ : ByteArray), (⟨#[]⟩ : ByteArray), 0))) else (none)) else (none)) else (some ((⟨#[]⟩ : ByteArray), (⟨#[]⟩ : ByteArray), 0)))) else (none)) else (none)) else (none)) else (none))
def pleacherref09_first.l1 : Nat → ByteArray → Int → ByteArray → Int → Option (ByteArray × ByteArray × Int)
  | 0, _, _, _, _ => none
  | k + 1, x0, x5, x7, x8 => if x8 < (x7.size : Int) then (if 0 ≤ x8 then (if (bt x7 x8) = 61 then (pleacherref09_first.j4 k x0 x5 x7 x8) else (pleacherref09_first.l1 k x0 x5 x7 (wrap64 (x8 + 1)))) else (none)) else (pleacherref09_first.j4 k x0 x5 x7 x8)
def pleacherref09_first.l0 : Nat → ByteArray → Int → Option (ByteArray × ByteArray × Int)
  | 0, _, _ => none
  | k + 1, x0, x4 => if x4 < (x0.size : Int) then (if x4 < 5 then (if 0 ≤ x4 then (if (bt x0 x4) = 32 then (pleacherref09_first.j1 k x0 x4) else (pleacherref09_first.l0 k x0 (wrap64 (x4 + 1)))) else (none)) else (pleacherref09_first.j1 k x0 x4)) else (pleacherref09_first.j1 k x0 x4)
end
def pleacherref09_first.f (k : Nat) (a0 : ByteArray) : Option (ByteArray × ByteArray × Int) := pleacherref09_first.l0 k a0 0
def pleacherref09_first.T13 : Bool × List (List Nat × List Nat) := (true, [([], []), ([], []), ([0, 1], [0, 1]), ([], []), ([], []), ([4], [4]), ([3, 5], [3, 5]), ([2, 6], [2, 6]), ([], []), ([8, 7, 0, 1, 2, 3, 4, 5, 6, 7, 8], [7, 8])])
def pleacherref09_first.B13 : List Nat := [0, 0, 3, 0, 0, 16, 56, 127, 0, 511]
theorem pleacherref09_first.tab13 : rtab .any (opsOf Tryd.f24 13) = pleacherref09_first.T13 := by kernel_rfl
theorem pleacherref09_first.bits13 : waitsOk pleacherref09_first.T13.2 pleacherref09_first.B13 = true := by kernel_rfl
set_option maxHeartbeats 8000000 in
set_option maxRecDepth 100000 in
theorem pleacherref09_first.calls (k : Nat) (a0 : ByteArray) (r1 : ByteArray) (r2 : ByteArray) (r3 : Int) (w : World) (h : pleacherref09_first.f k a0 = some (r1, r2, r3)) :
    Calls Tryd.prog 24 #[.string a0] w fun e w' => e = .returned (.tuple #[.agg #[.string r1, .string r2], .int .i64 r3]) ∧ Below w.heap.size w w' := by
  have hu31 := Tryd.underlying31
  have HB := Aside0.mk (Below.refl w.heap.size w)
  have H : (pleacherref09_first.l0 k a0 0) = some (r1, r2, r3) := h
  clear h
  have HC2 := Aside0.mk H
  clear H
  go_enter Tryd.func24, Tryd.ntmps24
  go_upto_block 0 with (first | ((with_reducible refine gate_dst (N := 2) rfl ?_); (try (refine gate_guard (by rfl) ?_; dsimp only)); refine box_event ?hg (N := 2) ?hd (cs := #[.string (⟨#[]⟩ : ByteArray), .string (⟨#[]⟩ : ByteArray)]) (t := 31) ?hr ?_; (case hd => rfl); (case hg => rfl); (case hr => first | (go_simp; done) | (go_simp; rfl)); intro gb236 hg w3 hbox hb; have n0_ := Aside0.mk (below_step (by repeat (first | (with_reducible first | exact HB.out | apply below_alloc | apply pw_below_drewN | apply below_drew1) | exact HB.out)) hb); have n1_ := Aside0.mk (hbox); have n2_ := Aside0.mk ((by rw [hg]; exact (below_size (by repeat (first | (with_reducible first | exact HB.out | apply below_alloc | apply pw_below_drewN | apply below_drew1) | exact HB.out))) : w.heap.size ≤ gb236)); have n3_ := Aside0.mk ((by rw [hg]; exact (below_size (by repeat (first | (with_reducible first | exact HB.out | apply below_alloc | apply pw_below_drewN | apply below_drew1) | exact HB.out))) : w.heap.size ≤ gb236)); clear HB; have HB := n0_; have BK236 := n1_; have GW236 := n2_; have GE236 := n3_; clear n0_ n1_ n2_ n3_; clear hb hbox hg))
  (try simp only [Act.put, List.setIfInBounds_toArray, List.set_cons_zero, List.set_cons_succ])
  go_cut [4] (fun v4 wc => ∃ (kq : Nat) (x4_1 : Int), v4 = .int .i64 x4_1 ∧ Aside0 (pleacherref09_first.j1 kq a0 x4_1 = some (r1, r2, r3)) ∧ Aside0 (kq ≤ k) ∧ Aside0 (wc.heap[gb236]? = some (.cells #[.string (⟨#[]⟩ : ByteArray), .string (⟨#[]⟩ : ByteArray)] 31 (0, 0))) ∧ Aside0 (Below w.heap.size w wc))
  case first =>
    have H := HC2.out
    clear HC2
    have H' := Aside0.mk H
    clear H
    go_wp2
    go_loopg [4] k (fun kq v4 w' => ∃ (x4_1 : Int), v4 = .int .i64 x4_1 ∧ Aside0 (pleacherref09_first.l0 kq a0 x4_1 = some (r1, r2, r3)) ∧ Aside0 (kq ≤ k) ∧ Aside0 (w'.heap[gb236]? = some (.cells #[.string (⟨#[]⟩ : ByteArray), .string (⟨#[]⟩ : ByteArray)] 31 (0, 0))) ∧ Aside0 (Below w.heap.size w w'))
    case atStart => exact ⟨(0), (by first | rfl | (simp; done) | (simp [*]; done)), H', ⟨Nat.le_refl _⟩, ⟨by (with_reducible repeat (first | refine blk_drewN ?_ _ | refine blk_drew ?_ | refine blk_alloc ?_ _)); exact BK236.out⟩, ⟨by repeat (first | (with_reducible first | exact HB.out | apply below_alloc | apply pw_below_drewN | apply below_drew1 | refine below_set ?_ GE236.out) | exact HB.out)⟩⟩
    case round =>
      clear H'
      try clear c2
      try clear p2
      obtain ⟨x4_1, rfl, HA, HK1, BK236, HB⟩ := hrel
      cases gk with
      | zero => exact absurd HA.out (by simp [pleacherref09_first.l0])
      | succ k1 =>
        have H := HA.out
        clear HA
        simp only [pleacherref09_first.l0] at H
        by_cases c4 : x4_1 < (a0.size : Int)
        · rw [if_pos c4] at H
          have c4b0 : decide (x4_1 < (a0.size : Int)) = true := decide_eq_true c4
          clear c4
          (first | rw [c4b0] | (simp only [i64_w, i32_w]; rw [c4b0]) | skip)
          by_cases c5 : x4_1 < 5
          · rw [if_pos c5] at H
            have c5b0 : decide (x4_1 < 5) = true := decide_eq_true c5
            clear c5
            by_cases c6 : 0 ≤ x4_1
            · rw [if_pos c6] at H
              have c6b0 : decide (0 ≤ x4_1) = true := decide_eq_true c6
              clear c6
              by_cases c8 : (bt a0 x4_1) = 32
              · rw [if_pos c8] at H
                have c8b0 : ((bt a0 x4_1) == 32) = true := beq_iff_eq.mpr c8
                have c8b1 : ((bt a0 x4_1) != 32) = false := bne_eq_false_iff_eq.mpr c8
                clear c8
                have H' := Aside0.mk H
                clear H
                have p7 : 0 ≤ (x4_1 : Int) := of_decide_eq_true (by first | (with_reducible assumption) | assumption)
                have q7 : x4_1 < (a0.size : Int) := of_decide_eq_true (by first | (with_reducible assumption) | assumption)
                have hx7 := bt_at a0 x4_1
                replace p7 := eq_true p7
                replace q7 := eq_true q7
                go_wp2
                go_meet
                case rel => exact ⟨_, (x4_1), (by first | rfl | (simp; done) | (simp [*]; done)), H', ⟨by have := HK1.out; first | omega | exact Nat.le_refl _⟩, ⟨by (with_reducible repeat (first | refine blk_drewN ?_ _ | refine blk_drew ?_ | refine blk_alloc ?_ _)); exact BK236.out⟩, ⟨by repeat (first | (with_reducible first | exact HB.out | apply below_alloc | apply pw_below_drewN | apply below_drew1 | refine below_set ?_ GE236.out) | exact HB.out)⟩⟩
              · rw [if_neg c8] at H
                have c8b0 : ((bt a0 x4_1) == 32) = false := beq_eq_false_iff_ne.mpr c8
                have c8b1 : ((bt a0 x4_1) != 32) = true := bne_iff_ne.mpr c8
                have H' := Aside0.mk H
                clear H
                have p7 : 0 ≤ (x4_1 : Int) := of_decide_eq_true (by first | (with_reducible assumption) | assumption)
                have q7 : x4_1 < (a0.size : Int) := of_decide_eq_true (by first | (with_reducible assumption) | assumption)
                have hx7 := bt_at a0 x4_1
                replace p7 := eq_true p7
                replace q7 := eq_true q7
                go_wp2
                go_roundg k1
                case measure => have := HK1.out; omega
                case rel => exact ⟨(wrap64 (x4_1 + 1)), (by first | rfl | (simp; done) | (simp [*]; done)), H', ⟨by have := HK1.out; omega⟩, ⟨by (with_reducible repeat (first | refine blk_drewN ?_ _ | refine blk_drew ?_ | refine blk_alloc ?_ _)); exact BK236.out⟩, ⟨by repeat (first | (with_reducible first | exact HB.out | apply below_alloc | apply pw_below_drewN | apply below_drew1 | refine below_set ?_ GE236.out) | exact HB.out)⟩⟩
            · rw [if_neg c6] at H
              exact absurd H (by simp)
          · rw [if_neg c5] at H
            have c5b0 : decide (x4_1 < 5) = false := decide_eq_false c5
            clear c5
            have H' := Aside0.mk H
            clear H
            go_wp2
            go_meet
            case rel => exact ⟨_, (x4_1), (by first | rfl | (simp; done) | (simp [*]; done)), H', ⟨by have := HK1.out; first | omega | exact Nat.le_refl _⟩, ⟨by (with_reducible repeat (first | refine blk_drewN ?_ _ | refine blk_drew ?_ | refine blk_alloc ?_ _)); exact BK236.out⟩, ⟨by repeat (first | (with_reducible first | exact HB.out | apply below_alloc | apply pw_below_drewN | apply below_drew1 | refine below_set ?_ GE236.out) | exact HB.out)⟩⟩
        · rw [if_neg c4] at H
          have c4b0 : decide (x4_1 < (a0.size : Int)) = false := decide_eq_false c4
          clear c4
          (first | rw [c4b0] | (simp only [i64_w, i32_w]; rw [c4b0]) | skip)
          have H' := Aside0.mk H
          clear H
          go_wp2
          go_meet
          case rel => exact ⟨_, (x4_1), (by first | rfl | (simp; done) | (simp [*]; done)), H', ⟨by have := HK1.out; first | omega | exact Nat.le_refl _⟩, ⟨by (with_reducible repeat (first | refine blk_drewN ?_ _ | refine blk_drew ?_ | refine blk_alloc ?_ _)); exact BK236.out⟩, ⟨by repeat (first | (with_reducible first | exact HB.out | apply below_alloc | apply pw_below_drewN | apply below_drew1 | refine below_set ?_ GE236.out) | exact HB.out)⟩⟩
  case rest =>
    clear HC2
    try clear c2
    try clear p2
    try clear c4
    try clear c4b0
    try clear c5
    try clear c5b0
    try clear c6
    try clear c6b0
    try clear p6
    try clear p7
    try clear q7
    try clear hx7
    try clear c8
    try clear c8b0
    try clear c8b1
    try clear p2
    try clear p7
    try clear q7
    obtain ⟨kq, x4_1, rfl, HA, HJ1, BK236, HB⟩ := hcut
    cases kq with
    | zero => exact absurd HA.out (by simp [pleacherref09_first.j1])
    | succ kj1 =>
      have H := HA.out
      clear HA
      simp only [pleacherref09_first.j1] at H
      by_cases c9 : 0 ≤ x4_1
      · rw [if_pos c9] at H
        have c9b0 := eq_true c9
        have c9b1 : decide (0 ≤ x4_1) = true := decide_eq_true c9
        clear c9
        by_cases c10 : x4_1 ≤ (a0.size : Int)
        · rw [if_pos c10] at H
          have c10b0 := eq_true c10
          have c10b1 : decide (x4_1 ≤ (a0.size : Int)) = true := decide_eq_true c10
          clear c10
          replace H := Option.bind_eq_some_iff.mp H
          obtain ⟨⟨t237, t238⟩, A110, H⟩ := H
          replace H : (if t238 = 0 then (if t237 > (IntKind.u64.wrap ((a0.size : Int))) then (pleacherref09_first.j2 kj1 a0 x4_1 t237 true) else (pleacherref09_first.j2 kj1 a0 x4_1 t237 (decide ((wrap64 (t237)) < (wrap64 (x4_1 + 2)))))) else (pleacherref09_first.j2 kj1 a0 x4_1 t237 true)) = some (r1, r2, r3) := H
          have A11 := Aside0.mk A110
          clear A110
          have HC12 := Aside0.mk H
          clear H
          go_upto_region 5 with (first | ((with_reducible refine gate_callee (f := 36) rfl ?_); refine goesL_ (some 32) rfl rfl Tryd.func36 (by kernel_rfl) rfl #[.int .i64 10, .string (a0.extract 0 (x4_1 : Int).toNat)] rfl (by (try simp only [List.map_toArray, List.map_cons, List.map_nil]); first | done | rfl | (simp only [List.length_drop, List.length_take]; rfl)) ?_; (with_reducible refine (pleacherref03_Own.calls kj1 10 (a0.extract 0 (x4_1 : Int).toNat) t237 t238 _ A11.out).mono ?_); rintro e w' ⟨rfl, ⟨nd, rfl⟩⟩; refine ⟨_, rfl, ?_⟩))
          (try simp only [Act.put, List.setIfInBounds_toArray, List.set_cons_zero, List.set_cons_succ])
          go_cut [50] (fun v50 wc => ∃ (kq : Nat) (x50_11 : Bool), v50 = .bool x50_11 ∧ Aside0 (pleacherref09_first.j2 kq a0 x4_1 t237 x50_11 = some (r1, r2, r3)) ∧ Aside0 (kq ≤ kj1) ∧ Aside0 (wc.heap[gb236]? = some (.cells #[.string (⟨#[]⟩ : ByteArray), .string (⟨#[]⟩ : ByteArray)] 31 (0, 0))) ∧ Aside0 (Below w.heap.size w wc))
          case first =>
            have H := HC12.out
            clear HC12
            by_cases c13 : t238 = 0
            · rw [if_pos c13] at H
              have c13b0 : (t238 == 0) = true := beq_iff_eq.mpr c13
              have c13b1 : (t238 != 0) = false := bne_eq_false_iff_eq.mpr c13
              clear c13
              (first | rw [c13b0] | (simp only [i64_w, i32_w]; rw [c13b0]) | skip)
              by_cases c14 : t237 > (IntKind.u64.wrap ((a0.size : Int)))
              · rw [if_pos c14] at H
                have c14b0 : decide ((IntKind.u64.wrap ((a0.size : Int))) < t237) = true := decide_eq_true c14
                clear c14
                have H' := Aside0.mk H
                clear H
                go_wp2
                go_meet
                case rel => exact ⟨_, (true), (by first | rfl | (simp; done) | (simp [*]; done)), H', ⟨by have := HJ1.out; first | omega | exact Nat.le_refl _⟩, ⟨by (with_reducible repeat (first | refine blk_drewN ?_ _ | refine blk_drew ?_ | refine blk_alloc ?_ _)); exact BK236.out⟩, ⟨by repeat (first | (with_reducible first | exact HB.out | apply below_alloc | apply pw_below_drewN | apply below_drew1 | refine below_set ?_ GE236.out) | exact HB.out)⟩⟩
              · rw [if_neg c14] at H
                have c14b0 : decide ((IntKind.u64.wrap ((a0.size : Int))) < t237) = false := decide_eq_false c14
                clear c14
                have H' := Aside0.mk H
                clear H
                go_wp2
                go_meet
                case rel => exact ⟨_, (decide ((wrap64 (t237)) < (wrap64 (x4_1 + 2)))), (by first | rfl | (simp; done) | (simp [*]; done)), H', ⟨by have := HJ1.out; first | omega | exact Nat.le_refl _⟩, ⟨by (with_reducible repeat (first | refine blk_drewN ?_ _ | refine blk_drew ?_ | refine blk_alloc ?_ _)); exact BK236.out⟩, ⟨by repeat (first | (with_reducible first | exact HB.out | apply below_alloc | apply pw_below_drewN | apply below_drew1 | refine below_set ?_ GE236.out) | exact HB.out)⟩⟩
            · rw [if_neg c13] at H
              have c13b0 : (t238 == 0) = false := beq_eq_false_iff_ne.mpr c13
              have c13b1 : (t238 != 0) = true := bne_iff_ne.mpr c13
              (first | rw [c13b0] | (simp only [i64_w, i32_w]; rw [c13b0]) | skip)
              have H' := Aside0.mk H
              clear H
              go_wp2
              go_meet
              case rel => exact ⟨_, (true), (by first | rfl | (simp; done) | (simp [*]; done)), H', ⟨by have := HJ1.out; first | omega | exact Nat.le_refl _⟩, ⟨by (with_reducible repeat (first | refine blk_drewN ?_ _ | refine blk_drew ?_ | refine blk_alloc ?_ _)); exact BK236.out⟩, ⟨by repeat (first | (with_reducible first | exact HB.out | apply below_alloc | apply pw_below_drewN | apply below_drew1 | refine below_set ?_ GE236.out) | exact HB.out)⟩⟩
          case rest =>
            clear HC12
            try clear c1
            try clear c2
            try clear p2
            try clear c3
            try clear c4
            try clear c4b0
            try clear c5
            try clear c5b0
            try clear c6
            try clear c6b0
            try clear p6
            try clear p7
            try clear q7
            try clear hx7
            try clear c8
            try clear c8b0
            try clear c8b1
            try clear c9
            try clear c9b0
            try clear c9b1
            try clear c10
            try clear c10b0
            try clear c10b1
            try clear c13
            try clear c13b0
            try clear c13b1
            try clear c14
            try clear c14b0
            try clear p2
            try clear p6
            try clear p7
            try clear q7
            obtain ⟨kq, x50_11, rfl, HA, HJ11, BK236, HB⟩ := hcut
            cases kq with
            | zero => exact absurd HA.out (by simp [pleacherref09_first.j2])
            | succ kj11 =>
              have H := HA.out
              clear HA
              simp only [pleacherref09_first.j2] at H
              by_cases c15 : x50_11 = true
              · subst c15
                have H1 : (some ((⟨#[]⟩ : ByteArray), (⟨#[]⟩ : ByteArray), 0)) = some (r1, r2, r3) := by rw [if_pos rfl] at H; exact H
                clear H
                have H := H1
                clear H1
                simp only [Option.some.injEq, Prod.mk.injEq] at H
                obtain ⟨rfl, rfl, rfl⟩ := H
                have hcz16_0 : wc.cell? ⟨gb236, 0, none⟩ = some (.string (⟨#[]⟩ : ByteArray)) := (blk_cell BK236.out 0).trans rfl
                have hcz16_1 : wc.cell? ⟨gb236, 1, none⟩ = some (.string (⟨#[]⟩ : ByteArray)) := (blk_cell BK236.out 1).trans rfl
                have hfz16_0 := blk_frozen BK236.out 0
                have hfz16_1 := blk_frozen BK236.out 1
                go_wp2
                refine bodyPost_ret (results_ct rfl _ _ gb236 31 #[.string (⟨#[]⟩ : ByteArray), .string (⟨#[]⟩ : ByteArray)] (0, 0) _ rfl (by (with_reducible repeat (first | refine blk_drewN ?_ _ | refine blk_drew ?_ | refine blk_alloc ?_ _)); refine blk_put (cs := #[.string (⟨#[]⟩ : ByteArray), .string (⟨#[]⟩ : ByteArray)]) ?_ 1 _ rfl; (with_reducible repeat (first | refine blk_drewN ?_ _ | refine blk_drew ?_ | refine blk_alloc ?_ _)); refine blk_put (cs := #[.string (⟨#[]⟩ : ByteArray), .string (⟨#[]⟩ : ByteArray)]) ?_ 0 _ rfl; (with_reducible repeat (first | refine blk_drewN ?_ _ | refine blk_drew ?_ | refine blk_alloc ?_ _)); exact BK236.out) Tryd.underlying31 rfl (by kernel_rfl)) rfl ?_
                exact ⟨by first | rfl | (simp [errW_none, errW_some] <;> rfl) | (simp [*, errW_none, errW_some] <;> rfl), by repeat (first | (with_reducible first | exact HB.out | apply below_alloc | apply pw_below_drewN | apply below_drew1 | refine below_set ?_ GE236.out) | exact HB.out)⟩
              · replace c15 := Bool.eq_false_iff.mpr c15
                subst c15
                have H1 : (if 0 ≤ (wrap64 (x4_1 + 1)) then (if (wrap64 (x4_1 + 1)) ≤ (IntKind.u64.wrap (t237 - 1)) then (if (IntKind.u64.wrap (t237 - 1)) ≤ (a0.size : Int) then (pleacherref09_first.l1 kj11 a0 t237 (a0.extract ((wrap64 (x4_1 + 1)) : Int).toNat ((IntKind.u64.wrap (t237 - 1)) : Int).toNat) 0) else (none)) else (none)) else (none)) = some (r1, r2, r3) := by rw [if_neg (show ¬ (false = true) by decide)] at H; exact H
                clear H
                have H := H1
                clear H1
                obtain ⟨ji17, hji17⟩ : ∃ j_ : Int, (wrap64 (x4_1 + 1)) = j_ := ⟨_, rfl⟩
                replace H : (if 0 ≤ (ji17) then (if (ji17) ≤ (IntKind.u64.wrap (t237 - 1)) then (if (IntKind.u64.wrap (t237 - 1)) ≤ (a0.size : Int) then (pleacherref09_first.l1 kj11 a0 t237 (a0.extract ((ji17) : Int).toNat ((IntKind.u64.wrap (t237 - 1)) : Int).toNat) 0) else (none)) else (none)) else (none)) = some (r1, r2, r3) := by first | (rw [hji17] at H; exact H) | (simp only [hji17] at H ⊢; exact H)
                have hji17w : (IntKind.i64.wrap (x4_1 + 1)) = ji17 := (i64_w _).trans hji17
                by_cases c18 : 0 ≤ (ji17)
                · rw [if_pos c18] at H
                  have c18b0 := eq_true c18
                  have c18b1 : decide (0 ≤ (ji17)) = true := decide_eq_true c18
                  clear c18
                  by_cases c19 : (ji17) ≤ (IntKind.u64.wrap (t237 - 1))
                  · rw [if_pos c19] at H
                    have c19b0 := eq_true c19
                    have c19b1 : decide ((ji17) ≤ (IntKind.u64.wrap (t237 - 1))) = true := decide_eq_true c19
                    clear c19
                    by_cases c20 : (IntKind.u64.wrap (t237 - 1)) ≤ (a0.size : Int)
                    · rw [if_pos c20] at H
                      have c20b0 := eq_true c20
                      have c20b1 : decide ((IntKind.u64.wrap (t237 - 1)) ≤ (a0.size : Int)) = true := decide_eq_true c20
                      clear c20
                      have HC21 := Aside0.mk H
                      clear H
                      go_upto_block 2 with (fail)
                      generalize hbd : a0.extract ((ji17) : Int).toNat ((IntKind.u64.wrap (t237 - 1)) : Int).toNat = bd at HC21 ⊢
                      go_cut [8] (fun v8 wc => ∃ (kq : Nat) (x8_20 : Int), v8 = .int .i64 x8_20 ∧ Aside0 (pleacherref09_first.j4 kq a0 t237 bd x8_20 = some (r1, r2, r3)) ∧ Aside0 (kq ≤ kj11) ∧ Aside0 (wc.heap[gb236]? = some (.cells #[.string (⟨#[]⟩ : ByteArray), .string (⟨#[]⟩ : ByteArray)] 31 (0, 0))) ∧ Aside0 (Below w.heap.size w wc))
                      case first =>
                        have H := HC21.out
                        clear HC21
                        have H' := Aside0.mk H
                        clear H
                        go_wp2
                        go_loopg [8] kj11 (fun kq v8 w' => ∃ (x8_3 : Int), v8 = .int .i64 x8_3 ∧ Aside0 (pleacherref09_first.l1 kq a0 t237 bd x8_3 = some (r1, r2, r3)) ∧ Aside0 (kq ≤ kj11) ∧ Aside0 (w'.heap[gb236]? = some (.cells #[.string (⟨#[]⟩ : ByteArray), .string (⟨#[]⟩ : ByteArray)] 31 (0, 0))) ∧ Aside0 (Below w.heap.size w w'))
                        case atStart => exact ⟨(0), (by first | rfl | (simp; done) | (simp [*]; done)), H', ⟨Nat.le_refl _⟩, ⟨by (with_reducible repeat (first | refine blk_drewN ?_ _ | refine blk_drew ?_ | refine blk_alloc ?_ _)); exact BK236.out⟩, ⟨by repeat (first | (with_reducible first | exact HB.out | apply below_alloc | apply pw_below_drewN | apply below_drew1 | refine below_set ?_ GE236.out) | exact HB.out)⟩⟩
                        case round =>
                          clear H'
                          try clear c1
                          try clear c2
                          try clear p2
                          try clear c3
                          try clear c4
                          try clear c4b0
                          try clear c5
                          try clear c5b0
                          try clear c6
                          try clear c6b0
                          try clear p6
                          try clear p7
                          try clear q7
                          try clear hx7
                          try clear c8
                          try clear c8b0
                          try clear c8b1
                          try clear c9
                          try clear c9b0
                          try clear c9b1
                          try clear c10
                          try clear c10b0
                          try clear c10b1
                          try clear c13
                          try clear c13b0
                          try clear c13b1
                          try clear c14
                          try clear c14b0
                          try clear c15
                          try clear c18
                          try clear c18b0
                          try clear c18b1
                          try clear c19
                          try clear c19b0
                          try clear c19b1
                          try clear c20
                          try clear c20b0
                          try clear c20b1
                          try clear hcz16_0
                          try clear hcz16_1
                          try clear hfz16_0
                          try clear hfz16_1
                          try clear p2
                          try clear p6
                          try clear p7
                          try clear q7
                          obtain ⟨x8_3, rfl, HA, HK3, BK236, HB⟩ := hrel
                          cases gk with
                          | zero => exact absurd HA.out (by simp [pleacherref09_first.l1])
                          | succ k3 =>
                            have H := HA.out
                            clear HA
                            simp only [pleacherref09_first.l1] at H
                            by_cases c22 : x8_3 < (bd.size : Int)
                            · rw [if_pos c22] at H
                              have c22b0 : decide (x8_3 < (bd.size : Int)) = true := decide_eq_true c22
                              clear c22
                              (first | rw [c22b0] | (simp only [i64_w, i32_w]; rw [c22b0]) | skip)
                              by_cases c23 : 0 ≤ x8_3
                              · rw [if_pos c23] at H
                                have c23b0 : decide (0 ≤ x8_3) = true := decide_eq_true c23
                                clear c23
                                by_cases c25 : (bt bd x8_3) = 61
                                · rw [if_pos c25] at H
                                  have c25b0 : ((bt bd x8_3) == 61) = true := beq_iff_eq.mpr c25
                                  have c25b1 : ((bt bd x8_3) != 61) = false := bne_eq_false_iff_eq.mpr c25
                                  clear c25
                                  have H' := Aside0.mk H
                                  clear H
                                  have p24 : 0 ≤ (x8_3 : Int) := of_decide_eq_true (by first | (with_reducible assumption) | assumption)
                                  have q24 : x8_3 < (bd.size : Int) := of_decide_eq_true (by first | (with_reducible assumption) | assumption)
                                  have hx24 := bt_at bd x8_3
                                  replace p24 := eq_true p24
                                  replace q24 := eq_true q24
                                  go_wp2
                                  go_meet
                                  case rel => exact ⟨_, (x8_3), (by first | rfl | (simp; done) | (simp [*]; done)), H', ⟨by have := HJ1.out; have := HJ11.out; have := HK3.out; first | omega | exact Nat.le_refl _⟩, ⟨by (with_reducible repeat (first | refine blk_drewN ?_ _ | refine blk_drew ?_ | refine blk_alloc ?_ _)); exact BK236.out⟩, ⟨by repeat (first | (with_reducible first | exact HB.out | apply below_alloc | apply pw_below_drewN | apply below_drew1 | refine below_set ?_ GE236.out) | exact HB.out)⟩⟩
                                · rw [if_neg c25] at H
                                  have c25b0 : ((bt bd x8_3) == 61) = false := beq_eq_false_iff_ne.mpr c25
                                  have c25b1 : ((bt bd x8_3) != 61) = true := bne_iff_ne.mpr c25
                                  have H' := Aside0.mk H
                                  clear H
                                  have p24 : 0 ≤ (x8_3 : Int) := of_decide_eq_true (by first | (with_reducible assumption) | assumption)
                                  have q24 : x8_3 < (bd.size : Int) := of_decide_eq_true (by first | (with_reducible assumption) | assumption)
                                  have hx24 := bt_at bd x8_3
                                  replace p24 := eq_true p24
                                  replace q24 := eq_true q24
                                  go_wp2
                                  go_roundg k3
                                  case measure => have := HJ1.out; have := HJ11.out; have := HK3.out; omega
                                  case rel => exact ⟨(wrap64 (x8_3 + 1)), (by first | rfl | (simp; done) | (simp [*]; done)), H', ⟨by have := HJ1.out; have := HJ11.out; have := HK3.out; omega⟩, ⟨by (with_reducible repeat (first | refine blk_drewN ?_ _ | refine blk_drew ?_ | refine blk_alloc ?_ _)); exact BK236.out⟩, ⟨by repeat (first | (with_reducible first | exact HB.out | apply below_alloc | apply pw_below_drewN | apply below_drew1 | refine below_set ?_ GE236.out) | exact HB.out)⟩⟩
                              · rw [if_neg c23] at H
                                exact absurd H (by simp)
                            · rw [if_neg c22] at H
                              have c22b0 : decide (x8_3 < (bd.size : Int)) = false := decide_eq_false c22
                              clear c22
                              (first | rw [c22b0] | (simp only [i64_w, i32_w]; rw [c22b0]) | skip)
                              have H' := Aside0.mk H
                              clear H
                              go_wp2
                              go_meet
                              case rel => exact ⟨_, (x8_3), (by first | rfl | (simp; done) | (simp [*]; done)), H', ⟨by have := HJ1.out; have := HJ11.out; have := HK3.out; first | omega | exact Nat.le_refl _⟩, ⟨by (with_reducible repeat (first | refine blk_drewN ?_ _ | refine blk_drew ?_ | refine blk_alloc ?_ _)); exact BK236.out⟩, ⟨by repeat (first | (with_reducible first | exact HB.out | apply below_alloc | apply pw_below_drewN | apply below_drew1 | refine below_set ?_ GE236.out) | exact HB.out)⟩⟩
                      case rest =>
                        clear HC21
                        try clear c1
                        try clear c2
                        try clear p2
                        try clear q2
                        try clear hx2
                        try clear c3
                        try clear c4
                        try clear c4b0
                        try clear c5
                        try clear c5b0
                        try clear c6
                        try clear c6b0
                        try clear p6
                        try clear p7
                        try clear q7
                        try clear hx7
                        try clear c8
                        try clear c8b0
                        try clear c8b1
                        try clear c9
                        try clear c9b0
                        try clear c9b1
                        try clear c10
                        try clear c10b0
                        try clear c10b1
                        try clear c13
                        try clear c13b0
                        try clear c13b1
                        try clear c14
                        try clear c14b0
                        try clear c15
                        try clear c18
                        try clear c18b0
                        try clear c18b1
                        try clear c19
                        try clear c19b0
                        try clear c19b1
                        try clear c20
                        try clear c20b0
                        try clear c20b1
                        try clear c22
                        try clear c22b0
                        try clear c23
                        try clear c23b0
                        try clear c24
                        try clear p24
                        try clear q24
                        try clear hx24
                        try clear c25
                        try clear c25b0
                        try clear c25b1
                        try clear hcz16_0
                        try clear hcz16_1
                        try clear hfz16_0
                        try clear hfz16_1
                        try clear p2
                        try clear p24
                        try clear p6
                        try clear p7
                        try clear q24
                        try clear q7
                        obtain ⟨kq, x8_20, rfl, HA, HJ20, BK236, HB⟩ := hcut
                        cases kq with
                        | zero => exact absurd HA.out (by simp [pleacherref09_first.j4])
                        | succ kj20 =>
                          have H := HA.out
                          clear HA
                          simp only [pleacherref09_first.j4] at H
                          by_cases c26 : x8_20 = (bd.size : Int)
                          · rw [if_pos c26] at H
                            have c26b0 : (x8_20 == (bd.size : Int)) = true := beq_iff_eq.mpr c26
                            have c26b1 : (x8_20 != (bd.size : Int)) = false := bne_eq_false_iff_eq.mpr c26
                            clear c26
                            simp only [Option.some.injEq, Prod.mk.injEq] at H
                            obtain ⟨rfl, rfl, rfl⟩ := H
                            have hcz27_0 : wc.cell? ⟨gb236, 0, none⟩ = some (.string (⟨#[]⟩ : ByteArray)) := (blk_cell BK236.out 0).trans rfl
                            have hcz27_1 : wc.cell? ⟨gb236, 1, none⟩ = some (.string (⟨#[]⟩ : ByteArray)) := (blk_cell BK236.out 1).trans rfl
                            have hfz27_0 := blk_frozen BK236.out 0
                            have hfz27_1 := blk_frozen BK236.out 1
                            go_wp2
                            refine bodyPost_ret (results_ct rfl _ _ gb236 31 #[.string (⟨#[]⟩ : ByteArray), .string (⟨#[]⟩ : ByteArray)] (0, 0) _ rfl (by (with_reducible repeat (first | refine blk_drewN ?_ _ | refine blk_drew ?_ | refine blk_alloc ?_ _)); refine blk_put (cs := #[.string (⟨#[]⟩ : ByteArray), .string (⟨#[]⟩ : ByteArray)]) ?_ 1 _ rfl; (with_reducible repeat (first | refine blk_drewN ?_ _ | refine blk_drew ?_ | refine blk_alloc ?_ _)); refine blk_put (cs := #[.string (⟨#[]⟩ : ByteArray), .string (⟨#[]⟩ : ByteArray)]) ?_ 0 _ rfl; (with_reducible repeat (first | refine blk_drewN ?_ _ | refine blk_drew ?_ | refine blk_alloc ?_ _)); exact BK236.out) Tryd.underlying31 rfl (by kernel_rfl)) rfl ?_
                            exact ⟨by first | rfl | (simp [errW_none, errW_some] <;> rfl) | (simp only [← hji17]; first | rfl | (simp [errW_none, errW_some] <;> rfl)) | (simp [*, errW_none, errW_some] <;> rfl), by repeat (first | (with_reducible first | exact HB.out | apply below_alloc | apply pw_below_drewN | apply below_drew1 | refine below_set ?_ GE236.out) | exact HB.out)⟩
                          · rw [if_neg c26] at H
                            have c26b0 : (x8_20 == (bd.size : Int)) = false := beq_eq_false_iff_ne.mpr c26
                            have c26b1 : (x8_20 != (bd.size : Int)) = true := bne_iff_ne.mpr c26
                            by_cases c28 : 0 ≤ x8_20
                            · rw [if_pos c28] at H
                              have c28b0 := eq_true c28
                              have c28b1 : decide (0 ≤ x8_20) = true := decide_eq_true c28
                              clear c28
                              by_cases c29 : x8_20 ≤ (bd.size : Int)
                              · rw [if_pos c29] at H
                                have c29b0 := eq_true c29
                                have c29b1 : decide (x8_20 ≤ (bd.size : Int)) = true := decide_eq_true c29
                                clear c29
                                obtain ⟨ji30, hji30⟩ : ∃ j_ : Int, (wrap64 (x8_20 + 1)) = j_ := ⟨_, rfl⟩
                                replace H : (if 0 ≤ (ji30) then (if (ji30) ≤ (bd.size : Int) then ((pleacherref09_One.f (bd.extract 0 (x8_20 : Int).toNat) (bd.extract ((ji30) : Int).toNat bd.size)).bind fun bt240 => (if bt240.2 = 0 then (if 0 ≤ t237 then (if t237 ≤ (a0.size : Int) then (if bt240.1.toList = (a0.extract 0 (t237 : Int).toNat).toList then (some (bd.extract 0 (x8_20 : Int).toNat, bd.extract ((ji30) : Int).toNat bd.size, wrap64 (t237))) else (some ((⟨#[]⟩ : ByteArray), (⟨#[]⟩ : ByteArray), 0))) else (none)) else (none)) else (some ((⟨#[]⟩ : ByteArray), (⟨#[]⟩ : ByteArray), 0)))) else (none)) else (none)) = some (r1, r2, r3) := by first | (rw [hji30] at H; exact H) | (simp only [hji30] at H ⊢; exact H)
                                have hji30w : (IntKind.i64.wrap (x8_20 + 1)) = ji30 := (i64_w _).trans hji30
                                by_cases c31 : 0 ≤ (ji30)
                                · rw [if_pos c31] at H
                                  have c31b0 := eq_true c31
                                  have c31b1 : decide (0 ≤ (ji30)) = true := decide_eq_true c31
                                  clear c31
                                  by_cases c32 : (ji30) ≤ (bd.size : Int)
                                  · rw [if_pos c32] at H
                                    have c32b0 := eq_true c32
                                    have c32b1 : decide ((ji30) ≤ (bd.size : Int)) = true := decide_eq_true c32
                                    clear c32
                                    replace H := Option.bind_eq_some_iff.mp H
                                    obtain ⟨⟨t240, t241⟩, A330, H⟩ := H
                                    replace H : (if t241 = 0 then (if 0 ≤ t237 then (if t237 ≤ (a0.size : Int) then (if t240.toList = (a0.extract 0 (t237 : Int).toNat).toList then (some (bd.extract 0 (x8_20 : Int).toNat, bd.extract ((ji30) : Int).toNat bd.size, wrap64 (t237))) else (some ((⟨#[]⟩ : ByteArray), (⟨#[]⟩ : ByteArray), 0))) else (none)) else (none)) else (some ((⟨#[]⟩ : ByteArray), (⟨#[]⟩ : ByteArray), 0))) = some (r1, r2, r3) := H
                                    have A33 := Aside0.mk A330
                                    clear A330
                                    by_cases c34 : t241 = 0
                                    · rw [if_pos c34] at H
                                      have c34b0 : (t241 == 0) = true := beq_iff_eq.mpr c34
                                      have c34b1 : (t241 != 0) = false := bne_eq_false_iff_eq.mpr c34
                                      clear c34
                                      by_cases c35 : 0 ≤ t237
                                      · rw [if_pos c35] at H
                                        have c35b0 := eq_true c35
                                        have c35b1 : decide (0 ≤ t237) = true := decide_eq_true c35
                                        clear c35
                                        by_cases c36 : t237 ≤ (a0.size : Int)
                                        · rw [if_pos c36] at H
                                          have c36b0 := eq_true c36
                                          have c36b1 : decide (t237 ≤ (a0.size : Int)) = true := decide_eq_true c36
                                          clear c36
                                          by_cases c37 : t240.toList = (a0.extract 0 (t237 : Int).toNat).toList
                                          · rw [if_pos c37] at H
                                            have c37b0 : (t240.toList == (a0.extract 0 (t237 : Int).toNat).toList) = true := beq_iff_eq.mpr c37
                                            have c37b1 : (t240.toList != (a0.extract 0 (t237 : Int).toNat).toList) = false := bne_eq_false_iff_eq.mpr c37
                                            clear c37
                                            simp only [Option.some.injEq, Prod.mk.injEq] at H
                                            obtain ⟨rfl, rfl, rfl⟩ := H
                                            try go_wp2
                                            have n0_ := Aside0.mk (blk_drew BK236.out)
                                            have n1_ := Aside0.mk (below_drew1 HB.out)
                                            clear BK236
                                            clear HB
                                            have BK236 := n0_
                                            have HB := n1_
                                            clear n0_ n1_
                                            refine start_ (n := 10) (S := fun w' => True) (ds := []) #[false, false, false, false, false, false, false, false, false, false] (by kernel_rfl) rfl rfl trivial (fun hHeld => ?_); refine with_tabW pleacherref09_first.tab13 pleacherref09_first.bits13 (fun HT_ HW_ => ?_)
                                            generalize wc.drew = w38 at BK236 HB hHeld ⊢
                                            refine pure_ (i := 0) (N := some 75) (v := ?_) (a' := ?_) #[true, false, false, false, false, false, false, false, false, false] rfl rfl (any_of HT_.out (by kernel_rfl)) (fun _ _ _ h => h) (Or.inl ⟨by rfl, ?_⟩) ?_ ?_
                                            rotate_left
                                            · intro w'
                                              go_simp
                                              with_reducible rfl
                                            rotate_left
                                            · simp only [Act.put, List.setIfInBounds_toArray, List.set_cons_zero, List.set_cons_succ, i64_w, i32_w]
                                              rfl
                                            refine pure_ (i := 1) (N := some 76) (v := ?_) (a' := ?_) #[true, true, false, false, false, false, false, false, false, false] rfl rfl (any_of HT_.out (by kernel_rfl)) (fun _ _ _ h => h) (Or.inl ⟨by rfl, ?_⟩) ?_ ?_
                                            rotate_left
                                            · intro w'
                                              go_simp
                                              with_reducible rfl
                                            rotate_left
                                            · simp only [Act.put, List.setIfInBounds_toArray, List.set_cons_zero, List.set_cons_succ, i64_w, i32_w]
                                              rfl
                                            refine pure_ (i := 2) (N := some 77) (v := ?_) (a' := ?_) #[true, true, true, false, false, false, false, false, false, false] rfl rfl (any_of HT_.out (by kernel_rfl)) (fun _ _ _ h => h) (Or.inl ⟨by rfl, ?_⟩) ?_ ?_
                                            rotate_left
                                            · intro w'
                                              go_simp
                                              with_reducible rfl
                                            rotate_left
                                            · simp only [Act.put, List.setIfInBounds_toArray, List.set_cons_zero, List.set_cons_succ, i64_w, i32_w]
                                              rfl
                                            refine pure_ (i := 3) (N := some 78) (v := ?_) (a' := ?_) #[true, true, true, true, false, false, false, false, false, false] rfl rfl (any_of HT_.out (by kernel_rfl)) (fun _ _ _ h => h) (Or.inl ⟨by rfl, ?_⟩) ?_ ?_
                                            rotate_left
                                            · intro w'
                                              go_simp
                                              with_reducible rfl
                                            rotate_left
                                            · simp only [Act.put, List.setIfInBounds_toArray, List.set_cons_zero, List.set_cons_succ, i64_w, i32_w]
                                              rfl
                                            refine pure_ (i := 4) (N := some 79) (v := ?_) (a' := ?_) #[true, true, true, true, true, false, false, false, false, false] rfl rfl (any_of HT_.out (by kernel_rfl)) (fun _ _ _ h => h) (Or.inl ⟨by rfl, ?_⟩) ?_ ?_
                                            rotate_left
                                            · intro w'
                                              go_simp
                                              with_reducible rfl
                                            rotate_left
                                            · simp only [Act.put, List.setIfInBounds_toArray, List.set_cons_zero, List.set_cons_succ, i64_w, i32_w]
                                              rfl
                                            refine pure_ (i := 5) (N := some 80) (v := ?_) (a' := ?_) #[true, true, true, true, true, true, false, false, false, false] rfl rfl (any_of HT_.out (by kernel_rfl)) (fun _ _ _ h => h) (Or.inl ⟨by rfl, ?_⟩) ?_ ?_
                                            rotate_left
                                            · intro w'
                                              go_simp
                                              with_reducible rfl
                                            rotate_left
                                            · simp only [Act.put, List.setIfInBounds_toArray, List.set_cons_zero, List.set_cons_succ, i64_w, i32_w]
                                              rfl
                                            refine pure_ (i := 6) (N := some 81) (v := ?_) (a' := ?_) #[true, true, true, true, true, true, true, false, false, false] rfl rfl (any_of HT_.out (by kernel_rfl)) (fun _ _ _ h => h) (Or.inl ⟨by rfl, ?_⟩) ?_ ?_
                                            rotate_left
                                            · intro w'
                                              go_simp
                                              with_reducible rfl
                                            rotate_left
                                            · simp only [Act.put, List.setIfInBounds_toArray, List.set_cons_zero, List.set_cons_succ, i64_w, i32_w]
                                              rfl
                                            refine pure_ (i := 7) (N := some 82) (v := ?_) (a' := ?_) #[true, true, true, true, true, true, true, true, false, false] rfl rfl (any_of HT_.out (by kernel_rfl)) (fun _ _ _ h => h) (Or.inl ⟨by rfl, ?_⟩) ?_ ?_
                                            rotate_left
                                            · intro w'
                                              go_simp
                                              with_reducible rfl
                                            rotate_left
                                            · simp only [Act.put, List.setIfInBounds_toArray, List.set_cons_zero, List.set_cons_succ, i64_w, i32_w]
                                              rfl
                                            refine one_ (i := 8) (N := some 9) #[true, true, true, true, true, true, true, true, true, false] rfl rfl (one_of HT_.out (by kernel_rfl)) (by decide) (fun K hK => ?_)
                                            refine box_step ?hg (N := 9) ?hd (cs := #[.string (⟨#[]⟩ : ByteArray), .string (⟨#[]⟩ : ByteArray)]) (t := 31) ?hr ?_; (case hd => rfl); (case hg => rfl); (case hr => first | (go_simp; done) | (go_simp; rfl))
                                            intro gb239 hg w39 hbox hb
                                            have n0_ := Aside0.mk (blk_below (g := gb236) (o := .cells #[.string (⟨#[]⟩ : ByteArray), .string (⟨#[]⟩ : ByteArray)] 31 (0, 0)) (by (with_reducible repeat (first | refine blk_drewN ?_ _ | refine blk_drew ?_ | refine blk_alloc ?_ _)); exact BK236.out) hb)
                                            have n1_ := Aside0.mk (below_step (by repeat (first | (with_reducible first | exact HB.out | apply below_alloc | apply pw_below_drewN | apply below_drew1 | refine below_set ?_ GE236.out) | exact HB.out)) hb)
                                            have n2_ := Aside0.mk (hbox)
                                            have n3_ := Aside0.mk ((by rw [hg]; exact (below_size (by repeat (first | (with_reducible first | exact HB.out | apply below_alloc | apply pw_below_drewN | apply below_drew1 | refine below_set ?_ GE236.out) | exact HB.out))) : w.heap.size ≤ gb239))
                                            have n4_ := Aside0.mk ((by rw [hg]; exact (below_size (by repeat (first | (with_reducible first | exact HB.out | apply below_alloc | apply pw_below_drewN | apply below_drew1 | refine below_set ?_ GE236.out) | exact HB.out))) : w.heap.size ≤ gb239))
                                            have n5_ := Aside0.mk ((by rw [hg]; exact Nat.ne_of_lt (blk_lt (g := gb236) (o := .cells #[.string (⟨#[]⟩ : ByteArray), .string (⟨#[]⟩ : ByteArray)] 31 (0, 0)) (by (with_reducible repeat (first | refine blk_drewN ?_ _ | refine blk_drew ?_ | refine blk_alloc ?_ _)); exact BK236.out)) : gb236 ≠ gb239))
                                            have n6_ := Aside0.mk ((by rw [hg]; exact Nat.ne_of_gt (blk_lt (g := gb236) (o := .cells #[.string (⟨#[]⟩ : ByteArray), .string (⟨#[]⟩ : ByteArray)] 31 (0, 0)) (by (with_reducible repeat (first | refine blk_drewN ?_ _ | refine blk_drew ?_ | refine blk_alloc ?_ _)); exact BK236.out)) : gb239 ≠ gb236))
                                            clear BK236
                                            clear HB
                                            have BK236 := n0_
                                            have HB := n1_
                                            have BK239 := n2_
                                            have GW239 := n3_
                                            have GE239 := n4_
                                            have NB236_239 := n5_
                                            have NB239_236 := n6_
                                            clear n0_ n1_ n2_ n3_ n4_ n5_ n6_
                                            clear hb hbox hg
                                            refine hK.out _ _ trivial (fun hHeld => ?_)
                                            clear hK K
                                            refine norm_ (a' := ?_) ?_ ?_
                                            rotate_left
                                            · show Act.put _ (some 9) _ = _
                                              simp only [Act.put, List.setIfInBounds_toArray, List.set_cons_zero, List.set_cons_succ, i64_w, i32_w]
                                              rfl
                                            refine one_ (i := 9) (N := none) #[true, true, true, true, true, true, true, true, true, true] rfl rfl (one_of HT_.out (by kernel_rfl)) (by decide) (fun K hK => ?_)
                                            have hs40 : w39.cell? ⟨gb239, 0, none⟩ = some (.string (⟨#[]⟩ : ByteArray)) := (blk_cell BK239.out 0).trans rfl
                                            have hfs40 := blk_frozen BK239.out 0
                                            have hns40_0 := NB236_239.out
                                            have hms40_0 := NB239_236.out
                                            have hs41 : w39.cell? ⟨gb239, 1, none⟩ = some (.string (⟨#[]⟩ : ByteArray)) := (blk_cell BK239.out 1).trans rfl
                                            have hfs41 := blk_frozen BK239.out 1
                                            have hns41_0 := NB236_239.out
                                            have hms41_0 := NB239_236.out
                                            refine skip_ (w1 := ?_) (by rfl) rfl ?_ ?_
                                            rotate_left
                                            · go_simp
                                              rfl
                                            refine hK.out _ _ trivial (fun hHeld => ?_)
                                            clear hK K
                                            refine done_ (done_of HT_.out (by kernel_rfl)) ?_
                                            have hnb42 := NB239_236.out
                                            have hnc42 := NB236_239.out
                                            have hcz43_0 : w39.cell? ⟨gb239, 0, none⟩ = some (.string (⟨#[]⟩ : ByteArray)) := (blk_cell BK239.out 0).trans rfl
                                            have hcz43_1 : w39.cell? ⟨gb239, 1, none⟩ = some (.string (⟨#[]⟩ : ByteArray)) := (blk_cell BK239.out 1).trans rfl
                                            have hfz43_0 := blk_frozen BK239.out 0
                                            have hfz43_1 := blk_frozen BK239.out 1
                                            try go_wp2_with (first | ((with_reducible refine gate_callee (f := 19) rfl ?_); refine goesL_ (some 85) rfl rfl Tryd.func19 (by kernel_rfl) rfl #[.agg #[.string (bd.extract 0 (x8_20 : Int).toNat), .string (bd.extract ((ji30) : Int).toNat bd.size)]] rfl (by (try simp only [List.map_toArray, List.map_cons, List.map_nil]); first | done | (simp only [hji17, hji30]; rfl) | rfl | (simp only [List.length_drop, List.length_take]; rfl)) ?_; (with_reducible refine (pleacherref09_One.calls (bd.extract 0 (x8_20 : Int).toNat) (bd.extract ((ji30) : Int).toNat bd.size) t240 t241 _ A33.out).mono ?_); rintro e w44 ⟨rfl, hb⟩; refine ⟨_, rfl, ?_⟩; have n0_ := Aside0.mk (blk_below (g := gb236) (o := .cells #[.string (⟨#[]⟩ : ByteArray), .string (⟨#[]⟩ : ByteArray)] 31 (0, 0)) (by (with_reducible repeat (first | refine blk_drewN ?_ _ | refine blk_drew ?_ | refine blk_alloc ?_ _)); refine blk_far ?_ NB236_239.out _; (with_reducible repeat (first | refine blk_drewN ?_ _ | refine blk_drew ?_ | refine blk_alloc ?_ _)); refine blk_far ?_ NB236_239.out _; (with_reducible repeat (first | refine blk_drewN ?_ _ | refine blk_drew ?_ | refine blk_alloc ?_ _)); exact BK236.out) hb); have n1_ := Aside0.mk (blk_below (g := gb239) (o := .cells #[.string (bd.extract 0 (x8_20 : Int).toNat), .string (bd.extract ((ji30) : Int).toNat bd.size)] 31 (0, 0)) (by (with_reducible repeat (first | refine blk_drewN ?_ _ | refine blk_drew ?_ | refine blk_alloc ?_ _)); refine blk_put (cs := #[.string (bd.extract 0 (x8_20 : Int).toNat), .string (⟨#[]⟩ : ByteArray)]) ?_ 1 _ rfl; (with_reducible repeat (first | refine blk_drewN ?_ _ | refine blk_drew ?_ | refine blk_alloc ?_ _)); refine blk_put (cs := #[.string (⟨#[]⟩ : ByteArray), .string (⟨#[]⟩ : ByteArray)]) ?_ 0 _ rfl; (with_reducible repeat (first | refine blk_drewN ?_ _ | refine blk_drew ?_ | refine blk_alloc ?_ _)); exact BK239.out) hb); have n2_ := Aside0.mk (below_step (by repeat (first | (with_reducible first | exact HB.out | apply below_alloc | apply pw_below_drewN | apply below_drew1 | refine below_set ?_ GE236.out | refine below_set ?_ GE239.out) | exact HB.out)) hb); clear BK236; clear BK239; clear HB; have BK236 := n0_; have BK239 := n1_; have HB := n2_; clear n0_ n1_ n2_; (try clear hb); (try clear hb2); (try clear hk); (try clear hi); have hcz45_0 : w44.cell? ⟨gb239, 0, none⟩ = some (.string (bd.extract 0 (x8_20 : Int).toNat)) := (blk_cell BK239.out 0).trans rfl; have hcz45_1 : w44.cell? ⟨gb239, 1, none⟩ = some (.string (bd.extract ((ji30) : Int).toNat bd.size)) := (blk_cell BK239.out 1).trans rfl; have hfz45_0 := blk_frozen BK239.out 0; have hfz45_1 := blk_frozen BK239.out 1; have hcz46_0 : w44.cell? ⟨gb236, 0, none⟩ = some (.string (⟨#[]⟩ : ByteArray)) := (blk_cell BK236.out 0).trans rfl; have hcz46_1 : w44.cell? ⟨gb236, 1, none⟩ = some (.string (⟨#[]⟩ : ByteArray)) := (blk_cell BK236.out 1).trans rfl; have hfz46_0 := blk_frozen BK236.out 0; have hfz46_1 := blk_frozen BK236.out 1))
                                            refine bodyPost_ret (results_ct rfl _ _ gb236 31 #[.string (bd.extract 0 (x8_20 : Int).toNat), .string (bd.extract ((ji30) : Int).toNat bd.size)] (0, 0) _ rfl (by (with_reducible repeat (first | refine blk_drewN ?_ _ | refine blk_drew ?_ | refine blk_alloc ?_ _)); refine blk_put (cs := #[.string (bd.extract 0 (x8_20 : Int).toNat), .string (⟨#[]⟩ : ByteArray)]) ?_ 1 _ rfl; (with_reducible repeat (first | refine blk_drewN ?_ _ | refine blk_drew ?_ | refine blk_alloc ?_ _)); refine blk_put (cs := #[.string (⟨#[]⟩ : ByteArray), .string (⟨#[]⟩ : ByteArray)]) ?_ 0 _ rfl; (with_reducible repeat (first | refine blk_drewN ?_ _ | refine blk_drew ?_ | refine blk_alloc ?_ _)); exact BK236.out) Tryd.underlying31 rfl (by kernel_rfl)) rfl ?_
                                            exact ⟨by first | rfl | (simp [errW_none, errW_some] <;> rfl) | (simp only [← hji17, ← hji30]; first | rfl | (simp [errW_none, errW_some] <;> rfl)) | (simp [*, errW_none, errW_some] <;> rfl), by repeat (first | (with_reducible first | exact HB.out | apply below_alloc | apply pw_below_drewN | apply below_drew1 | refine below_set ?_ GE236.out | refine below_set ?_ GE239.out) | exact HB.out)⟩
                                          · rw [if_neg c37] at H
                                            have c37b0 : (t240.toList == (a0.extract 0 (t237 : Int).toNat).toList) = false := beq_eq_false_iff_ne.mpr c37
                                            have c37b1 : (t240.toList != (a0.extract 0 (t237 : Int).toNat).toList) = true := bne_iff_ne.mpr c37
                                            simp only [Option.some.injEq, Prod.mk.injEq] at H
                                            obtain ⟨rfl, rfl, rfl⟩ := H
                                            try go_wp2
                                            have n0_ := Aside0.mk (blk_drew BK236.out)
                                            have n1_ := Aside0.mk (below_drew1 HB.out)
                                            clear BK236
                                            clear HB
                                            have BK236 := n0_
                                            have HB := n1_
                                            clear n0_ n1_
                                            refine start_ (n := 10) (S := fun w' => True) (ds := []) #[false, false, false, false, false, false, false, false, false, false] (by kernel_rfl) rfl rfl trivial (fun hHeld => ?_); refine with_tabW pleacherref09_first.tab13 pleacherref09_first.bits13 (fun HT_ HW_ => ?_)
                                            generalize wc.drew = w47 at BK236 HB hHeld ⊢
                                            refine pure_ (i := 0) (N := some 75) (v := ?_) (a' := ?_) #[true, false, false, false, false, false, false, false, false, false] rfl rfl (any_of HT_.out (by kernel_rfl)) (fun _ _ _ h => h) (Or.inl ⟨by rfl, ?_⟩) ?_ ?_
                                            rotate_left
                                            · intro w'
                                              go_simp
                                              with_reducible rfl
                                            rotate_left
                                            · simp only [Act.put, List.setIfInBounds_toArray, List.set_cons_zero, List.set_cons_succ, i64_w, i32_w]
                                              rfl
                                            refine pure_ (i := 1) (N := some 76) (v := ?_) (a' := ?_) #[true, true, false, false, false, false, false, false, false, false] rfl rfl (any_of HT_.out (by kernel_rfl)) (fun _ _ _ h => h) (Or.inl ⟨by rfl, ?_⟩) ?_ ?_
                                            rotate_left
                                            · intro w'
                                              go_simp
                                              with_reducible rfl
                                            rotate_left
                                            · simp only [Act.put, List.setIfInBounds_toArray, List.set_cons_zero, List.set_cons_succ, i64_w, i32_w]
                                              rfl
                                            refine pure_ (i := 2) (N := some 77) (v := ?_) (a' := ?_) #[true, true, true, false, false, false, false, false, false, false] rfl rfl (any_of HT_.out (by kernel_rfl)) (fun _ _ _ h => h) (Or.inl ⟨by rfl, ?_⟩) ?_ ?_
                                            rotate_left
                                            · intro w'
                                              go_simp
                                              with_reducible rfl
                                            rotate_left
                                            · simp only [Act.put, List.setIfInBounds_toArray, List.set_cons_zero, List.set_cons_succ, i64_w, i32_w]
                                              rfl
                                            refine pure_ (i := 3) (N := some 78) (v := ?_) (a' := ?_) #[true, true, true, true, false, false, false, false, false, false] rfl rfl (any_of HT_.out (by kernel_rfl)) (fun _ _ _ h => h) (Or.inl ⟨by rfl, ?_⟩) ?_ ?_
                                            rotate_left
                                            · intro w'
                                              go_simp
                                              with_reducible rfl
                                            rotate_left
                                            · simp only [Act.put, List.setIfInBounds_toArray, List.set_cons_zero, List.set_cons_succ, i64_w, i32_w]
                                              rfl
                                            refine pure_ (i := 4) (N := some 79) (v := ?_) (a' := ?_) #[true, true, true, true, true, false, false, false, false, false] rfl rfl (any_of HT_.out (by kernel_rfl)) (fun _ _ _ h => h) (Or.inl ⟨by rfl, ?_⟩) ?_ ?_
                                            rotate_left
                                            · intro w'
                                              go_simp
                                              with_reducible rfl
                                            rotate_left
                                            · simp only [Act.put, List.setIfInBounds_toArray, List.set_cons_zero, List.set_cons_succ, i64_w, i32_w]
                                              rfl
                                            refine pure_ (i := 5) (N := some 80) (v := ?_) (a' := ?_) #[true, true, true, true, true, true, false, false, false, false] rfl rfl (any_of HT_.out (by kernel_rfl)) (fun _ _ _ h => h) (Or.inl ⟨by rfl, ?_⟩) ?_ ?_
                                            rotate_left
                                            · intro w'
                                              go_simp
                                              with_reducible rfl
                                            rotate_left
                                            · simp only [Act.put, List.setIfInBounds_toArray, List.set_cons_zero, List.set_cons_succ, i64_w, i32_w]
                                              rfl
                                            refine pure_ (i := 6) (N := some 81) (v := ?_) (a' := ?_) #[true, true, true, true, true, true, true, false, false, false] rfl rfl (any_of HT_.out (by kernel_rfl)) (fun _ _ _ h => h) (Or.inl ⟨by rfl, ?_⟩) ?_ ?_
                                            rotate_left
                                            · intro w'
                                              go_simp
                                              with_reducible rfl
                                            rotate_left
                                            · simp only [Act.put, List.setIfInBounds_toArray, List.set_cons_zero, List.set_cons_succ, i64_w, i32_w]
                                              rfl
                                            refine pure_ (i := 7) (N := some 82) (v := ?_) (a' := ?_) #[true, true, true, true, true, true, true, true, false, false] rfl rfl (any_of HT_.out (by kernel_rfl)) (fun _ _ _ h => h) (Or.inl ⟨by rfl, ?_⟩) ?_ ?_
                                            rotate_left
                                            · intro w'
                                              go_simp
                                              with_reducible rfl
                                            rotate_left
                                            · simp only [Act.put, List.setIfInBounds_toArray, List.set_cons_zero, List.set_cons_succ, i64_w, i32_w]
                                              rfl
                                            refine one_ (i := 8) (N := some 9) #[true, true, true, true, true, true, true, true, true, false] rfl rfl (one_of HT_.out (by kernel_rfl)) (by decide) (fun K hK => ?_)
                                            refine box_step ?hg (N := 9) ?hd (cs := #[.string (⟨#[]⟩ : ByteArray), .string (⟨#[]⟩ : ByteArray)]) (t := 31) ?hr ?_; (case hd => rfl); (case hg => rfl); (case hr => first | (go_simp; done) | (go_simp; rfl))
                                            intro gb239 hg w48 hbox hb
                                            have n0_ := Aside0.mk (blk_below (g := gb236) (o := .cells #[.string (⟨#[]⟩ : ByteArray), .string (⟨#[]⟩ : ByteArray)] 31 (0, 0)) (by (with_reducible repeat (first | refine blk_drewN ?_ _ | refine blk_drew ?_ | refine blk_alloc ?_ _)); exact BK236.out) hb)
                                            have n1_ := Aside0.mk (below_step (by repeat (first | (with_reducible first | exact HB.out | apply below_alloc | apply pw_below_drewN | apply below_drew1 | refine below_set ?_ GE236.out) | exact HB.out)) hb)
                                            have n2_ := Aside0.mk (hbox)
                                            have n3_ := Aside0.mk ((by rw [hg]; exact (below_size (by repeat (first | (with_reducible first | exact HB.out | apply below_alloc | apply pw_below_drewN | apply below_drew1 | refine below_set ?_ GE236.out) | exact HB.out))) : w.heap.size ≤ gb239))
                                            have n4_ := Aside0.mk ((by rw [hg]; exact (below_size (by repeat (first | (with_reducible first | exact HB.out | apply below_alloc | apply pw_below_drewN | apply below_drew1 | refine below_set ?_ GE236.out) | exact HB.out))) : w.heap.size ≤ gb239))
                                            have n5_ := Aside0.mk ((by rw [hg]; exact Nat.ne_of_lt (blk_lt (g := gb236) (o := .cells #[.string (⟨#[]⟩ : ByteArray), .string (⟨#[]⟩ : ByteArray)] 31 (0, 0)) (by (with_reducible repeat (first | refine blk_drewN ?_ _ | refine blk_drew ?_ | refine blk_alloc ?_ _)); exact BK236.out)) : gb236 ≠ gb239))
                                            have n6_ := Aside0.mk ((by rw [hg]; exact Nat.ne_of_gt (blk_lt (g := gb236) (o := .cells #[.string (⟨#[]⟩ : ByteArray), .string (⟨#[]⟩ : ByteArray)] 31 (0, 0)) (by (with_reducible repeat (first | refine blk_drewN ?_ _ | refine blk_drew ?_ | refine blk_alloc ?_ _)); exact BK236.out)) : gb239 ≠ gb236))
                                            clear BK236
                                            clear HB
                                            have BK236 := n0_
                                            have HB := n1_
                                            have BK239 := n2_
                                            have GW239 := n3_
                                            have GE239 := n4_
                                            have NB236_239 := n5_
                                            have NB239_236 := n6_
                                            clear n0_ n1_ n2_ n3_ n4_ n5_ n6_
                                            clear hb hbox hg
                                            refine hK.out _ _ trivial (fun hHeld => ?_)
                                            clear hK K
                                            refine norm_ (a' := ?_) ?_ ?_
                                            rotate_left
                                            · show Act.put _ (some 9) _ = _
                                              simp only [Act.put, List.setIfInBounds_toArray, List.set_cons_zero, List.set_cons_succ, i64_w, i32_w]
                                              rfl
                                            refine one_ (i := 9) (N := none) #[true, true, true, true, true, true, true, true, true, true] rfl rfl (one_of HT_.out (by kernel_rfl)) (by decide) (fun K hK => ?_)
                                            have hs49 : w48.cell? ⟨gb239, 0, none⟩ = some (.string (⟨#[]⟩ : ByteArray)) := (blk_cell BK239.out 0).trans rfl
                                            have hfs49 := blk_frozen BK239.out 0
                                            have hns49_0 := NB236_239.out
                                            have hms49_0 := NB239_236.out
                                            have hs50 : w48.cell? ⟨gb239, 1, none⟩ = some (.string (⟨#[]⟩ : ByteArray)) := (blk_cell BK239.out 1).trans rfl
                                            have hfs50 := blk_frozen BK239.out 1
                                            have hns50_0 := NB236_239.out
                                            have hms50_0 := NB239_236.out
                                            refine skip_ (w1 := ?_) (by rfl) rfl ?_ ?_
                                            rotate_left
                                            · go_simp
                                              rfl
                                            refine hK.out _ _ trivial (fun hHeld => ?_)
                                            clear hK K
                                            refine done_ (done_of HT_.out (by kernel_rfl)) ?_
                                            have hnb51 := NB239_236.out
                                            have hnc51 := NB236_239.out
                                            have hcz52_0 : w48.cell? ⟨gb239, 0, none⟩ = some (.string (⟨#[]⟩ : ByteArray)) := (blk_cell BK239.out 0).trans rfl
                                            have hcz52_1 : w48.cell? ⟨gb239, 1, none⟩ = some (.string (⟨#[]⟩ : ByteArray)) := (blk_cell BK239.out 1).trans rfl
                                            have hfz52_0 := blk_frozen BK239.out 0
                                            have hfz52_1 := blk_frozen BK239.out 1
                                            try go_wp2_with (first | ((with_reducible refine gate_callee (f := 19) rfl ?_); refine goesL_ (some 85) rfl rfl Tryd.func19 (by kernel_rfl) rfl #[.agg #[.string (bd.extract 0 (x8_20 : Int).toNat), .string (bd.extract ((ji30) : Int).toNat bd.size)]] rfl (by (try simp only [List.map_toArray, List.map_cons, List.map_nil]); first | done | (simp only [hji17, hji30]; rfl) | rfl | (simp only [List.length_drop, List.length_take]; rfl)) ?_; (with_reducible refine (pleacherref09_One.calls (bd.extract 0 (x8_20 : Int).toNat) (bd.extract ((ji30) : Int).toNat bd.size) t240 t241 _ A33.out).mono ?_); rintro e w53 ⟨rfl, hb⟩; refine ⟨_, rfl, ?_⟩; have n0_ := Aside0.mk (blk_below (g := gb236) (o := .cells #[.string (⟨#[]⟩ : ByteArray), .string (⟨#[]⟩ : ByteArray)] 31 (0, 0)) (by (with_reducible repeat (first | refine blk_drewN ?_ _ | refine blk_drew ?_ | refine blk_alloc ?_ _)); refine blk_far ?_ NB236_239.out _; (with_reducible repeat (first | refine blk_drewN ?_ _ | refine blk_drew ?_ | refine blk_alloc ?_ _)); refine blk_far ?_ NB236_239.out _; (with_reducible repeat (first | refine blk_drewN ?_ _ | refine blk_drew ?_ | refine blk_alloc ?_ _)); exact BK236.out) hb); have n1_ := Aside0.mk (blk_below (g := gb239) (o := .cells #[.string (bd.extract 0 (x8_20 : Int).toNat), .string (bd.extract ((ji30) : Int).toNat bd.size)] 31 (0, 0)) (by (with_reducible repeat (first | refine blk_drewN ?_ _ | refine blk_drew ?_ | refine blk_alloc ?_ _)); refine blk_put (cs := #[.string (bd.extract 0 (x8_20 : Int).toNat), .string (⟨#[]⟩ : ByteArray)]) ?_ 1 _ rfl; (with_reducible repeat (first | refine blk_drewN ?_ _ | refine blk_drew ?_ | refine blk_alloc ?_ _)); refine blk_put (cs := #[.string (⟨#[]⟩ : ByteArray), .string (⟨#[]⟩ : ByteArray)]) ?_ 0 _ rfl; (with_reducible repeat (first | refine blk_drewN ?_ _ | refine blk_drew ?_ | refine blk_alloc ?_ _)); exact BK239.out) hb); have n2_ := Aside0.mk (below_step (by repeat (first | (with_reducible first | exact HB.out | apply below_alloc | apply pw_below_drewN | apply below_drew1 | refine below_set ?_ GE236.out | refine below_set ?_ GE239.out) | exact HB.out)) hb); clear BK236; clear BK239; clear HB; have BK236 := n0_; have BK239 := n1_; have HB := n2_; clear n0_ n1_ n2_; (try clear hb); (try clear hb2); (try clear hk); (try clear hi); have hcz54_0 : w53.cell? ⟨gb236, 0, none⟩ = some (.string (⟨#[]⟩ : ByteArray)) := (blk_cell BK236.out 0).trans rfl; have hcz54_1 : w53.cell? ⟨gb236, 1, none⟩ = some (.string (⟨#[]⟩ : ByteArray)) := (blk_cell BK236.out 1).trans rfl; have hfz54_0 := blk_frozen BK236.out 0; have hfz54_1 := blk_frozen BK236.out 1))
                                            refine bodyPost_ret (results_ct rfl _ _ gb236 31 #[.string (⟨#[]⟩ : ByteArray), .string (⟨#[]⟩ : ByteArray)] (0, 0) _ rfl (by (with_reducible repeat (first | refine blk_drewN ?_ _ | refine blk_drew ?_ | refine blk_alloc ?_ _)); refine blk_put (cs := #[.string (⟨#[]⟩ : ByteArray), .string (⟨#[]⟩ : ByteArray)]) ?_ 1 _ rfl; (with_reducible repeat (first | refine blk_drewN ?_ _ | refine blk_drew ?_ | refine blk_alloc ?_ _)); refine blk_put (cs := #[.string (⟨#[]⟩ : ByteArray), .string (⟨#[]⟩ : ByteArray)]) ?_ 0 _ rfl; (with_reducible repeat (first | refine blk_drewN ?_ _ | refine blk_drew ?_ | refine blk_alloc ?_ _)); exact BK236.out) Tryd.underlying31 rfl (by kernel_rfl)) rfl ?_
                                            exact ⟨by first | rfl | (simp [errW_none, errW_some] <;> rfl) | (simp only [← hji17, ← hji30]; first | rfl | (simp [errW_none, errW_some] <;> rfl)) | (simp [*, errW_none, errW_some] <;> rfl), by repeat (first | (with_reducible first | exact HB.out | apply below_alloc | apply pw_below_drewN | apply below_drew1 | refine below_set ?_ GE236.out | refine below_set ?_ GE239.out) | exact HB.out)⟩
                                        · rw [if_neg c36] at H
                                          exact absurd H (by simp)
                                      · rw [if_neg c35] at H
                                        exact absurd H (by simp)
                                    · rw [if_neg c34] at H
                                      have c34b0 : (t241 == 0) = false := beq_eq_false_iff_ne.mpr c34
                                      have c34b1 : (t241 != 0) = true := bne_iff_ne.mpr c34
                                      simp only [Option.some.injEq, Prod.mk.injEq] at H
                                      obtain ⟨rfl, rfl, rfl⟩ := H
                                      try go_wp2
                                      have n0_ := Aside0.mk (blk_drew BK236.out)
                                      have n1_ := Aside0.mk (below_drew1 HB.out)
                                      clear BK236
                                      clear HB
                                      have BK236 := n0_
                                      have HB := n1_
                                      clear n0_ n1_
                                      refine start_ (n := 10) (S := fun w' => True) (ds := []) #[false, false, false, false, false, false, false, false, false, false] (by kernel_rfl) rfl rfl trivial (fun hHeld => ?_); refine with_tabW pleacherref09_first.tab13 pleacherref09_first.bits13 (fun HT_ HW_ => ?_)
                                      generalize wc.drew = w55 at BK236 HB hHeld ⊢
                                      refine pure_ (i := 0) (N := some 75) (v := ?_) (a' := ?_) #[true, false, false, false, false, false, false, false, false, false] rfl rfl (any_of HT_.out (by kernel_rfl)) (fun _ _ _ h => h) (Or.inl ⟨by rfl, ?_⟩) ?_ ?_
                                      rotate_left
                                      · intro w'
                                        go_simp
                                        with_reducible rfl
                                      rotate_left
                                      · simp only [Act.put, List.setIfInBounds_toArray, List.set_cons_zero, List.set_cons_succ, i64_w, i32_w]
                                        rfl
                                      refine pure_ (i := 1) (N := some 76) (v := ?_) (a' := ?_) #[true, true, false, false, false, false, false, false, false, false] rfl rfl (any_of HT_.out (by kernel_rfl)) (fun _ _ _ h => h) (Or.inl ⟨by rfl, ?_⟩) ?_ ?_
                                      rotate_left
                                      · intro w'
                                        go_simp
                                        with_reducible rfl
                                      rotate_left
                                      · simp only [Act.put, List.setIfInBounds_toArray, List.set_cons_zero, List.set_cons_succ, i64_w, i32_w]
                                        rfl
                                      refine pure_ (i := 2) (N := some 77) (v := ?_) (a' := ?_) #[true, true, true, false, false, false, false, false, false, false] rfl rfl (any_of HT_.out (by kernel_rfl)) (fun _ _ _ h => h) (Or.inl ⟨by rfl, ?_⟩) ?_ ?_
                                      rotate_left
                                      · intro w'
                                        go_simp
                                        with_reducible rfl
                                      rotate_left
                                      · simp only [Act.put, List.setIfInBounds_toArray, List.set_cons_zero, List.set_cons_succ, i64_w, i32_w]
                                        rfl
                                      refine pure_ (i := 3) (N := some 78) (v := ?_) (a' := ?_) #[true, true, true, true, false, false, false, false, false, false] rfl rfl (any_of HT_.out (by kernel_rfl)) (fun _ _ _ h => h) (Or.inl ⟨by rfl, ?_⟩) ?_ ?_
                                      rotate_left
                                      · intro w'
                                        go_simp
                                        with_reducible rfl
                                      rotate_left
                                      · simp only [Act.put, List.setIfInBounds_toArray, List.set_cons_zero, List.set_cons_succ, i64_w, i32_w]
                                        rfl
                                      refine pure_ (i := 4) (N := some 79) (v := ?_) (a' := ?_) #[true, true, true, true, true, false, false, false, false, false] rfl rfl (any_of HT_.out (by kernel_rfl)) (fun _ _ _ h => h) (Or.inl ⟨by rfl, ?_⟩) ?_ ?_
                                      rotate_left
                                      · intro w'
                                        go_simp
                                        with_reducible rfl
                                      rotate_left
                                      · simp only [Act.put, List.setIfInBounds_toArray, List.set_cons_zero, List.set_cons_succ, i64_w, i32_w]
                                        rfl
                                      refine pure_ (i := 5) (N := some 80) (v := ?_) (a' := ?_) #[true, true, true, true, true, true, false, false, false, false] rfl rfl (any_of HT_.out (by kernel_rfl)) (fun _ _ _ h => h) (Or.inl ⟨by rfl, ?_⟩) ?_ ?_
                                      rotate_left
                                      · intro w'
                                        go_simp
                                        with_reducible rfl
                                      rotate_left
                                      · simp only [Act.put, List.setIfInBounds_toArray, List.set_cons_zero, List.set_cons_succ, i64_w, i32_w]
                                        rfl
                                      refine pure_ (i := 6) (N := some 81) (v := ?_) (a' := ?_) #[true, true, true, true, true, true, true, false, false, false] rfl rfl (any_of HT_.out (by kernel_rfl)) (fun _ _ _ h => h) (Or.inl ⟨by rfl, ?_⟩) ?_ ?_
                                      rotate_left
                                      · intro w'
                                        go_simp
                                        with_reducible rfl
                                      rotate_left
                                      · simp only [Act.put, List.setIfInBounds_toArray, List.set_cons_zero, List.set_cons_succ, i64_w, i32_w]
                                        rfl
                                      refine pure_ (i := 7) (N := some 82) (v := ?_) (a' := ?_) #[true, true, true, true, true, true, true, true, false, false] rfl rfl (any_of HT_.out (by kernel_rfl)) (fun _ _ _ h => h) (Or.inl ⟨by rfl, ?_⟩) ?_ ?_
                                      rotate_left
                                      · intro w'
                                        go_simp
                                        with_reducible rfl
                                      rotate_left
                                      · simp only [Act.put, List.setIfInBounds_toArray, List.set_cons_zero, List.set_cons_succ, i64_w, i32_w]
                                        rfl
                                      refine one_ (i := 8) (N := some 9) #[true, true, true, true, true, true, true, true, true, false] rfl rfl (one_of HT_.out (by kernel_rfl)) (by decide) (fun K hK => ?_)
                                      refine box_step ?hg (N := 9) ?hd (cs := #[.string (⟨#[]⟩ : ByteArray), .string (⟨#[]⟩ : ByteArray)]) (t := 31) ?hr ?_; (case hd => rfl); (case hg => rfl); (case hr => first | (go_simp; done) | (go_simp; rfl))
                                      intro gb239 hg w56 hbox hb
                                      have n0_ := Aside0.mk (blk_below (g := gb236) (o := .cells #[.string (⟨#[]⟩ : ByteArray), .string (⟨#[]⟩ : ByteArray)] 31 (0, 0)) (by (with_reducible repeat (first | refine blk_drewN ?_ _ | refine blk_drew ?_ | refine blk_alloc ?_ _)); exact BK236.out) hb)
                                      have n1_ := Aside0.mk (below_step (by repeat (first | (with_reducible first | exact HB.out | apply below_alloc | apply pw_below_drewN | apply below_drew1 | refine below_set ?_ GE236.out) | exact HB.out)) hb)
                                      have n2_ := Aside0.mk (hbox)
                                      have n3_ := Aside0.mk ((by rw [hg]; exact (below_size (by repeat (first | (with_reducible first | exact HB.out | apply below_alloc | apply pw_below_drewN | apply below_drew1 | refine below_set ?_ GE236.out) | exact HB.out))) : w.heap.size ≤ gb239))
                                      have n4_ := Aside0.mk ((by rw [hg]; exact (below_size (by repeat (first | (with_reducible first | exact HB.out | apply below_alloc | apply pw_below_drewN | apply below_drew1 | refine below_set ?_ GE236.out) | exact HB.out))) : w.heap.size ≤ gb239))
                                      have n5_ := Aside0.mk ((by rw [hg]; exact Nat.ne_of_lt (blk_lt (g := gb236) (o := .cells #[.string (⟨#[]⟩ : ByteArray), .string (⟨#[]⟩ : ByteArray)] 31 (0, 0)) (by (with_reducible repeat (first | refine blk_drewN ?_ _ | refine blk_drew ?_ | refine blk_alloc ?_ _)); exact BK236.out)) : gb236 ≠ gb239))
                                      have n6_ := Aside0.mk ((by rw [hg]; exact Nat.ne_of_gt (blk_lt (g := gb236) (o := .cells #[.string (⟨#[]⟩ : ByteArray), .string (⟨#[]⟩ : ByteArray)] 31 (0, 0)) (by (with_reducible repeat (first | refine blk_drewN ?_ _ | refine blk_drew ?_ | refine blk_alloc ?_ _)); exact BK236.out)) : gb239 ≠ gb236))
                                      clear BK236
                                      clear HB
                                      have BK236 := n0_
                                      have HB := n1_
                                      have BK239 := n2_
                                      have GW239 := n3_
                                      have GE239 := n4_
                                      have NB236_239 := n5_
                                      have NB239_236 := n6_
                                      clear n0_ n1_ n2_ n3_ n4_ n5_ n6_
                                      clear hb hbox hg
                                      refine hK.out _ _ trivial (fun hHeld => ?_)
                                      clear hK K
                                      refine norm_ (a' := ?_) ?_ ?_
                                      rotate_left
                                      · show Act.put _ (some 9) _ = _
                                        simp only [Act.put, List.setIfInBounds_toArray, List.set_cons_zero, List.set_cons_succ, i64_w, i32_w]
                                        rfl
                                      refine one_ (i := 9) (N := none) #[true, true, true, true, true, true, true, true, true, true] rfl rfl (one_of HT_.out (by kernel_rfl)) (by decide) (fun K hK => ?_)
                                      have hs57 : w56.cell? ⟨gb239, 0, none⟩ = some (.string (⟨#[]⟩ : ByteArray)) := (blk_cell BK239.out 0).trans rfl
                                      have hfs57 := blk_frozen BK239.out 0
                                      have hns57_0 := NB236_239.out
                                      have hms57_0 := NB239_236.out
                                      have hs58 : w56.cell? ⟨gb239, 1, none⟩ = some (.string (⟨#[]⟩ : ByteArray)) := (blk_cell BK239.out 1).trans rfl
                                      have hfs58 := blk_frozen BK239.out 1
                                      have hns58_0 := NB236_239.out
                                      have hms58_0 := NB239_236.out
                                      refine skip_ (w1 := ?_) (by rfl) rfl ?_ ?_
                                      rotate_left
                                      · go_simp
                                        rfl
                                      refine hK.out _ _ trivial (fun hHeld => ?_)
                                      clear hK K
                                      refine done_ (done_of HT_.out (by kernel_rfl)) ?_
                                      have hnb59 := NB239_236.out
                                      have hnc59 := NB236_239.out
                                      have hcz60_0 : w56.cell? ⟨gb239, 0, none⟩ = some (.string (⟨#[]⟩ : ByteArray)) := (blk_cell BK239.out 0).trans rfl
                                      have hcz60_1 : w56.cell? ⟨gb239, 1, none⟩ = some (.string (⟨#[]⟩ : ByteArray)) := (blk_cell BK239.out 1).trans rfl
                                      have hfz60_0 := blk_frozen BK239.out 0
                                      have hfz60_1 := blk_frozen BK239.out 1
                                      try go_wp2_with (first | ((with_reducible refine gate_callee (f := 19) rfl ?_); refine goesL_ (some 85) rfl rfl Tryd.func19 (by kernel_rfl) rfl #[.agg #[.string (bd.extract 0 (x8_20 : Int).toNat), .string (bd.extract ((ji30) : Int).toNat bd.size)]] rfl (by (try simp only [List.map_toArray, List.map_cons, List.map_nil]); first | done | (simp only [hji17, hji30]; rfl) | rfl | (simp only [List.length_drop, List.length_take]; rfl)) ?_; (with_reducible refine (pleacherref09_One.calls (bd.extract 0 (x8_20 : Int).toNat) (bd.extract ((ji30) : Int).toNat bd.size) t240 t241 _ A33.out).mono ?_); rintro e w61 ⟨rfl, hb⟩; refine ⟨_, rfl, ?_⟩; have n0_ := Aside0.mk (blk_below (g := gb236) (o := .cells #[.string (⟨#[]⟩ : ByteArray), .string (⟨#[]⟩ : ByteArray)] 31 (0, 0)) (by (with_reducible repeat (first | refine blk_drewN ?_ _ | refine blk_drew ?_ | refine blk_alloc ?_ _)); refine blk_far ?_ NB236_239.out _; (with_reducible repeat (first | refine blk_drewN ?_ _ | refine blk_drew ?_ | refine blk_alloc ?_ _)); refine blk_far ?_ NB236_239.out _; (with_reducible repeat (first | refine blk_drewN ?_ _ | refine blk_drew ?_ | refine blk_alloc ?_ _)); exact BK236.out) hb); have n1_ := Aside0.mk (blk_below (g := gb239) (o := .cells #[.string (bd.extract 0 (x8_20 : Int).toNat), .string (bd.extract ((ji30) : Int).toNat bd.size)] 31 (0, 0)) (by (with_reducible repeat (first | refine blk_drewN ?_ _ | refine blk_drew ?_ | refine blk_alloc ?_ _)); refine blk_put (cs := #[.string (bd.extract 0 (x8_20 : Int).toNat), .string (⟨#[]⟩ : ByteArray)]) ?_ 1 _ rfl; (with_reducible repeat (first | refine blk_drewN ?_ _ | refine blk_drew ?_ | refine blk_alloc ?_ _)); refine blk_put (cs := #[.string (⟨#[]⟩ : ByteArray), .string (⟨#[]⟩ : ByteArray)]) ?_ 0 _ rfl; (with_reducible repeat (first | refine blk_drewN ?_ _ | refine blk_drew ?_ | refine blk_alloc ?_ _)); exact BK239.out) hb); have n2_ := Aside0.mk (below_step (by repeat (first | (with_reducible first | exact HB.out | apply below_alloc | apply pw_below_drewN | apply below_drew1 | refine below_set ?_ GE236.out | refine below_set ?_ GE239.out) | exact HB.out)) hb); clear BK236; clear BK239; clear HB; have BK236 := n0_; have BK239 := n1_; have HB := n2_; clear n0_ n1_ n2_; (try clear hb); (try clear hb2); (try clear hk); (try clear hi); have hcz62_0 : w61.cell? ⟨gb236, 0, none⟩ = some (.string (⟨#[]⟩ : ByteArray)) := (blk_cell BK236.out 0).trans rfl; have hcz62_1 : w61.cell? ⟨gb236, 1, none⟩ = some (.string (⟨#[]⟩ : ByteArray)) := (blk_cell BK236.out 1).trans rfl; have hfz62_0 := blk_frozen BK236.out 0; have hfz62_1 := blk_frozen BK236.out 1))
                                      refine bodyPost_ret (results_ct rfl _ _ gb236 31 #[.string (⟨#[]⟩ : ByteArray), .string (⟨#[]⟩ : ByteArray)] (0, 0) _ rfl (by (with_reducible repeat (first | refine blk_drewN ?_ _ | refine blk_drew ?_ | refine blk_alloc ?_ _)); refine blk_put (cs := #[.string (⟨#[]⟩ : ByteArray), .string (⟨#[]⟩ : ByteArray)]) ?_ 1 _ rfl; (with_reducible repeat (first | refine blk_drewN ?_ _ | refine blk_drew ?_ | refine blk_alloc ?_ _)); refine blk_put (cs := #[.string (⟨#[]⟩ : ByteArray), .string (⟨#[]⟩ : ByteArray)]) ?_ 0 _ rfl; (with_reducible repeat (first | refine blk_drewN ?_ _ | refine blk_drew ?_ | refine blk_alloc ?_ _)); exact BK236.out) Tryd.underlying31 rfl (by kernel_rfl)) rfl ?_
                                      exact ⟨by first | rfl | (simp [errW_none, errW_some] <;> rfl) | (simp only [← hji17, ← hji30]; first | rfl | (simp [errW_none, errW_some] <;> rfl)) | (simp [*, errW_none, errW_some] <;> rfl), by repeat (first | (with_reducible first | exact HB.out | apply below_alloc | apply pw_below_drewN | apply below_drew1 | refine below_set ?_ GE236.out | refine below_set ?_ GE239.out) | exact HB.out)⟩
                                  · rw [if_neg c32] at H
                                    exact absurd H (by simp)
                                · rw [if_neg c31] at H
                                  exact absurd H (by simp)
                              · rw [if_neg c29] at H
                                exact absurd H (by simp)
                            · rw [if_neg c28] at H
                              exact absurd H (by simp)
                    · rw [if_neg c20] at H
                      exact absurd H (by simp)
                  · rw [if_neg c19] at H
                    exact absurd H (by simp)
                · rw [if_neg c18] at H
                  exact absurd H (by simp)
        · rw [if_neg c10] at H
          exact absurd H (by simp)
      · rw [if_neg c9] at H
        exact absurd H (by simp)

end Go.Proofs.YtbcjhmeeonhmaaaDoor.M
end
