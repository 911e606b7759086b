/-
The laws of escape: what their cards share.
-/
import Derived.Test.YtbcjhmeeonhmaaaGreatDoorQC2
import Derived.Stop.RegionWithIn
import Derived.RangeFuncBox
import Derived.Maps.AppendAt
import Derived.Test.YtbcjhmeeonhmaaaGreatDoorCards
import Derived.Test.YtbcjhmeeonhmaaaGreatDoorTie
import Derived.ProofKit
import Derived.OpenShut
import Derived.Deep.DeepHandedRow
import Derived.Stop.LaidTwo
import Derived.LaidMore
import Derived.LaidHandle
import Derived.Carry
import Derived.ChangeMaps5
import Derived.Deep.DeepWitnessRowRef
import Derived.Shelf.Vars
import Derived.Lay
import Derived.Lib.LaidIn
set_option linter.unusedVariables false
set_option linter.unusedSimpArgs false
/-
The parts that a raw text stands for: (*escape.reader).parts, and its iterator.
-/
section
set_option linter.unusedVariables false
set_option maxRecDepth 100000
namespace Go.Proofs.YtbcjhmeeonhmaaaGreatDoor.H
open Go Go.RowKit Go.Proofs.YtbcjhmeeonhmaaaGreatDoorW.PrintWords Go.Proofs.YtbcjhmeeonhmaaaGreatDoorW.PrintMore Go.Proofs.YtbcjhmeeonhmaaaGreatDoor.M
attribute [local go_sem] Oper.semAt_some

theorem encS_size (r : Int) : (encS r).1.size ≤ 4 := by
  unfold encS encL
  repeat' split
  all_goals first | decide | (rw [strOfNums_size]; simp)
theorem refS_ok (t : ByteArray) : (refS t).2.2 = 0 → 3 ≤ (refS t).2.1 ∧ (refS t).2.1 ≤ t.size := by
  intro h
  unfold refS at h ⊢
  by_cases hc : (pfxS t 38).2 = true ∧ 1 ≤ Lib.indexByte (pfxS t 38).1.data.toList 59 ∧ Lib.indexByte (pfxS t 38).1.data.toList 59 < 12
  · rw [if_pos hc] at h ⊢
    have hl := indexByte_lt (pfxS t 38).1.data.toList 59
    have hp : (pfxS t 38).1.data.toList = t.data.toList.drop 1 := by
      have h1 : Lib.hasPrefix t.data.toList [38] = true := hc.1
      unfold pfxS Lib.trimPrefix
      simp [h1]
    rw [hp, List.length_drop, size_data] at hl
    rw [hp] at hc
    by_cases hz : bodyR ((pfxS t 38).1.extract 0 (Lib.indexByte (pfxS t 38).1.data.toList 59).toNat) = 0
    · rw [if_pos hz] at h; cases h
    · rw [if_neg hz, hp]
      simp only []
      omega
  · rw [if_neg hc] at h; cases h
theorem outE_bd {t out : ByteArray} {q : Int} {k : Nat} (h1 : 1 ≤ k) (h2 : k ≤ t.size) : 1 ≤ (outE t out q k).2 ∧ (outE t out q k).2 ≤ t.size ∧ (outE t out q k).1.size ≤ 4 := by
  unfold outE
  by_cases h : out = ⟨#[13]⟩
  · rw [if_pos h]
    simp only []
    by_cases hp : Lib.hasPrefix t.data.toList [13, 10] = true
    · have := pfx2 hp
      rw [if_pos hp]; exact ⟨by omega, this, by decide⟩
    · rw [if_neg hp]; exact ⟨h1, h2, by decide⟩
  · rw [if_neg h]; exact ⟨h1, h2, encS_size _⟩
theorem runeE_bd {t out : ByteArray} {n : Nat} (h : runeE t = .ok (out, n)) : 1 ≤ n ∧ n ≤ t.size ∧ out.size ≤ 4 := by
  unfold runeE at h
  by_cases h0 : (decR t).2.2 ≠ 0
  · rw [if_pos h0] at h; cases h
  · rw [if_neg h0] at h
    obtain ⟨r, m, e, hd⟩ : ∃ r m e, decR t = (r, m, e) := ⟨_, _, _, rfl⟩
    rw [hd] at h h0
    obtain rfl : e = 0 := by simpa using h0
    have hb := decR_n hd
    simp only [] at h
    by_cases h1 : r = 60
    · rw [if_pos h1] at h; cases h
    · rw [if_neg h1] at h
      by_cases h2 : isCharS r = false
      · rw [if_pos h2] at h; cases h
      · rw [if_neg h2] at h
        by_cases h3 : r = 38
        · rw [if_pos h3] at h
          by_cases h4 : (refS t).2.2 ≠ 0
          · rw [if_pos h4] at h; cases h
          · rw [if_neg h4] at h
            have := refS_ok t (by simpa using h4)
            injection h with h
            have hx := outE_bd (t := t) (out := t.extract 0 m.toNat) (q := (refS t).1) (k := (refS t).2.1.toNat) (by omega) (by omega)
            rw [h] at hx; exact hx
        · rw [if_neg h3] at h
          injection h with h
          have hx := outE_bd (t := t) (out := t.extract 0 m.toNat) (q := r) (k := m.toNat) (by omega) (by omega)
          rw [h] at hx; exact hx

/-- Parts that a text begins with, and what is left. -/
inductive Pts : ByteArray → List ByteArray → ByteArray → Prop
  | nil (s : ByteArray) : Pts s [] s
  | snoc {s t : ByteArray} {pre : List ByteArray} {out : ByteArray} {n : Nat} (h : Pts s pre t) (h0 : t.size ≠ 0) (hr : runeE t = .ok (out, n)) : Pts s (pre ++ [out]) (t.extract n t.size)
def catL (l : List ByteArray) : ByteArray := l.foldl (fun a x => a ++ x) ⟨#[]⟩
theorem catL_snoc (l : List ByteArray) (x : ByteArray) : catL (l ++ [x]) = catL l ++ x := by unfold catL; rw [List.foldl_append]; rfl
theorem Pts.size {s t : ByteArray} {pre : List ByteArray} (h : Pts s pre t) : pre.length + t.size ≤ s.size ∧ (catL pre).size ≤ 4 * pre.length := by
  induction h with
  | nil => exact ⟨by simp, by decide⟩
  | snoc h h0 hr ih =>
    have := runeE_bd hr
    rw [catL_snoc, List.length_append, List.length_singleton, ByteArray.size_extract, ByteArray.size_append]
    omega

/-- The iterator's own steps. -/
def PStep (R : Nat) (A B : World) : Prop := A.grownBy B (some R)
/-- What a round keeps. -/
def PKeep (w0 : World) (R Bx : Nat) (A B : World) : Prop := B.heap[R]? = A.heap[R]? ∧ B.heap[Bx]? = A.heap[Bx]? ∧ (Below w0.heap.size w0 A → Below w0.heap.size w0 B)
def PAt (w0 : World) (R Bx : Nat) (t : ByteArray) (sz : Nat) (w : World) : Prop := w.cell? ⟨Bx, 0, none⟩ = some (.pointer (some ⟨R, 0, none⟩)) ∧ RdE R t sz .nilIface w ∧ Below w0.heap.size w0 w ∧ R ≠ Bx
def PEnd (R : Nat) (s : ByteArray) (xs : List ByteArray) (W : World) : Prop :=
  ∃ t, Pts s xs t ∧ ((t.size = 0 ∧ RdE R t s.size .nilIface W) ∨ (t.size ≠ 0 ∧ ∃ why, runeE t = .error why ∧ RdE R t s.size (wrongV why ((s.size : Int) - t.size)) W))
def encP (x : ByteArray) : Array Value := #[.string x]
def restE (R : Nat) (w : World) : Nat := match w.cell? ⟨R, 0, none⟩ with | some (.string t) => t.size | _ => 0
theorem RdE.rest {R : Nat} {t : ByteArray} {sz : Nat} {ev : Value} {w : World} (h : RdE R t sz ev w) : restE R w = t.size := by unfold restE; rw [h.c0]
theorem RdE.same {R : Nat} {t : ByteArray} {sz : Nat} {ev : Value} {w w' : World} (h : RdE R t sz ev w) (k : w'.heap[R]? = w.heap[R]?) : RdE R t sz ev w' := k.trans h
theorem below_row {w0 A B : World} {R : Nat} (h : A.grownBy B (some R)) (hR : w0.heap.size ≤ R) (b : Below w0.heap.size w0 A) : Below w0.heap.size w0 B :=
  b.trans ⟨h.os, h.tape, h.output, h.size, fun i hi => h.block i (by have := b.size; omega) (by intro e; injection e; omega)⟩

set_option maxHeartbeats 4000000 in
theorem parts_iter (w0 : World) (hG0 : GW w0) (R Bx : Nat) (hR0 : w0.heap.size ≤ R) (s : ByteArray) (hs : s.size ≤ 1073741824) :
    Iter Tryz.prog 46 #[.pointer (some ⟨Bx, 0, none⟩)] encP (PStep R) (PKeep w0 R Bx)
      (fun pre x _ => ∃ t, Pts s (pre ++ [x]) t) (PEnd R s) (fun _ _ => True) (PAt w0 R Bx s s.size) := by
  intro l J Jx W hJ hJx h0 hY hJ0
  have HS := Lib.hid hs
  clear hs
  have hnot : ∀ (x : Bool) (w : World), (Op.unary .not (.bool x)).run Tryz.prog w = .ok (.bool (!x)) w := fun _ _ => rfl
  refine (callsIn_wide (n := 0)).1 ?_
  refine callsIn_of_wp Tryz.func46 rfl trivial ?_ rfl
  simp only [Tryz.ntmps46, List.size_toArray, List.length_cons, List.length_nil, Nat.reduceAdd, Nat.reduceSub, Array.replicate_succ, Array.replicate_zero, List.push_toArray, List.append_toArray, List.nil_append, List.cons_append]
  refine wpIn_scope_wide ?_
  gi_wp2
  refine wpIn_label ?_
  gi_wp2
  obtain ⟨q1, q2, q3, q4⟩ := h0
  gi_loopw [] (fun wr => ∃ (pre : List ByteArray) (t : ByteArray), Pts s pre t ∧ RdE R t s.size .nilIface wr ∧ wr.cell? ⟨Bx, 0, none⟩ = some (.pointer (some ⟨R, 0, none⟩)) ∧ Below w0.heap.size w0 wr ∧ J pre wr) (fun wr => restE R wr)
  case atStart => exact ⟨[], s, .nil s, q2, q1, q3, hJ0⟩
  case round =>
    obtain ⟨pre, t, hE, hR, hBx, hG, hJs⟩ := hrel
    have hsz := hE.size
    have c0 := hR.c0
    have ht : t.size ≤ s.size := by omega
    by_cases ht0 : t.size = 0
    · have hte : t.toList.isEmpty = true := by rw [(nil_iff t).2 ht0]; rfl
      have HT0 := Lib.hid ht0
      clear ht0
      gi_wp2
      simp only [Exit.noGoto]
      go_end0
      exact ⟨⟨_, rfl⟩, .inl ⟨pre, ⟨t, hE, .inl ⟨HT0.out, hR⟩⟩, hJs⟩⟩
    · have hte : t.toList.isEmpty = false := by
        rw [Bool.eq_false_iff]; intro e; exact ht0 ((nil_iff t).1 (List.isEmpty_iff.1 e))
      have HT0 := Lib.hid ht0
      have HT := Lib.hid ht
      clear ht0 ht
      have HR := Lib.hid (runeW R t s.size wr (hG0.below hG) hR HS.out HT.out)
      gi_wp2_with fail
      refine ⟨trivial, rfl, callsIn_wide.2 (HR.out.mono ?_)⟩
      rintro e W2 ⟨hg, hh⟩
      have hBl := World.block_lt_of_cell? wr _ hBx
      have hJ2 : J pre W2 := hJ _ _ _ hJs hg
      have hG2 := below_row hg hR0 hG
      have hBx2 : W2.cell? ⟨Bx, 0, none⟩ = some (.pointer (some ⟨R, 0, none⟩)) := by
        rw [← hBx]; unfold World.cell?; simp only []; rw [hg.block Bx hBl (by intro e; injection e; omega)]
      rcases hh with ⟨out, n, hr, rfl, hR2⟩ | ⟨why, hr, rfl, hR2⟩
      · have c2 := hR2.c2
        have hbd := runeE_bd hr
        have hE2 : Pts s (pre ++ [out]) (t.extract n t.size) := .snoc hE HT0.out hr
        obtain ⟨fn, tmps, assign, body, hy, hRd⟩ := hY pre out W2 hJ2 ⟨_, hE2⟩
        simp only [encP] at hy hRd
        have HRd := Lib.hid hRd
        clear hRd
        gi_wp2_with fail
        refine ⟨rfl, HRd.out.mono ?_⟩
        intro e W5 hh
        obtain ⟨bb, rfl, hh'⟩ := both hh
        clear hh
        obtain ⟨hA, hBx', hk⟩ := hh'.out
        cases bb with
        | false =>
          have hB5 := Lib.hid (hBx' rfl)
          clear hA hBx' hh'
          gi_wp2
          simp only [Exit.noGoto]
          go_end0
          exact ⟨⟨_, rfl⟩, .inr ⟨_, trivial, hB5.out⟩⟩
        | true =>
          have hJ5 := Lib.hid (hA rfl)
          clear hA hBx' hh'
          gi_wp2
          go_roundw
          case rel => exact ⟨_, _, hE2, hR2.same hk.1, by rw [← hBx2]; unfold World.cell?; simp only []; rw [hk.2.1], hk.2.2 hG2, hJ5.out⟩
          case measure =>
            rw [(hR2.same hk.1).rest, hR.rest]
            simp only [ByteArray.size_extract]
            have := HT0.out
            omega
      · have c2 := hR2.c2
        unfold wrongV at c2
        gi_wp2
        refine ⟨fun f hf => (by cases hf), ?_⟩
        gi_wp2
        simp only [Exit.noGoto]
        go_end0
        exact ⟨⟨_, rfl⟩, .inl ⟨pre, ⟨t, hE, .inr ⟨HT0.out, why, hr, hR2⟩⟩, hJ2⟩⟩
end Go.Proofs.YtbcjhmeeonhmaaaGreatDoor.H
end

/-
Texts as lists of bytes, and UTF-8 (seat ZD): a rune's bytes are those that it was read from; two texts put together.
-/
section
set_option linter.unusedVariables false
set_option maxRecDepth 100000
namespace Go.Proofs.YtbcjhmeeonhmaaaGreatDoor.H
open Go Go.RowKit Go.Proofs.YtbcjhmeeonhmaaaGreatDoorW.PrintWords Go.Proofs.YtbcjhmeeonhmaaaGreatDoorW.PrintMore Go.Proofs.YtbcjhmeeonhmaaaGreatDoor.M

theorem idx_at {l : List UInt8} {c : UInt8} {k : Nat} (h0 : l[k]? = some c) (h1 : ∀ j, j < k → l[j]? ≠ some c) : Lib.indexByte l c = (k : Int) := by
  have hg := Lib.indexByte_ge l c
  obtain ⟨i, hi⟩ : ∃ i, Lib.indexByte l c = i := ⟨_, rfl⟩
  rw [hi] at hg
  by_cases h : i = -1
  · exact absurd h0 (Lib.indexByte_none (hi.trans h) k)
  · obtain ⟨o, rfl⟩ := Int.eq_ofNat_of_zero_le (by omega : 0 ≤ i)
    have h2 := Lib.indexByte_some hi
    rw [hi]
    rcases Nat.lt_trichotomy o k with hlt | rfl | hlt
    · exact absurd h2.1 (h1 o hlt)
    · rfl
    · exact absurd h0 (h2.2 k hlt)
theorem data_ext {a b : ByteArray} (h : a.data.toList = b.data.toList) : a = b := ByteArray.ext (Array.toList_inj.1 h)
theorem ext_list (s : ByteArray) (i j : Nat) : (s.extract i j).data.toList = (s.data.toList.drop i).take (j - i) := by simp [List.extract]
theorem app_list (s t : ByteArray) : (s ++ t).data.toList = s.data.toList ++ t.data.toList := by simp
theorem bytes_list (s : ByteArray) (i : Nat) (h : i < s.size) : s.data.toList[i]? = some (s[i]'h) := by
  have : i < s.data.toList.length := by rw [size_data]; exact h
  rw [List.getElem?_eq_getElem this]; rfl
theorem nil_of_size {s : ByteArray} (h : s.size = 0) : s = ⟨#[]⟩ := data_ext (List.eq_nil_of_length_eq_zero (by rw [size_data]; exact h))
theorem nil_app (t : ByteArray) : (⟨#[]⟩ : ByteArray) ++ t = t := by refine data_ext ?_; rw [app_list]; simp
theorem app_nil (t : ByteArray) : t ++ (⟨#[]⟩ : ByteArray) = t := by refine data_ext ?_; rw [app_list]; simp
theorem app_assoc' (a b c : ByteArray) : a ++ b ++ c = a ++ (b ++ c) := by refine data_ext ?_; simp only [app_list, List.append_assoc]
/-- A text of a list of bytes. -/
def B (l : List UInt8) : ByteArray := ⟨l.toArray⟩
theorem B_list (l : List UInt8) : (B l).data.toList = l := rfl
theorem list_B (s : ByteArray) : B s.data.toList = s := rfl
theorem B_size (l : List UInt8) : (B l).size = l.length := by rw [← size_data]; rfl
theorem B_app (a b : List UInt8) : B (a ++ b) = B a ++ B b := data_ext (by rw [app_list]; rfl)
theorem B_ext (l : List UInt8) (i j : Nat) : (B l).extract i j = B ((l.drop i).take (j - i)) := data_ext (by rw [ext_list]; rfl)
theorem B_drop (l : List UInt8) (i : Nat) : (B l).extract i (B l).size = B (l.drop i) := by
  rw [B_ext, B_size, List.take_of_length_le (by rw [List.length_drop]; omega)]
theorem B_inj {a b : List UInt8} (h : B a = B b) : a = b := by rw [← B_list a, ← B_list b, h]
theorem ext_app_r (s t : ByteArray) (n : Nat) (h : n ≤ s.size) : (s ++ t).extract n (s ++ t).size = s.extract n s.size ++ t := by
  have hs := size_data s
  have ht := size_data t
  refine data_ext ?_
  rw [app_list, ext_list, ext_list, app_list, ByteArray.size_append, List.drop_append_of_le_length (by omega), List.take_of_length_le (by rw [List.length_append, List.length_drop]; omega), List.take_of_length_le (by rw [List.length_drop]; omega)]
theorem ext_app_l (s t : ByteArray) (i j : Nat) (hj : j ≤ s.size) : (s ++ t).extract i j = s.extract i j := by
  have hs := size_data s
  refine data_ext ?_
  rw [ext_list, ext_list, app_list]
  by_cases h : i ≤ j
  · rw [List.drop_append_of_le_length (by omega), List.take_append_of_le_length (by rw [List.length_drop]; omega)]
  · rw [show j - i = 0 from by omega, List.take_zero, List.take_zero]
theorem bt_list (s : ByteArray) (i : Nat) (c : UInt8) (h : s.data.toList[i]? = some c) : bt s (i : Int) = (c.toNat : Int) := by
  have hi : i < s.size := by rw [← size_data]; exact (List.getElem?_eq_some_iff.1 h).1
  rw [bytes_list s i hi] at h
  rw [← bt_at s (i : Int) (by simpa using hi)]
  simp only [Int.toNat_natCast]
  rw [Option.some.inj h]
theorem split_at (s : ByteArray) (n : Nat) (h : n ≤ s.size) : s.extract 0 n ++ s.extract n s.size = s := by
  have hs := size_data s
  refine data_ext ?_
  rw [app_list, ext_list, ext_list, List.drop_zero, Nat.sub_zero, List.take_of_length_le (i := s.size - n) (by rw [List.length_drop]; omega), List.take_append_drop]

/-- Decode looks at no more than what it takes. -/
theorem decR_pre {s t : ByteArray} {r : Int} {n : Nat} (h : decR s = (r, (n : Int), 0)) (h2 : t.extract 0 n = s.extract 0 n) (hn : n ≤ t.size) : decR t = (r, (n : Int), 0) := by
  have hb := decR_n h
  have e1 : ∀ i j, j ≤ n → t.extract i j = s.extract i j := by
    intro i j hj
    have : ∀ u : ByteArray, u.extract i j = (u.extract 0 n).extract i j := by
      intro u
      refine data_ext ?_
      rw [ext_list, ext_list, ext_list, List.drop_zero, Nat.sub_zero]
      rw [List.drop_take, List.take_take]
      congr 1
      omega
    rw [this t, this s, h2]
  have hbt : bt t 0 = bt s 0 := by
    have a := bex (s := t) (a := 0) (b := 1) (by omega) (by omega)
    have b := bex (s := s) (a := 0) (b := 1) (by omega) (by omega)
    rw [e1 0 1 (by omega), b] at a
    injection a with a _
    exact a.symm
  unfold decR at h ⊢
  rw [if_neg (by omega)] at h
  rw [if_neg (by omega), hbt]
  obtain ⟨m, q, hm⟩ := head_some (bt s 0)
  rw [hm] at h ⊢
  simp only [] at h ⊢
  by_cases hm0 : m < 0
  · rw [if_pos hm0] at h; cases h
  · rw [if_neg hm0] at h ⊢
    by_cases hz : (s.size : Int) ≤ m
    · rw [if_pos hz] at h; cases h
    · rw [if_neg hz] at h
      have hd := dec_end h
      have hnm : (n : Int) = m.toNat + 1 := hd.2.2.1
      rw [if_neg (by omega)]
      unfold decEnd at h ⊢
      rw [e1 1 (m.toNat + 1) (by omega)]
      exact h
theorem decR_app {s : ByteArray} (t : ByteArray) {r : Int} {n : Nat} (h : decR s = (r, (n : Int), 0)) : decR (s ++ t) = (r, (n : Int), 0) := by
  have hb := decR_n h
  exact decR_pre h (ext_app_l s t 0 n (by omega)) (by rw [ByteArray.size_append]; omega)
theorem refEnd_yes {s : ByteArray} {n : Nat} {acc r k : Int} (h : refEnd s n acc = some (r, k, 0)) : r = acc ∧ k = n ∧ (encS acc).1 = s.extract 0 n := by
  unfold refEnd at h
  rw [ref02_encode] at h
  simp only [Option.bind_some] at h
  split at h
  · split at h
    · split at h
      · split at h
        · rename_i e
          injection h with h
          injection h with h1 h2
          injection h2 with h2 h3
          exact ⟨h1.symm, h2.symm, toList_inj.1 e⟩
        · injection h with h; injection h with h1 h2; injection h2 with h2 h3; cases h3
      · cases h
    · cases h
  · injection h with h; injection h with h1 h2; injection h2 with h2 h3; cases h3
/-- A rune's bytes are those that it was read from. -/
theorem decR_enc {s : ByteArray} {r : Int} {n : Nat} (h : decR s = (r, (n : Int), 0)) : (encS r).1 = s.extract 0 n := by
  have hb0 := decR_n h
  unfold decR at h
  rw [if_neg (by omega)] at h
  have hb := bt_range s 0
  have hb1 := bt_range s 1
  have hb2 := bt_range s 2
  have hb3 := bt_range s 3
  rcases ref02_size hb.1 hb.2 with ⟨k1, k2, k3⟩ | ⟨k0, k1, k2, k3⟩ | ⟨k0, k1, k2, k3⟩ | ⟨k0, k1, k2, k3⟩ | ⟨k2, k3⟩
  · rw [k2] at h
    simp only [] at h
    rw [if_neg (by decide), if_neg (by omega)] at h
    have e := end1 (s := s) (by omega) k1
    rw [show (0 : Int).toNat = 0 from rfl] at h
    rw [h] at e
    have := refEnd_yes e
    obtain ⟨rfl, e2, e3⟩ := this
    rw [show n = 1 from by omega]; exact e3
  · rw [k2] at h
    simp only [] at h
    rw [if_neg (by decide)] at h
    by_cases hz : (s.size : Int) ≤ 1
    · rw [if_pos hz] at h; cases h
    · rw [if_neg hz] at h
      have e := end2 (s := s) (by omega) k0 k1
      rw [show (1 : Int).toNat = 1 from rfl] at h
      rw [h] at e
      obtain ⟨rfl, e2, e3⟩ := refEnd_yes e
      rw [show n = 2 from by omega]; exact e3
  · rw [k2] at h
    simp only [] at h
    rw [if_neg (by decide)] at h
    by_cases hz : (s.size : Int) ≤ 2
    · rw [if_pos hz] at h; cases h
    · rw [if_neg hz] at h
      have e := end3 (s := s) (by omega) k0 k1
      rw [show (2 : Int).toNat = 2 from rfl] at h
      rw [h] at e
      obtain ⟨rfl, e2, e3⟩ := refEnd_yes e
      rw [show n = 3 from by omega]; exact e3
  · rw [k2] at h
    simp only [] at h
    rw [if_neg (by decide)] at h
    by_cases hz : (s.size : Int) ≤ 3
    · rw [if_pos hz] at h; cases h
    · rw [if_neg hz] at h
      have e := end4 (s := s) (by omega) k0 k1
      rw [show (3 : Int).toNat = 3 from rfl] at h
      rw [h] at e
      obtain ⟨rfl, e2, e3⟩ := refEnd_yes e
      rw [show n = 4 from by omega]; exact e3
  · rw [k2] at h
    simp only [] at h
    rw [if_pos (by decide)] at h
    cases h
/-- An ASCII byte. -/
theorem decR_ascii (c : UInt8) (u : List UInt8) (h : c.toNat < 128) : decR (B (c :: u)) = ((c.toNat : Int), ((1 : Nat) : Int), 0) := by
  have hb : bt (B (c :: u)) 0 = (c.toNat : Int) := bt_list (B (c :: u)) 0 c rfl
  have hz : (B (c :: u)).size = u.length + 1 := B_size _
  unfold decR
  rw [if_neg (by omega), hb]
  rcases ref02_size (c := (c.toNat : Int)) (by omega) (by omega) with ⟨k1, k2, k3⟩ | ⟨k0, k1, k2, k3⟩ | ⟨k0, k1, k2, k3⟩ | ⟨k0, k1, k2, k3⟩ | ⟨k2, k3⟩
  · rw [k2]
    simp only []
    rw [if_neg (by decide), if_neg (by omega)]
    have hr : isR (c.toNat : Int) = true := by unfold isR; simp; omega
    unfold decEnd
    simp only [show (0 : Int).toNat = 0 from rfl, Nat.zero_add, bex0]
    have hl : ((encS (c.toNat : Int)).1.size : Int) = 1 := by rw [encS_len hr]; unfold encL; rw [if_pos (by omega)]; rfl
    have h0 := (encS_ok (c.toNat : Int)).2 hr
    simp only [List.all_nil, if_true]
    exact if_pos (⟨h0, by rw [show accR (c.toNat : Int) [] = (c.toNat : Int) from rfl]; omega⟩ : (encS (accR (c.toNat : Int) [])).2 = 0 ∧ ((encS (accR (c.toNat : Int) [])).1.size : Int) = ((0 : Nat) : Int) + 1)
  · omega
  · omega
  · omega
  · exfalso
    unfold utf_head.f at k2
    rw [if_neg (by omega), if_neg (by omega), if_neg (by omega), if_neg (by omega), if_neg (by omega), if_pos (by omega)] at k2
    injection k2 with k2; injection k2 with k2 k4; omega
theorem encS_ascii (c : UInt8) (h : c.toNat < 128) : (encS (c.toNat : Int)).1 = B [c] := by
  have := decR_enc (decR_ascii c [] h)
  rw [this, B_ext]; rfl

/-! Texts by runes -/
theorem eat_cons {s : ByteArray} {r : Int} {n : Nat} (h : decR s = (r, (n : Int), 0)) : eat s = (r :: (eat (s.extract n s.size)).1, (eat (s.extract n s.size)).2) := by
  have hb := decR_n h
  obtain ⟨k, hk⟩ : ∃ k, s.size = k + 1 := ⟨s.size - 1, by omega⟩
  have e1 : eat s = eatF (k + 1) s := by unfold eat; rw [hk]
  rw [e1, eatF, h]
  simp only [if_true, Int.toNat_natCast]
  have e2 : eatF k (s.extract n s.size) = eat (s.extract n s.size) := eatF_fuel _ _ _ (by rw [ByteArray.size_extract]; omega) (Nat.le_refl _)
  rw [e2]
theorem eat_stop {s : ByteArray} (h : (decR s).2.2 ≠ 0) : eat s = ([], s) := eatF_stop h _
theorem dec_nil : (decR (⟨#[]⟩ : ByteArray)).2.2 ≠ 0 := by rw [decR, if_pos (show (⟨#[]⟩ : ByteArray).size = 0 from rfl)]; decide
/-- A TEXT, RUNE BY RUNE. -/
theorem text_ind {P : ByteArray → List Int → Prop} (h0 : P ⟨#[]⟩ []) (h1 : ∀ (r : Int) (e u : ByteArray), isR r = true → e = (encS r).1 → 1 ≤ e.size → (∀ v, decR (e ++ v) = (r, (e.size : Int), 0)) → (eat u).2.size = 0 → P u (eat u).1 → P (e ++ u) (r :: (eat u).1)) :
    ∀ s, (eat s).2.size = 0 → P s (eat s).1 := by
  have go : ∀ (k : Nat) (s : ByteArray), s.size ≤ k → (eat s).2.size = 0 → P s (eat s).1 := by
    intro k
    induction k with
    | zero =>
      intro s hs hz
      obtain rfl := nil_of_size (s := s) (by omega)
      rw [eat_stop dec_nil]; exact h0
    | succ k ih =>
      intro s hs hz
      by_cases hd : (decR s).2.2 = 0
      · obtain ⟨r, m, e, h⟩ : ∃ r m e, decR s = (r, m, e) := ⟨_, _, _, rfl⟩
        rw [h] at hd
        obtain rfl : e = 0 := hd
        have hb := decR_n h
        obtain ⟨n, rfl⟩ := Int.eq_ofNat_of_zero_le (by omega : 0 ≤ m)
        have hc := eat_cons h
        rw [hc] at hz ⊢
        have he := decR_enc h
        have hsz : (s.extract 0 n).size = n := by rw [ByteArray.size_extract]; omega
        have := h1 r (s.extract 0 n) (s.extract n s.size) (decR_isR h) he.symm (by omega) (fun v => by
          rw [hsz]
          exact decR_pre h (by rw [ext_app_l _ _ 0 n (by omega)]; exact data_ext (by rw [ext_list, ext_list]; simp [List.take_take])) (by rw [ByteArray.size_append]; omega)) hz (ih _ (by rw [ByteArray.size_extract]; omega) hz)
        rw [split_at s n (by omega)] at this
        exact this
      · rw [eat_stop hd] at hz ⊢
        obtain rfl := nil_of_size (s := s) hz
        exact h0
  exact fun s => go s.size s (Nat.le_refl _)
theorem eat_app {s : ByteArray} (t : ByteArray) (h : (eat s).2.size = 0) : eat (s ++ t) = ((eat s).1 ++ (eat t).1, (eat t).2) := by
  refine text_ind (P := fun s l => eat (s ++ t) = (l ++ (eat t).1, (eat t).2)) ?_ ?_ s h
  · rw [nil_app]; rfl
  · intro r e u hr he h1 hd hz ih
    have := eat_cons (hd (u ++ t))
    rw [ext_app_r e (u ++ t) e.size (Nat.le_refl _), show e.extract e.size e.size = ⟨#[]⟩ from nil_of_size (by rw [ByteArray.size_extract]; omega), nil_app, ih] at this
    rw [app_assoc', this]; rfl
end Go.Proofs.YtbcjhmeeonhmaaaGreatDoor.H
end

/-
What put and Get say, in plain words: bytes and lists.
-/
section
set_option linter.unusedVariables false
set_option maxRecDepth 100000
namespace Go.Proofs.YtbcjhmeeonhmaaaGreatDoor.H
open Go Go.RowKit Go.Proofs.YtbcjhmeeonhmaaaGreatDoorW.PrintWords Go.Proofs.YtbcjhmeeonhmaaaGreatDoorW.PrintMore Go.Proofs.YtbcjhmeeonhmaaaGreatDoor.M

/-- A byte's escape. -/
def oneL (c : UInt8) : List UInt8 :=
  if c = 38 then [38, 97, 109, 112, 59] else if c = 60 then [38, 108, 116, 59] else if c = 62 then [38, 103, 116, 59] else if c = 34 then [38, 113, 117, 111, 116, 59] else
  if c = 9 then [38, 35, 57, 59] else if c = 10 then [38, 35, 49, 48, 59] else if c = 13 then [38, 35, 49, 51, 59] else [c]
def escT (l : List UInt8) : List UInt8 := l.flatMap oneL
theorem escT_app (a b : List UInt8) : escT (a ++ b) = escT a ++ escT b := by unfold escT; rw [List.flatMap_append]
theorem oneL_big {c : UInt8} (h : 128 ≤ c.toNat) : oneL c = [c] := by
  have hne : ∀ d : UInt8, d.toNat < 128 → c ≠ d := fun d hd e => by subst e; omega
  unfold oneL
  rw [if_neg (hne 38 (by decide)), if_neg (hne 60 (by decide)), if_neg (hne 62 (by decide)), if_neg (hne 34 (by decide)), if_neg (hne 9 (by decide)), if_neg (hne 10 (by decide)), if_neg (hne 13 (by decide))]
theorem esc_small : ∀ n : Nat, n < 128 → (esc1 (n : Int)).data.toList = escT ((encS (n : Int)).1.data.toList) := by decide +kernel
/-- A rune's bytes. -/
theorem enc_bytes {r : Int} (hr : isR r = true) {c : UInt8} (hc : c ∈ (encS r).1.data.toList) : (r < 128 ∧ (c.toNat : Int) = r ∧ (encS r).1 = B [c]) ∨ (128 ≤ r ∧ 128 ≤ c.toNat) := by
  have hb := isR_bd hr
  by_cases h : r < 128
  · left
    obtain ⟨n, rfl⟩ := Int.eq_ofNat_of_zero_le hb.1
    have hn : n < 128 := by omega
    have e : ((UInt8.ofNat n).toNat : Int) = (n : Int) := by rw [UInt8.toNat_ofNat']; omega
    have he := encS_ascii (UInt8.ofNat n) (by omega)
    rw [e] at he
    rw [he, B_list, List.mem_singleton] at hc
    subst hc
    exact ⟨h, e, he⟩
  · right
    refine ⟨by omega, ?_⟩
    unfold encS at hc
    rw [if_pos hr] at hc
    have hbd := encL_bd hr
    have hm : (c.toNat : Int) ∈ bytesOf (strOfNums (encL r)) := by unfold bytesOf; exact List.mem_map_of_mem (f := fun b : UInt8 => (b.toNat : Int)) hc
    rw [bytesOf_nums hbd] at hm
    have hge : ∀ x ∈ encL r, 128 ≤ x := by
      intro x hx
      unfold encL at hx
      rw [if_neg h] at hx
      by_cases a2 : r < 2048
      · rw [if_pos a2] at hx; simp at hx; omega
      · rw [if_neg a2] at hx
        by_cases a3 : r < 65536
        · rw [if_pos a3] at hx; simp at hx; omega
        · rw [if_neg a3] at hx; simp at hx; omega
    have := hge _ hm
    omega
theorem flat_same {l : List UInt8} (h : ∀ c ∈ l, oneL c = [c]) : escT l = l := by
  unfold escT
  induction l with
  | nil => rfl
  | cons a t ih => rw [List.flatMap_cons, h a (List.mem_cons_self ..), ih (fun c hc => h c (List.mem_cons_of_mem _ hc))]; rfl
theorem esc1_one (r : Int) (hr : isR r = true) : (esc1 r).data.toList = escT (encS r).1.data.toList := by
  have hb := isR_bd hr
  by_cases h : r < 128
  · obtain ⟨n, rfl⟩ := Int.eq_ofNat_of_zero_le hb.1
    exact esc_small n (by omega)
  · have he : escS r = (⟨#[]⟩, false) := by
      unfold escS
      rw [if_neg (by omega), if_neg (by omega), if_neg (by omega), if_neg (by omega), if_neg (by omega), if_neg (by omega), if_neg (by omega)]
    unfold esc1
    rw [he, if_neg (by decide)]
    refine (flat_same fun c hc => ?_).symm
    rcases enc_bytes hr hc with h1 | h1
    · omega
    · exact oneL_big h1.2
theorem escL_list (l : List Int) : (escL l).data.toList = l.flatMap fun r => (esc1 r).data.toList := by
  have : ∀ (l : List Int) (a : ByteArray), (l.foldl (fun a r => a ++ esc1 r) a).data.toList = a.data.toList ++ l.flatMap fun r => (esc1 r).data.toList := by
    intro l
    induction l with
    | nil => intro a; simp
    | cons r t ih => intro a; rw [List.foldl_cons, ih, app_list, List.flatMap_cons, List.append_assoc]
  unfold escL
  rw [this]; rfl
theorem escL_text {s : ByteArray} (h : (eat s).2.size = 0) : (escL (eat s).1).data.toList = escT s.data.toList := by
  refine text_ind (P := fun s l => (escL l).data.toList = escT s.data.toList) rfl ?_ s h
  intro r e u hr he h1 hd hz ih
  rw [escL_list] at ih ⊢
  rw [List.flatMap_cons, ih, app_list, escT_app, he, esc1_one r hr]
theorem isText_iff (s : ByteArray) : isTextS s = true ↔ (eat s).2.size = 0 ∧ ∀ r ∈ (eat s).1, isCharS r = true := by
  unfold isTextS; rw [Bool.and_eq_true, beq_iff_eq, List.all_eq_true]
theorem isText_app {s t : ByteArray} (hs : isTextS s = true) (ht : isTextS t = true) : isTextS (s ++ t) = true := by
  rw [isText_iff] at hs ht ⊢
  rw [eat_app t hs.1]
  refine ⟨ht.1, fun r hr => ?_⟩
  rcases List.mem_append.1 hr with hr | hr
  · exact hs.2 r hr
  · exact ht.2 r hr
/-- WHAT PUT SAYS. -/
theorem put_text {s : ByteArray} (h : isTextS s = true) : ePutS s = (B (escT s.data.toList), 0) := by
  unfold ePutS
  rw [if_pos h]
  exact Prod.ext (data_ext (by rw [escL_text ((isText_iff s).1 h).1]; rfl)) rfl
theorem put_none {s : ByteArray} (h : isTextS s ≠ true) : ePutS s = (⟨#[]⟩, 20) := by unfold ePutS; rw [if_neg h]
theorem eat_bytes {s : ByteArray} (h : (eat s).2.size = 0) : s.data.toList = (eat s).1.flatMap (fun r => (encS r).1.data.toList) ∧ ∀ r ∈ (eat s).1, isR r = true := by
  refine text_ind (P := fun s l => s.data.toList = l.flatMap (fun r => (encS r).1.data.toList) ∧ ∀ r ∈ l, isR r = true) ⟨rfl, fun r hr => by cases hr⟩ ?_ s h
  intro r e u hr he h1 hd hz ih
  refine ⟨by rw [List.flatMap_cons, app_list, ih.1, he], fun q hq => ?_⟩
  rcases List.mem_cons.1 hq with rfl | hq
  · exact hr
  · exact ih.2 q hq
theorem text_small {s : ByteArray} (h : isTextS s = true) {c : UInt8} (hc : c ∈ s.data.toList) (h1 : c.toNat < 128) : isCharS (c.toNat : Int) = true := by
  rw [isText_iff] at h
  obtain ⟨hb, hr⟩ := eat_bytes h.1
  rw [hb] at hc
  obtain ⟨r, hrm, hrc⟩ := List.mem_flatMap.1 hc
  rcases enc_bytes (hr r hrm) hrc with ⟨_, e, _⟩ | ⟨_, e⟩
  · rw [e]; exact h.2 r hrm
  · omega
theorem char_small : ∀ n : Nat, n < 32 → isCharS (n : Int) = true → n = 9 ∨ n = 10 ∨ n = 13 := by decide +kernel
theorem oneL_bd (c : UInt8) : 1 ≤ (oneL c).length ∧ (oneL c).length ≤ 6 := by
  unfold oneL
  repeat' split
  all_goals simp
theorem escT_size : ∀ l : List UInt8, l.length ≤ (escT l).length ∧ (escT l).length ≤ 6 * l.length
  | [] => by simp [escT]
  | c :: t => by
    have := escT_size t
    have h := oneL_bd c
    have e : escT (c :: t) = oneL c ++ escT t := List.flatMap_cons
    rw [e, List.length_append, List.length_cons]
    omega
theorem escT_more : ∀ l : List UInt8, (∃ c ∈ l, oneL c ≠ [c]) → l.length < (escT l).length
  | [], h => by obtain ⟨c, hc, _⟩ := h; cases hc
  | c :: t, h => by
    have e : escT (c :: t) = oneL c ++ escT t := List.flatMap_cons
    have hb := oneL_bd c
    have ht := escT_size t
    rw [e, List.length_append, List.length_cons]
    obtain ⟨d, hd, hne⟩ := h
    rcases List.mem_cons.1 hd with rfl | hd
    · have : (oneL d).length ≠ 1 := by
        unfold oneL at hne ⊢
        repeat' split
        all_goals first | (simp; done) | skip
        rename_i h1 h2 h3 h4 h5 h6 h7
        rw [if_neg h1, if_neg h2, if_neg h3, if_neg h4, if_neg h5, if_neg h6, if_neg h7] at hne
        exact absurd rfl hne
      omega
    · have := escT_more t ⟨d, hd, hne⟩
      omega

/-! Get -/
def egF : Nat → ByteArray → ByteArray × Option (Int × Nat)
  | 0, _ => (⟨#[]⟩, none)
  | k + 1, t => if t.size = 0 then (⟨#[]⟩, none) else match runeE t with
    | .error why => (⟨#[]⟩, some (why, t.size))
    | .ok (out, n) => (out ++ (egF k (t.extract n t.size)).1, (egF k (t.extract n t.size)).2)
def eg (t : ByteArray) : ByteArray × Option (Int × Nat) := egF t.size t
/-- WHAT GET SAYS. -/
def egS (s : ByteArray) : ByteArray × Int × Int := match (eg s).2 with
  | none => ((eg s).1, 0, 0)
  | some (why, m) => (⟨#[]⟩, (s.size : Int) - m, why)
theorem egF_nil {t : ByteArray} (h : t.size = 0) (k : Nat) : egF k t = (⟨#[]⟩, none) := by
  cases k with
  | zero => rfl
  | succ k => rw [egF, if_pos h]
theorem egF_err {t : ByteArray} {why : Int} (h0 : t.size ≠ 0) (h : runeE t = .error why) (k : Nat) : egF (k + 1) t = (⟨#[]⟩, some (why, t.size)) := by
  rw [egF, if_neg h0, h]
theorem egF_ok {t out : ByteArray} {n : Nat} (h : runeE t = .ok (out, n)) (k : Nat) : egF (k + 1) t = (out ++ (egF k (t.extract n t.size)).1, (egF k (t.extract n t.size)).2) := by
  have hb := runeE_bd h
  rw [egF, if_neg (by omega), h]
theorem egF_fuel : ∀ (p q : Nat) (t : ByteArray), t.size ≤ p → t.size ≤ q → egF p t = egF q t := by
  intro p
  induction p with
  | zero => intro q t hp hq; rw [egF_nil (by omega), egF_nil (by omega)]
  | succ p ih =>
    intro q t hp hq
    by_cases h0 : t.size = 0
    · rw [egF_nil h0, egF_nil h0]
    · obtain ⟨q, rfl⟩ : ∃ j, q = j + 1 := ⟨q - 1, by omega⟩
      cases h : runeE t with
      | error why => rw [egF_err h0 h, egF_err h0 h]
      | ok x =>
        obtain ⟨out, n⟩ := x
        have hb := runeE_bd h
        rw [egF_ok h, egF_ok h, ih q (t.extract n t.size) (by rw [ByteArray.size_extract]; omega) (by rw [ByteArray.size_extract]; omega)]
theorem eg_nil {t : ByteArray} (h : t.size = 0) : eg t = (⟨#[]⟩, none) := egF_nil h _
theorem eg_err {t : ByteArray} {why : Int} (h0 : t.size ≠ 0) (h : runeE t = .error why) : eg t = (⟨#[]⟩, some (why, t.size)) := by
  obtain ⟨k, hk⟩ : ∃ k, t.size = k + 1 := ⟨t.size - 1, by omega⟩
  have := egF_err h0 h k
  unfold eg
  rw [← hk] at this
  exact this
theorem eg_ok {t out : ByteArray} {n : Nat} (h : runeE t = .ok (out, n)) : eg t = (out ++ (eg (t.extract n t.size)).1, (eg (t.extract n t.size)).2) := by
  have hb := runeE_bd h
  obtain ⟨k, hk⟩ : ∃ k, t.size = k + 1 := ⟨t.size - 1, by omega⟩
  have e := egF_ok h k
  have e2 : egF k (t.extract n t.size) = eg (t.extract n t.size) := egF_fuel _ _ _ (by rw [ByteArray.size_extract]; omega) (Nat.le_refl _)
  unfold eg
  rw [e2] at e
  have e3 : egF t.size t = egF (k + 1) t := by rw [hk]
  rw [e3]; exact e
theorem Pts.eg {s t : ByteArray} {pre : List ByteArray} (h : Pts s pre t) : H.eg s = (catL pre ++ (H.eg t).1, (H.eg t).2) := by
  induction h with
  | nil => rw [show catL [] = ⟨#[]⟩ from rfl, nil_app]
  | snoc h h0 hr ih => rw [ih, eg_ok hr, catL_snoc, app_assoc']
theorem egS_done {s t : ByteArray} {xs : List ByteArray} (h : Pts s xs t) (ht : t.size = 0) : egS s = (catL xs, 0, 0) := by
  have := h.eg
  rw [eg_nil ht, app_nil] at this
  unfold egS
  rw [this]
theorem egS_bad {s t : ByteArray} {xs : List ByteArray} {why : Int} (h : Pts s xs t) (h0 : t.size ≠ 0) (hr : runeE t = .error why) : egS s = (⟨#[]⟩, (s.size : Int) - t.size, why) := by
  have := h.eg
  rw [eg_err h0 hr] at this
  unfold egS
  rw [this]

/-! One rune of Get -/
theorem rune_bad {t : ByteArray} (h : (decR t).2.2 ≠ 0) : runeE t = .error 20 := by unfold runeE; rw [if_pos h]
theorem rune_lt {t : ByteArray} {n : Nat} (h : decR t = (60, (n : Int), 0)) : runeE t = .error 40 := by unfold runeE; rw [h]; simp
theorem rune_no {t : ByteArray} {r : Int} {n : Nat} (h : decR t = (r, (n : Int), 0)) (h2 : isCharS r = false) : runeE t = .error 40 := by
  unfold runeE; rw [h]
  simp only [ne_eq, not_true_eq_false, if_false, h2, if_true]
  split <;> rfl
theorem enc_not13 {r : Int} (hr : isR r = true) (h : r ≠ 13) : (encS r).1 ≠ ⟨#[13]⟩ := by
  intro e
  have : (13 : UInt8) ∈ (encS r).1.data.toList := by rw [e]; simp
  rcases enc_bytes hr this with ⟨_, e, _⟩ | ⟨_, e⟩
  · exact h e.symm
  · exact absurd e (by decide)
theorem rune_plain {t : ByteArray} {r : Int} {n : Nat} (h : decR t = (r, (n : Int), 0)) (h1 : r ≠ 60) (h2 : isCharS r = true) (h3 : r ≠ 38) (h4 : r ≠ 13) : runeE t = .ok ((encS r).1, n) := by
  have he := decR_enc h
  have hne := enc_not13 (decR_isR h) h4
  unfold runeE
  rw [h]
  simp only [ne_eq, not_true_eq_false, if_false, if_neg h1, h2, if_neg h3, Int.toNat_natCast]
  rw [if_neg (by decide)]
  unfold outE
  rw [← he, if_neg hne]
theorem enc13 : (encS 13).1 = ⟨#[13]⟩ := by decide +kernel
theorem rune_cr {t : ByteArray} (h : decR t = (13, ((1 : Nat) : Int), 0)) : runeE t = .ok (⟨#[10]⟩, if Lib.hasPrefix t.data.toList [13, 10] = true then 2 else 1) := by
  have he := decR_enc h
  rw [enc13] at he
  have hc : isCharS 13 = true := by decide +kernel
  unfold runeE
  rw [h]
  simp only [ne_eq, not_true_eq_false, if_false, hc, Int.toNat_natCast]
  rw [if_neg (by decide), if_neg (by decide), if_neg (by decide)]
  unfold outE
  rw [← he, if_pos rfl]
theorem enc38 : (encS 38).1 = ⟨#[38]⟩ := by decide +kernel
theorem rune_amp {t : ByteArray} (h : decR t = (38, ((1 : Nat) : Int), 0)) : runeE t = if (refS t).2.2 ≠ 0 then .error (refS t).2.2 else .ok ((encS (refS t).1).1, (refS t).2.1.toNat) := by
  have he := decR_enc h
  rw [enc38] at he
  have hc : isCharS 38 = true := by decide +kernel
  unfold runeE
  rw [h]
  simp only [ne_eq, not_true_eq_false, if_false, hc, Int.toNat_natCast, if_true]
  rw [if_neg (by decide), if_neg (by decide)]
  unfold outE
  rw [← he, if_neg (show ¬ (⟨#[38]⟩ : ByteArray) = ⟨#[13]⟩ by decide)]

/-! References -/
def refG (x : ByteArray) (ok : Bool) (i : Int) : Int × Int × Int :=
  if ok = true ∧ 1 ≤ i ∧ i < 12 then (if bodyR (x.extract 0 i.toNat) = 0 then (0, 0, 40) else (bodyR (x.extract 0 i.toNat), i + 2, 0)) else (0, 0, 40)
theorem refS_G {s x : ByteArray} {ok : Bool} {i : Int} (h : pfxS s 38 = (x, ok)) (hi : Lib.indexByte x.data.toList 59 = i) : refS s = refG x ok i := by
  subst hi
  have : refS s = refG (pfxS s 38).1 (pfxS s 38).2 (Lib.indexByte (pfxS s 38).1.data.toList 59) := rfl
  rw [this, h]
theorem pfx_cons (c : UInt8) (l : List UInt8) : pfxS (B (c :: l)) c = (B l, true) := by
  unfold pfxS Lib.trimPrefix Lib.hasPrefix
  rw [B_list]
  simp [List.isPrefixOf]; rfl
theorem pfx_not (c : UInt8) (l : List UInt8) (h : l.head? ≠ some c) : pfxS (B l) c = (B l, false) := by
  unfold pfxS Lib.trimPrefix Lib.hasPrefix
  rw [B_list]
  cases l with
  | nil => rfl
  | cons a t =>
    have : (c == a) = false := by rw [beq_eq_false_iff_ne]; intro e; exact h (by rw [e]; rfl)
    simp [List.isPrefixOf, this]; rfl
theorem idx_body {body u : List UInt8} (h3 : (59 : UInt8) ∉ body) : Lib.indexByte (body ++ 59 :: u) 59 = (body.length : Int) := by
  refine idx_at ?_ ?_
  · rw [List.getElem?_append_right (Nat.le_refl _), Nat.sub_self]; rfl
  · intro j hj hh
    rw [List.getElem?_append_left hj] at hh
    exact h3 (List.mem_of_getElem? hh)
theorem ref_ok {body u : List UInt8} (h1 : 1 ≤ body.length) (h2 : body.length < 12) (h3 : (59 : UInt8) ∉ body) :
    refS (B (38 :: (body ++ 59 :: u))) = if bodyR (B body) = 0 then (0, 0, 40) else (bodyR (B body), (body.length : Int) + 2, 0) := by
  rw [refS_G (pfx_cons 38 (body ++ 59 :: u)) (idx_body h3)]
  unfold refG
  have : (B (body ++ 59 :: u)).extract 0 ((body.length : Int)).toNat = B body := by rw [Int.toNat_natCast, B_ext, List.drop_zero, Nat.sub_zero, List.take_left]
  rw [if_pos ⟨rfl, by omega, by omega⟩, this]
theorem ref_err (s : ByteArray) (h : (refS s).2.2 ≠ 0) : refS s = (0, 0, 40) := by
  unfold refS at h ⊢
  by_cases hc : (pfxS s 38).2 = true ∧ 1 ≤ Lib.indexByte (pfxS s 38).1.data.toList 59 ∧ Lib.indexByte (pfxS s 38).1.data.toList 59 < 12
  · rw [if_pos hc] at h ⊢
    by_cases hz : bodyR ((pfxS s 38).1.extract 0 (Lib.indexByte (pfxS s 38).1.data.toList 59).toNat) = 0
    · rw [if_pos hz]
    · rw [if_neg hz] at h; exact absurd rfl h
  · rw [if_neg hc]
theorem ref_inv {l : List UInt8} (h : (refS (B l)).2.2 = 0) : ∃ body u, l = 38 :: (body ++ 59 :: u) ∧ 1 ≤ body.length ∧ body.length < 12 ∧ (59 : UInt8) ∉ body ∧ bodyR (B body) ≠ 0 := by
  by_cases hh : l.head? = some 38
  · obtain ⟨t, rfl⟩ : ∃ t, l = 38 :: t := by
      cases l with
      | nil => cases hh
      | cons a t => simp at hh; exact ⟨t, by rw [hh]⟩
    obtain ⟨i, hi⟩ : ∃ i, Lib.indexByte t 59 = i := ⟨_, rfl⟩
    rw [refS_G (pfx_cons 38 t) hi] at h
    unfold refG at h
    by_cases hc : True ∧ 1 ≤ i ∧ i < 12
    · rw [if_pos (by simpa using hc)] at h
      obtain ⟨k, rfl⟩ := Int.eq_ofNat_of_zero_le (by omega : 0 ≤ i)
      rw [Int.toNat_natCast] at h
      obtain ⟨h1, h2⟩ := Lib.indexByte_some hi
      have hlt := (List.getElem?_eq_some_iff.1 h1).1
      have hx : (B t).extract 0 k = B (t.take k) := by rw [B_ext, List.drop_zero, Nat.sub_zero]
      rw [hx] at h
      refine ⟨t.take k, t.drop (k + 1), ?_, by rw [List.length_take]; omega, by rw [List.length_take]; omega, ?_, ?_⟩
      · congr 1
        have e : t.drop k = 59 :: t.drop (k + 1) := by
          rw [List.drop_eq_getElem_cons hlt]
          rw [List.getElem?_eq_getElem hlt] at h1
          rw [Option.some.inj h1]
        rw [← e, List.take_append_drop]
      · intro hm
        obtain ⟨j, hj, e⟩ := List.getElem_of_mem hm
        rw [List.length_take] at hj
        refine h2 j (by omega) ?_
        rw [List.getElem?_eq_getElem (by omega)]
        rw [List.getElem_take] at e
        rw [e]
      · intro hz
        rw [if_pos hz] at h; cases h
    · rw [if_neg (by simpa using hc)] at h; cases h
  · rw [refS_G (pfx_not 38 l hh) rfl] at h
    unfold refG at h
    rw [if_neg (by simp)] at h
    cases h
end Go.Proofs.YtbcjhmeeonhmaaaGreatDoor.H
end

/-
The laws of escapes and raw texts, in plain words: two texts together; what is put is got; plain texts; line ends; digits.
-/
section
set_option linter.unusedVariables false
set_option maxRecDepth 100000
namespace Go.Proofs.YtbcjhmeeonhmaaaGreatDoor.H
open Go Go.RowKit Go.Proofs.YtbcjhmeeonhmaaaGreatDoorW.PrintWords Go.Proofs.YtbcjhmeeonhmaaaGreatDoorW.PrintMore Go.Proofs.YtbcjhmeeonhmaaaGreatDoor.M

theorem dec_small {s : ByteArray} {r : Int} {n : Nat} (h : decR s = (r, (n : Int), 0)) (hr : r < 128) : ∃ (c : UInt8) (u : List UInt8), s = B (c :: u) ∧ (c.toNat : Int) = r ∧ n = 1 := by
  have hR := decR_isR h
  have hb := isR_bd hR
  have hn := decR_n h
  obtain ⟨m, rfl⟩ := Int.eq_ofNat_of_zero_le hb.1
  have e : ((UInt8.ofNat m).toNat : Int) = (m : Int) := by rw [UInt8.toNat_ofNat']; omega
  have he := encS_ascii (UInt8.ofNat m) (by omega)
  rw [e] at he
  have h2 := decR_enc h
  rw [he] at h2
  have hz : (s.extract 0 n).size = n := by rw [ByteArray.size_extract]; omega
  have hn1 : n = 1 := by rw [← hz, ← h2]; rfl
  refine ⟨UInt8.ofNat m, (s.extract n s.size).data.toList, ?_, e, hn1⟩
  have := split_at s n (by omega)
  rw [← h2] at this
  exact this.symm.trans (data_ext (by rw [app_list]; rfl))
theorem rune_ref {body u : List UInt8} (h1 : 1 ≤ body.length) (h2 : body.length < 12) (h3 : (59 : UInt8) ∉ body) (hz : bodyR (B body) ≠ 0) : runeE (B (38 :: (body ++ 59 :: u))) = .ok ((encS (bodyR (B body))).1, body.length + 2) := by
  have hd := decR_ascii 38 (body ++ 59 :: u) (by decide)
  rw [rune_amp hd, ref_ok h1 h2 h3, if_neg hz]
  rw [if_neg (fun h => h rfl)]
  simp only []
  rw [show ((body.length : Int) + 2).toNat = body.length + 2 from by omega]

/-! Two texts together -/
theorem rune_app {s : ByteArray} (t : ByteArray) {out : ByteArray} {n : Nat} (h : runeE s = .ok (out, n)) (hl : s.data.toList.getLast? ≠ some 13) : runeE (s ++ t) = .ok (out, n) := by
  by_cases h0 : (decR s).2.2 = 0
  · obtain ⟨r, m, e, hd⟩ : ∃ r m e, decR s = (r, m, e) := ⟨_, _, _, rfl⟩
    rw [hd] at h0
    obtain rfl : e = 0 := h0
    have hb := decR_n hd
    obtain ⟨k, rfl⟩ := Int.eq_ofNat_of_zero_le (by omega : 0 ≤ m)
    have hdt := decR_app t hd
    by_cases h60 : r = 60
    · subst h60; rw [rune_lt hd] at h; cases h
    · by_cases hc : isCharS r = true
      · by_cases h38 : r = 38
        · subst h38
          obtain ⟨c, u, rfl, hcu, rfl⟩ := dec_small hd (by decide)
          rw [rune_amp hd] at h
          by_cases he : (refS (B (c :: u))).2.2 = 0
          · obtain ⟨body, v, e, b1, b2, b3, b4⟩ := ref_inv he
            rw [e] at hd hdt ⊢
            have hx : B (38 :: (body ++ 59 :: v)) ++ t = B (38 :: (body ++ 59 :: (v ++ t.data.toList))) := data_ext (by rw [app_list, B_list, B_list]; simp)
            rw [e, ref_ok b1 b2 b3, if_neg b4] at h
            rw [if_neg (fun h => h rfl)] at h
            simp only [] at h
            rw [show ((body.length : Int) + 2).toNat = body.length + 2 from by omega] at h
            rw [hx, rune_ref b1 b2 b3 b4]
            exact h
          · rw [if_pos he] at h; cases h
        · by_cases h13 : r = 13
          · subst h13
            obtain ⟨c, u, rfl, hcu, rfl⟩ := dec_small hd (by decide)
            obtain rfl : c = 13 := UInt8.toNat_inj.1 (by have : (13 : UInt8).toNat = 13 := rfl; omega)
            rw [rune_cr hd] at h
            rw [rune_cr hdt]
            cases u with
            | nil => exact absurd rfl hl
            | cons a v =>
              rw [app_list, B_list, List.cons_append, List.cons_append]
              rw [B_list] at h
              have e : Lib.hasPrefix (13 :: a :: (v ++ t.data.toList)) [13, 10] = Lib.hasPrefix (13 :: a :: v) [13, 10] := by unfold Lib.hasPrefix; simp [List.isPrefixOf]
              rw [e]; exact h
          · rw [rune_plain hd h60 hc h38 h13] at h
            rw [rune_plain hdt h60 hc h38 h13]; exact h
      · rw [rune_no hd (by simpa using hc)] at h; cases h
  · rw [rune_bad h0] at h; cases h
theorem eg_app : ∀ (k : Nat) (s t : ByteArray), s.size ≤ k → (eg s).2 = none → s.data.toList.getLast? ≠ some 13 → eg (s ++ t) = ((eg s).1 ++ (eg t).1, (eg t).2) := by
  intro k
  induction k with
  | zero =>
    intro s t hs h hl
    obtain rfl := nil_of_size (s := s) (by omega)
    rw [eg_nil (t := ⟨#[]⟩) rfl, nil_app, nil_app]
  | succ k ih =>
    intro s t hs h hl
    by_cases h0 : s.size = 0
    · obtain rfl := nil_of_size h0
      rw [eg_nil (t := ⟨#[]⟩) rfl, nil_app, nil_app]
    · cases hr : runeE s with
      | error why => rw [eg_err h0 hr] at h; cases h
      | ok x =>
        obtain ⟨out, n⟩ := x
        have hb := runeE_bd hr
        have ha := rune_app t hr hl
        rw [eg_ok hr] at h ⊢
        rw [eg_ok ha, ext_app_r s t n hb.2.1]
        have hl2 : (s.extract n s.size).data.toList.getLast? ≠ some 13 := by
          have hsp := split_at s n hb.2.1
          intro e
          apply hl
          rw [← hsp, app_list, List.getLast?_append, e]; rfl
        rw [ih (s.extract n s.size) t (by rw [ByteArray.size_extract]; omega) h hl2]
        simp only [app_assoc']

/-! What is put is got -/
theorem escL_cons (r : Int) (l : List Int) : escL (r :: l) = esc1 r ++ escL l := data_ext (by rw [app_list, escL_list, escL_list, List.flatMap_cons])
theorem rune_esc {r : Int} {e : ByteArray} (hr : isR r = true) (hc : isCharS r = true) (he : e = (encS r).1) (hd : ∀ v, decR (e ++ v) = (r, (e.size : Int), 0)) (u : ByteArray) : runeE (esc1 r ++ u) = .ok (e, (esc1 r).size) := by
  have named : ∀ (body : List UInt8), esc1 r = B (38 :: (body ++ [59])) → 1 ≤ body.length → body.length < 12 → (59 : UInt8) ∉ body → bodyR (B body) = r → r ≠ 0 → runeE (esc1 r ++ u) = .ok (e, (esc1 r).size) := by
    intro body h0 h1 h2 h3 h4 h5
    have hx : esc1 r ++ u = B (38 :: (body ++ 59 :: u.data.toList)) := by rw [h0]; exact data_ext (by rw [app_list, B_list, B_list]; simp)
    rw [hx, rune_ref h1 h2 h3 (by rw [h4]; exact h5), h4, he]
    rw [h0, B_size]
    simp
  by_cases a1 : r = 38
  · subst a1; exact named [97, 109, 112] (by decide +kernel) (by decide) (by decide) (by decide) (by decide +kernel) (by decide)
  by_cases a2 : r = 60
  · subst a2; exact named [108, 116] (by decide +kernel) (by decide) (by decide) (by decide) (by decide +kernel) (by decide)
  by_cases a3 : r = 62
  · subst a3; exact named [103, 116] (by decide +kernel) (by decide) (by decide) (by decide) (by decide +kernel) (by decide)
  by_cases a4 : r = 34
  · subst a4; exact named [113, 117, 111, 116] (by decide +kernel) (by decide) (by decide) (by decide) (by decide +kernel) (by decide)
  by_cases a5 : r = 9
  · subst a5; exact named [35, 57] (by decide +kernel) (by decide) (by decide) (by decide) (by decide +kernel) (by decide)
  by_cases a6 : r = 10
  · subst a6; exact named [35, 49, 48] (by decide +kernel) (by decide) (by decide) (by decide) (by decide +kernel) (by decide)
  by_cases a7 : r = 13
  · subst a7; exact named [35, 49, 51] (by decide +kernel) (by decide) (by decide) (by decide) (by decide +kernel) (by decide)
  have h1 : esc1 r = e := by
    unfold esc1 escS
    rw [if_neg a1, if_neg a2, if_neg a3, if_neg a4, if_neg a5, if_neg a6, if_neg a7, if_neg (by decide), he]
  rw [h1, rune_plain (hd u) a2 hc a1 a7, he]
theorem eg_esc {s : ByteArray} (h : isTextS s = true) : eg (B (escT s.data.toList)) = (s, none) := by
  rw [isText_iff] at h
  have := text_ind (P := fun s l => (∀ r ∈ l, isCharS r = true) → eg (escL l) = (s, none)) (fun _ => eg_nil (t := ⟨#[]⟩) rfl) ?_ s h.1 h.2
  · rw [← escL_text h.1]; exact this
  · intro r e u hr he h1 hd hz ih hall
    have hx := rune_esc hr (hall r (List.mem_cons_self ..)) he hd (escL (eat u).1)
    have hn : (esc1 r ++ escL (eat u).1).extract (esc1 r).size (esc1 r ++ escL (eat u).1).size = escL (eat u).1 := by
      rw [ext_app_r _ _ _ (Nat.le_refl _), show (esc1 r).extract (esc1 r).size (esc1 r).size = ⟨#[]⟩ from nil_of_size (by rw [ByteArray.size_extract]; omega), nil_app]
    rw [escL_cons, eg_ok hx, hn, ih (fun q hq => hall q (List.mem_cons_of_mem _ hq))]
/-- The escape's bytes. -/
theorem escT_bytes {l : List UInt8} (h : ∀ c ∈ l, c.toNat < 32 → c = 9 ∨ c = 10 ∨ c = 13) : ∀ c ∈ escT l, c ≠ 60 ∧ c ≠ 62 ∧ c ≠ 34 ∧ 32 ≤ c.toNat := by
  intro c hc
  obtain ⟨d, hd, hcd⟩ := List.mem_flatMap.1 hc
  have h0 := h d hd
  unfold oneL at hcd
  by_cases e1 : d = 38
  · rw [if_pos e1] at hcd; simp at hcd; rcases hcd with rfl | rfl | rfl | rfl | rfl <;> decide
  rw [if_neg e1] at hcd
  by_cases e2 : d = 60
  · rw [if_pos e2] at hcd; simp at hcd; rcases hcd with rfl | rfl | rfl | rfl <;> decide
  rw [if_neg e2] at hcd
  by_cases e3 : d = 62
  · rw [if_pos e3] at hcd; simp at hcd; rcases hcd with rfl | rfl | rfl | rfl <;> decide
  rw [if_neg e3] at hcd
  by_cases e4 : d = 34
  · rw [if_pos e4] at hcd; simp at hcd; rcases hcd with rfl | rfl | rfl | rfl | rfl | rfl <;> decide
  rw [if_neg e4] at hcd
  by_cases e5 : d = 9
  · rw [if_pos e5] at hcd; simp at hcd; rcases hcd with rfl | rfl | rfl | rfl <;> decide
  rw [if_neg e5] at hcd
  by_cases e6 : d = 10
  · rw [if_pos e6] at hcd; simp at hcd; rcases hcd with rfl | rfl | rfl | rfl | rfl <;> decide
  rw [if_neg e6] at hcd
  by_cases e7 : d = 13
  · rw [if_pos e7] at hcd; simp at hcd; rcases hcd with rfl | rfl | rfl | rfl | rfl <;> decide
  rw [if_neg e7, List.mem_singleton] at hcd
  subst hcd
  refine ⟨e2, e3, e4, ?_⟩
  by_cases hs : c.toNat < 32
  · rcases h0 hs with h0 | h0 | h0
    · exact absurd h0 e5
    · exact absurd h0 e6
    · exact absurd h0 e7
  · omega
theorem text_ctl {s : ByteArray} (h : isTextS s = true) : ∀ c ∈ s.data.toList, c.toNat < 32 → c = 9 ∨ c = 10 ∨ c = 13 := by
  intro c hc h1
  rcases char_small c.toNat h1 (text_small h hc (by omega)) with h2 | h2 | h2
  · exact .inl (UInt8.toNat_inj.1 (h2.trans rfl))
  · exact .inr (.inl (UInt8.toNat_inj.1 (h2.trans rfl)))
  · exact .inr (.inr (UInt8.toNat_inj.1 (h2.trans rfl)))

/-! Plain texts -/
def PlainB (c : UInt8) : Prop := c ≠ 38 ∧ c ≠ 60 ∧ c ≠ 62 ∧ c ≠ 34 ∧ 32 ≤ c.toNat
theorem oneL_plain {c : UInt8} (h : PlainB c) : oneL c = [c] := by
  obtain ⟨h1, h2, h3, h4, h5⟩ := h
  unfold oneL
  rw [if_neg h1, if_neg h2, if_neg h3, if_neg h4, if_neg (by rintro rfl; exact absurd h5 (by decide)), if_neg (by rintro rfl; exact absurd h5 (by decide)), if_neg (by rintro rfl; exact absurd h5 (by decide))]
theorem oneL_not {c : UInt8} (h : ¬ PlainB c) (h2 : c.toNat < 32 → c = 9 ∨ c = 10 ∨ c = 13) : oneL c ≠ [c] := by
  by_cases a1 : c = 38
  · subst a1; decide
  by_cases a2 : c = 60
  · subst a2; decide
  by_cases a3 : c = 62
  · subst a3; decide
  by_cases a4 : c = 34
  · subst a4; decide
  by_cases a5 : c.toNat < 32
  · rcases h2 a5 with rfl | rfl | rfl <;> decide
  · exact absurd ⟨a1, a2, a3, a4, by omega⟩ h
theorem eg_plain {s : ByteArray} (h : isTextS s = true) (hp : ∀ c ∈ s.data.toList, PlainB c) : eg s = (s, none) := by
  rw [isText_iff] at h
  refine text_ind (P := fun s l => (∀ r ∈ l, isCharS r = true) → (∀ c ∈ s.data.toList, PlainB c) → eg s = (s, none)) (fun _ _ => eg_nil (t := ⟨#[]⟩) rfl) ?_ s h.1 h.2 hp
  intro r e u hr he h1 hd hz ih hall hpl
  have hne : ∀ c : UInt8, c.toNat < 128 → ¬ PlainB c → r ≠ (c.toNat : Int) := by
    intro c hc hn hrc
    apply hn
    apply hpl
    rw [app_list]
    refine List.mem_append_left _ ?_
    rw [he, hrc, encS_ascii c hc]; simp [B_list]
  have hx := rune_plain (hd u) (hne 60 (by decide) (fun h => h.2.1 rfl)) (hall r (List.mem_cons_self ..)) (hne 38 (by decide) (fun h => h.1 rfl)) (hne 13 (by decide) (fun h => absurd h.2.2.2.2 (by decide)))
  have hn : (e ++ u).extract e.size (e ++ u).size = u := by
    rw [ext_app_r _ _ _ (Nat.le_refl _), show e.extract e.size e.size = ⟨#[]⟩ from nil_of_size (by rw [ByteArray.size_extract]; omega), nil_app]
  rw [eg_ok hx, hn, ih (fun q hq => hall q (List.mem_cons_of_mem _ hq)) (fun c hc => hpl c (by rw [app_list]; exact List.mem_append_right _ hc)), he]

/-! Line ends -/
def linesL : List UInt8 → List UInt8
  | [] => []
  | c :: t => if c = 13 then (if t.head? = some 10 then linesL t else 10 :: linesL t) else c :: linesL t
theorem lines_app : ∀ (a v : List UInt8), (∀ c ∈ a, c ≠ 13) → linesL (a ++ v) = a ++ linesL v
  | [], v, _ => rfl
  | c :: t, v, h => by
    rw [List.cons_append, linesL, if_neg (h c (List.mem_cons_self ..)), lines_app t v (fun d hd => h d (List.mem_cons_of_mem _ hd))]; rfl
theorem lines_10 (t : List UInt8) : linesL (10 :: t) = 10 :: linesL t := by rw [linesL, if_neg (by decide)]
theorem lines_inv : ∀ (a s v : List UInt8), linesL s = a ++ v → (∀ c ∈ a, c ≠ 10) → ∃ u, s = a ++ u ∧ linesL u = v
  | [], s, v, h, _ => ⟨s, rfl, h⟩
  | c :: a, [], v, h, _ => by cases h
  | c :: a, d :: t, v, h, hc => by
    have hc0 := hc c (List.mem_cons_self ..)
    rw [linesL] at h
    by_cases hd : d = 13
    · rw [if_pos hd] at h
      by_cases ht : t.head? = some 10
      · rw [if_pos ht] at h
        cases t with
        | nil => cases ht
        | cons x t =>
          simp at ht
          subst ht
          rw [lines_10, List.cons_append] at h
          injection h with h _
          exact absurd h.symm hc0
      · rw [if_neg ht, List.cons_append] at h
        injection h with h _
        exact absurd h.symm hc0
    · rw [if_neg hd, List.cons_append] at h
      injection h with h1 h2
      obtain ⟨u, e1, e2⟩ := lines_inv a t v h2 (fun x hx => hc x (List.mem_cons_of_mem _ hx))
      exact ⟨u, by rw [h1, e1]; rfl, e2⟩
theorem lines_no13 : ∀ (s : List UInt8), ∀ c ∈ linesL s, c ≠ 13
  | [], c, h => by cases h
  | d :: t, c, h => by
    rw [linesL] at h
    by_cases hd : d = 13
    · rw [if_pos hd] at h
      by_cases ht : t.head? = some 10
      · rw [if_pos ht] at h; exact lines_no13 t c h
      · rw [if_neg ht] at h
        rcases List.mem_cons.1 h with rfl | h
        · decide
        · exact lines_no13 t c h
    · rw [if_neg hd] at h
      rcases List.mem_cons.1 h with rfl | h
      · exact hd
      · exact lines_no13 t c h
theorem lines_twice (s : List UInt8) : linesL (linesL s) = linesL s := by
  have := lines_app (linesL s) [] (lines_no13 s)
  rw [List.append_nil] at this
  rw [this]; exact List.append_nil _
theorem lines_len : ∀ s : List UInt8, (linesL s).length ≤ s.length
  | [] => Nat.le_refl _
  | c :: t => by
    have := lines_len t
    rw [linesL]
    by_cases hc : c = 13
    · rw [if_pos hc]
      by_cases ht : t.head? = some 10
      · rw [if_pos ht, List.length_cons]; omega
      · rw [if_neg ht, List.length_cons, List.length_cons]; omega
    · rw [if_neg hc, List.length_cons, List.length_cons]; omega
theorem getL_nil (b acc : Nat) : getL b [] acc = some acc := rfl
theorem getL_c (b : Nat) (c : UInt8) (t : List UInt8) (acc : Nat) : getL b (c :: t) acc = match step b acc (c.toNat : Int) with | none => none | some a => getL b t a := rfl
theorem getL_dig (b : Nat) : ∀ (l : List UInt8) (acc n : Nat), getL b l acc = some n → ∀ c ∈ l, 0 ≤ dgV b (c.toNat : Int) := by
  intro l
  induction l with
  | nil => intro acc n h c hc; cases hc
  | cons d t ih =>
    intro acc n h c hc
    rw [getL_c] at h
    obtain ⟨o, hs⟩ : ∃ o, step b acc (d.toNat : Int) = o := ⟨_, rfl⟩
    rw [hs] at h
    cases o with
    | none => cases h
    | some a =>
      have hd : 0 ≤ dgV b (d.toNat : Int) := by
        obtain ⟨q, hq⟩ : ∃ q, dgV b (d.toNat : Int) = q := ⟨_, rfl⟩
        unfold step at hs
        rw [hq] at hs ⊢
        by_cases hn : q < 0
        · rw [if_pos hn] at hs; cases hs
        · omega
      rcases List.mem_cons.1 hc with rfl | hc
      · exact hd
      · exact ih a n h c hc
theorem dg_no (b : Nat) : dgV b 10 = -1 ∧ dgV b 13 = -1 := by
  have l1 : low 10 = 10 := by decide
  have l2 : low 13 = 13 := by decide
  have d1 : dv 10 = -1 := by decide
  have d2 : dv 13 = -1 := by decide
  unfold dgV rv
  rw [l1, l2, d1, d2]
  exact ⟨if_neg (by omega), if_neg (by omega)⟩
theorem digN_clean {b : Nat} {t : ByteArray} (h : digN b t ≠ 0) : ∀ c ∈ t.data.toList, c ≠ 10 ∧ c ≠ 13 := by
  unfold digN at h
  by_cases hh : (getC b t).2 = 0 ∧ t.size ≤ 8 ∧ isCharS (wrap64 (getC b t).1) = true
  · have h2 := hh.1
    unfold getC getN at h2
    by_cases h0 : t.size = 0
    · rw [if_pos h0] at h2; cases h2
    · rw [if_neg h0] at h2
      cases hg : getL b t.data.toList 0 with
      | none => rw [hg] at h2; cases h2
      | some n =>
        intro c hc
        have := getL_dig b _ _ _ hg c hc
        have hn := dg_no b
        constructor
        · rintro rfl
          rw [show ((10 : UInt8).toNat : Int) = 10 from rfl] at this; omega
        · rintro rfl
          rw [show ((13 : UInt8).toNat : Int) = 13 from rfl] at this; omega
  · rw [if_neg hh] at h; exact absurd rfl h
theorem pfx_cases (l : List UInt8) (c : UInt8) : (∃ t, l = c :: t ∧ pfxS (B l) c = (B t, true)) ∨ (l.head? ≠ some c ∧ pfxS (B l) c = (B l, false)) := by
  by_cases h : l.head? = some c
  · left
    cases l with
    | nil => cases h
    | cons a t => simp at h; subst h; exact ⟨t, rfl, pfx_cons a t⟩
  · exact .inr ⟨h, pfx_not c l h⟩
theorem digS_clean {l : List UInt8} (h : digS (B l) ≠ 0) : ∀ c ∈ l, c ≠ 10 ∧ c ≠ 13 := by
  unfold digS at h
  rcases pfx_cases l 120 with ⟨t, rfl, e⟩ | ⟨_, e⟩
  · rw [e, if_pos rfl] at h
    have := digN_clean h
    intro c hc
    rcases List.mem_cons.1 hc with rfl | hc
    · decide
    · exact this c hc
  · rw [e, if_neg (fun h => by cases h)] at h
    exact digN_clean h
theorem nameR_cases (body : ByteArray) (r0 : Int) : ∀ k : Nat, (∃ j, j < k ∧ wordK j = body ∧ nameR body r0 k = rsL.getD j 0) ∨ (nameR body r0 k = r0 ∧ ∀ j, j < k → wordK j ≠ body)
  | 0 => .inr ⟨rfl, fun j h => by omega⟩
  | k + 1 => by
    rw [nameR]
    by_cases h : wordK k = body
    · rw [if_pos h]; exact .inl ⟨k, by omega, h, rfl⟩
    · rw [if_neg h]
      rcases nameR_cases body r0 k with ⟨j, h1, h2, h3⟩ | ⟨h1, h2⟩
      · exact .inl ⟨j, by omega, h2, h3⟩
      · refine .inr ⟨h1, fun j hj => ?_⟩
        rcases Nat.lt_succ_iff_lt_or_eq.1 hj with g | rfl
        · exact h2 j g
        · exact h
theorem word_clean : ∀ k : Nat, k < 5 → ∀ c ∈ (wordK k).data.toList, c ≠ 10 ∧ c ≠ 13 ∧ c ≠ 35 := by decide +kernel
theorem body_clean {l : List UInt8} (h : bodyR (B l) ≠ 0) : ∀ c ∈ l, c ≠ 10 ∧ c ≠ 13 := by
  unfold bodyR at h
  rcases nameR_cases (B l) (if (pfxS (B l) 35).2 = true then digS (pfxS (B l) 35).1 else 0) 5 with ⟨j, h1, h2, h3⟩ | ⟨h1, h2⟩
  · intro c hc
    have := word_clean j h1 c (by rw [h2]; exact hc)
    exact ⟨this.1, this.2.1⟩
  · rw [h1] at h
    rcases pfx_cases l 35 with ⟨t, rfl, e⟩ | ⟨_, e⟩
    · rw [e, if_pos rfl] at h
      have := digS_clean h
      intro c hc
      rcases List.mem_cons.1 hc with rfl | hc
      · decide
      · exact this c hc
    · rw [e, if_neg (fun h => by cases h)] at h; exact absurd rfl h
/-- The rune that begins with a byte past ASCII. -/
theorem dec_big {s : ByteArray} {r : Int} {n : Nat} {c : UInt8} (h : decR s = (r, (n : Int), 0)) (hc : s.data.toList.head? = some c) (h1 : 128 ≤ c.toNat) : 128 ≤ r ∧ ∀ d ∈ s.data.toList.take n, 128 ≤ d.toNat := by
  have hr : 128 ≤ r := by
    by_cases hr : r < 128
    · obtain ⟨d, u, rfl, e, _⟩ := dec_small h hr
      rw [B_list] at hc
      injection hc with hc
      subst hc; omega
    · omega
  refine ⟨hr, fun d hd => ?_⟩
  have he := decR_enc h
  have hl : (encS r).1.data.toList = s.data.toList.take n := by rw [he, ext_list, List.drop_zero, Nat.sub_zero]
  rw [← hl] at hd
  rcases enc_bytes (decR_isR h) hd with ⟨e, _⟩ | ⟨_, e⟩
  · omega
  · exact e
theorem take_split (l : List UInt8) (n : Nat) : l = l.take n ++ l.drop n := (List.take_append_drop n l).symm
theorem drop_cut {e v : List UInt8} {n : Nat} (h : e.length = n) : (e ++ v).drop n = v := by rw [← h]; exact List.drop_left
def errW (x : Option (Int × Nat)) : Option Int := x.map (·.1)
set_option maxHeartbeats 1000000 in
theorem eg_lines : ∀ (k : Nat) (s : List UInt8), s.length ≤ k → (eg (B (linesL s))).1 = (eg (B s)).1 ∧ errW (eg (B (linesL s))).2 = errW (eg (B s)).2 := by
  intro k
  induction k with
  | zero =>
    intro s hs
    obtain rfl : s = [] := List.eq_nil_of_length_eq_zero (by omega)
    exact ⟨rfl, rfl⟩
  | succ k ih =>
    intro s hs
    have both : ∀ {out : ByteArray} {n m : Nat} {u : List UInt8}, runeE (B s) = .ok (out, n) → runeE (B (linesL s)) = .ok (out, m) → s.drop n = u → (linesL s).drop m = linesL u → u.length ≤ k → (eg (B (linesL s))).1 = (eg (B s)).1 ∧ errW (eg (B (linesL s))).2 = errW (eg (B s)).2 := by
      intro out n m u h1 h2 h3 h4 h5
      rw [eg_ok h1, eg_ok h2, B_drop, B_drop, h3, h4]
      have := ih u h5
      simp only []
      exact ⟨by rw [this.1], this.2⟩
    have errs : ∀ {why : Int}, s ≠ [] → linesL s ≠ [] → runeE (B s) = .error why → runeE (B (linesL s)) = .error why → (eg (B (linesL s))).1 = (eg (B s)).1 ∧ errW (eg (B (linesL s))).2 = errW (eg (B s)).2 := by
      intro why h1 h2 h3 h4
      have z1 : (B s).size ≠ 0 := by rw [B_size]; exact fun e => h1 (List.eq_nil_of_length_eq_zero e)
      have z2 : (B (linesL s)).size ≠ 0 := by rw [B_size]; exact fun e => h2 (List.eq_nil_of_length_eq_zero e)
      rw [eg_err z1 h3, eg_err z2 h4]; exact ⟨rfl, rfl⟩
    cases s with
    | nil => exact ⟨rfl, rfl⟩
    | cons c t =>
      rw [List.length_cons] at hs
      have h10 : ∀ v : List UInt8, runeE (B (10 :: v)) = .ok (⟨#[10]⟩, 1) := by
        intro v
        have hd := decR_ascii 10 v (by decide)
        have := rune_plain hd (by decide) (by decide +kernel) (by decide) (by decide)
        rw [this]
        have e : (encS ((10 : UInt8).toNat : Int)).1 = ⟨#[10]⟩ := by decide +kernel
        rw [e]
      by_cases h13 : c = 13
      · subst h13
        have hd := decR_ascii 13 t (by decide)
        have hcr := rune_cr hd
        rw [B_list] at hcr
        by_cases ht : t.head? = some 10
        · cases t with
          | nil => cases ht
          | cons x u =>
            simp at ht
            subst ht
            rw [if_pos (by unfold Lib.hasPrefix; simp [List.isPrefixOf])] at hcr
            have hl : linesL (13 :: 10 :: u) = 10 :: linesL u := by rw [linesL, if_pos rfl, if_pos (show (10 :: u).head? = some 10 from rfl), lines_10]
            refine both (u := u) hcr (by rw [hl]; exact h10 _) rfl (by rw [hl]; rfl) (by rw [List.length_cons] at hs; omega)
        · have hp : Lib.hasPrefix (13 :: t) [13, 10] = false := by
            unfold Lib.hasPrefix
            cases t with
            | nil => rfl
            | cons x u =>
              have : (10 == x) = false := by rw [beq_eq_false_iff_ne]; intro e; exact ht (by rw [← e]; rfl)
              simp [List.isPrefixOf, this]
          rw [hp, if_neg (by decide)] at hcr
          have hl : linesL (13 :: t) = 10 :: linesL t := by rw [linesL, if_pos rfl, if_neg ht]
          exact both (u := t) hcr (by rw [hl]; exact h10 _) rfl (by rw [hl]; rfl) (by omega)
      · have hl : linesL (c :: t) = c :: linesL t := by rw [linesL, if_neg h13]
        have hne : linesL (c :: t) ≠ [] := by rw [hl]; exact List.cons_ne_nil _ _
        by_cases hc : c.toNat < 128
        · have hd1 := decR_ascii c t hc
          have hd2 := decR_ascii c (linesL t) hc
          rw [← hl] at hd2
          by_cases h60 : (c.toNat : Int) = 60
          · rw [h60] at hd1 hd2
            exact errs (List.cons_ne_nil _ _) hne (rune_lt hd1) (rune_lt hd2)
          · by_cases hch : isCharS (c.toNat : Int) = true
            · by_cases h38 : (c.toNat : Int) = 38
              · obtain rfl : c = 38 := UInt8.toNat_inj.1 (by have : (38 : UInt8).toNat = 38 := rfl; omega)
                have a1 := rune_amp hd1
                have a2 := rune_amp hd2
                by_cases he : (refS (B (38 :: t))).2.2 = 0
                · obtain ⟨body, v, e, b1, b2, b3, b4⟩ := ref_inv he
                  injection e with _ e
                  subst e
                  have hcl := body_clean b4
                  have hlb : linesL (38 :: (body ++ 59 :: v)) = 38 :: (body ++ 59 :: linesL v) := by
                    have := lines_app (38 :: (body ++ [59])) v (by
                      intro x hx
                      rcases List.mem_cons.1 hx with rfl | hx
                      · decide
                      · rcases List.mem_append.1 hx with hx | hx
                        · exact (hcl x hx).2
                        · rw [List.mem_singleton] at hx; subst hx; decide)
                    simpa using this
                  refine both (u := v) (rune_ref b1 b2 b3 b4) (by rw [hlb]; exact rune_ref b1 b2 b3 b4) ?_ ?_ ?_
                  · rw [show 38 :: (body ++ 59 :: v) = (38 :: (body ++ [59])) ++ v from by simp]
                    exact drop_cut (by simp)
                  · rw [hlb, show 38 :: (body ++ 59 :: linesL v) = (38 :: (body ++ [59])) ++ linesL v from by simp]
                    exact drop_cut (by simp)
                  · simp at hs; omega
                · have he2 : ¬ (refS (B (linesL (38 :: t)))).2.2 = 0 := by
                    intro e
                    obtain ⟨body, v, e, b1, b2, b3, b4⟩ := ref_inv e
                    have hcl := body_clean b4
                    obtain ⟨u, e1, e2⟩ := lines_inv (38 :: (body ++ [59])) (38 :: t) v (by rw [e]; simp) (by
                      intro x hx
                      rcases List.mem_cons.1 hx with rfl | hx
                      · decide
                      · rcases List.mem_append.1 hx with hx | hx
                        · exact (hcl x hx).1
                        · rw [List.mem_singleton] at hx; subst hx; decide)
                    apply he
                    rw [e1, show (38 :: (body ++ [59])) ++ u = 38 :: (body ++ 59 :: u) from by simp, ref_ok b1 b2 b3, if_neg b4]
                  rw [if_pos he, ref_err _ he] at a1
                  rw [if_pos he2, ref_err _ he2] at a2
                  exact errs (List.cons_ne_nil _ _) hne a1 a2
              · have hn13 : (c.toNat : Int) ≠ 13 := fun e => h13 (UInt8.toNat_inj.1 (by have : (13 : UInt8).toNat = 13 := rfl; omega))
                exact both (u := t) (rune_plain hd1 h60 hch h38 hn13) (rune_plain hd2 h60 hch h38 hn13) rfl (by rw [hl]; rfl) (by omega)
            · have hch : isCharS (c.toNat : Int) = false := by simpa using hch
              exact errs (List.cons_ne_nil _ _) hne (rune_no hd1 hch) (rune_no hd2 hch)
        · have hc : 128 ≤ c.toNat := by omega
          have big : ∀ d : UInt8, 128 ≤ d.toNat → d ≠ 10 ∧ d ≠ 13 := fun d hd => ⟨by rintro rfl; exact absurd hd (by decide), by rintro rfl; exact absurd hd (by decide)⟩
          by_cases he : (decR (B (c :: t))).2.2 = 0
          · obtain ⟨r, m, e, hd⟩ : ∃ r m e, decR (B (c :: t)) = (r, m, e) := ⟨_, _, _, rfl⟩
            rw [hd] at he
            obtain rfl : e = 0 := he
            have hb := decR_n hd
            obtain ⟨n, rfl⟩ := Int.eq_ofNat_of_zero_le (by omega : 0 ≤ m)
            obtain ⟨hr, hall⟩ := dec_big hd (c := c) rfl hc
            rw [B_list] at hall
            have hn : n ≤ (c :: t).length := by have := hb.2.1; rw [B_size] at this; omega
            have hls : linesL (c :: t) = (c :: t).take n ++ linesL ((c :: t).drop n) := by
              have := lines_app ((c :: t).take n) ((c :: t).drop n) (fun d hd => (big d (hall d hd)).2)
              rw [← take_split] at this; exact this
            have htl : ((c :: t).take n).length = n := by rw [List.length_take]; omega
            have hd2 : decR (B (linesL (c :: t))) = (r, (n : Int), 0) := by
              refine decR_pre hd ?_ ?_
              · rw [B_ext, B_ext, List.drop_zero, List.drop_zero, Nat.sub_zero, hls, List.take_append_of_le_length (by omega), List.take_take, Nat.min_self]
              · rw [B_size, hls, List.length_append]; omega
            by_cases hch : isCharS r = true
            · refine both (u := (c :: t).drop n) (rune_plain hd (by omega) hch (by omega) (by omega)) (rune_plain hd2 (by omega) hch (by omega) (by omega)) rfl ?_ ?_
              · rw [hls]; exact drop_cut htl
              · rw [List.length_drop, List.length_cons]; omega
            · have hch : isCharS r = false := by simpa using hch
              exact errs (List.cons_ne_nil _ _) hne (rune_no hd hch) (rune_no hd2 hch)
          · have he2 : ¬ (decR (B (linesL (c :: t)))).2.2 = 0 := by
              intro e0
              obtain ⟨r, m, e, hd⟩ : ∃ r m e, decR (B (linesL (c :: t))) = (r, m, e) := ⟨_, _, _, rfl⟩
              rw [hd] at e0
              obtain rfl : e = 0 := e0
              have hb := decR_n hd
              obtain ⟨n, rfl⟩ := Int.eq_ofNat_of_zero_le (by omega : 0 ≤ m)
              obtain ⟨hr, hall⟩ := dec_big hd (c := c) (by rw [B_list, hl]; rfl) hc
              rw [B_list] at hall
              have hn : n ≤ (linesL (c :: t)).length := by have := hb.2.1; rw [B_size] at this; omega
              obtain ⟨u, e1, e2⟩ := lines_inv ((linesL (c :: t)).take n) (c :: t) ((linesL (c :: t)).drop n) (take_split _ _) (fun d hd => (big d (hall d hd)).1)
              have htl : ((linesL (c :: t)).take n).length = n := by rw [List.length_take]; omega
              apply he
              have hx : (B (c :: t)).extract 0 n = (B (linesL (c :: t))).extract 0 n := by
                rw [B_ext, B_ext, List.drop_zero, List.drop_zero, Nat.sub_zero]
                have : (c :: t).take n = ((linesL (c :: t)).take n ++ u).take n := by rw [← e1]
                rw [this, List.take_append_of_le_length (by omega), List.take_take, Nat.min_self]
              have hz : n ≤ (B (c :: t)).size := by
                rw [B_size]
                have : (c :: t).length = ((linesL (c :: t)).take n ++ u).length := by rw [← e1]
                rw [this, List.length_append]; omega
              rw [decR_pre hd hx hz]
            exact errs (List.cons_ne_nil _ _) hne (rune_bad he) (rune_bad he2)

/-! Digits -/
theorem getL_snoc (b : Nat) (c : UInt8) : ∀ (l : List UInt8) (acc : Nat), getL b (l ++ [c]) acc = (getL b l acc).bind fun a => step b a (c.toNat : Int) := by
  intro l
  induction l with
  | nil =>
    intro acc
    rw [List.nil_append, getL_c, getL_nil, Option.bind_some]
    cases step b acc (c.toNat : Int) <;> rfl
  | cons d t ih =>
    intro acc
    rw [List.cons_append, getL_c, getL_c]
    cases step b acc (d.toNat : Int) with
    | none => rfl
    | some a => exact ih a
theorem dg_chr (b : Nat) (hb : b = 8 ∨ b = 10 ∨ b = 16) (d : Nat) (h : d < b) : dgV b (chr d) = d := by
  have hl : low (chr d) = chr d := by unfold low chr; split <;> split <;> omega
  unfold dgV
  rw [hl]
  exact rv_hit hb h rfl
theorem step_dg (b : Nat) (hb : b = 8 ∨ b = 10 ∨ b = 16) (a d : Nat) (h : d < b) (hn : a * b + d < 18446744073709551616) : step b a (chr d) = some (a * b + d) := by
  unfold step
  rw [dg_chr b hb d h, if_neg (by omega), Int.toNat_natCast]
  rw [if_neg]
  rw [Nat.not_lt, Nat.le_div_iff_mul_le (by omega)]
  omega
theorem chr_byte (d : Nat) (h : d < 16) : ((UInt8.ofNat (chr d).toNat).toNat : Int) = chr d := by
  rw [UInt8.toNat_ofNat']
  unfold chr
  split <;> omega
theorem one_list (d : Nat) (h : d < 16) : (strOfNums [chr d]).data.toList = [UInt8.ofNat (chr d).toNat] := by rw [strOfNums_data]; rfl
theorem getL_put (b : Nat) (hb : b = 8 ∨ b = 10 ∨ b = 16) : ∀ (k n : Nat), n ≤ k → n < 18446744073709551616 → getL b (putS b n).data.toList 0 = some n := by
  intro k
  induction k with
  | zero =>
    intro n hn h
    obtain rfl : n = 0 := by omega
    rw [putS_stop (by simp), Nat.zero_mod, one_list 0 (by omega), getL_c, chr_byte 0 (by omega), step_dg b hb 0 0 (by omega) (by omega), Nat.zero_mul]
    rfl
  | succ k ih =>
    intro n hn h
    have hm : n % b < b := Nat.mod_lt _ (by omega)
    have hdm : n / b * b + n % b = n := by rw [Nat.mul_comm]; exact Nat.div_add_mod n b
    by_cases h0 : n / b = 0
    · rw [putS_stop h0, one_list _ (by omega), getL_c, chr_byte _ (by omega)]
      rw [step_dg b hb 0 (n % b) hm (by rw [h0] at hdm; omega)]
      rw [h0] at hdm
      simp only [getL_nil]
      rw [hdm]
    · rw [putS_more (by omega) h0, app_list, one_list _ (by omega), getL_snoc]
      have hlt : n / b ≤ n / 2 := Nat.div_le_div_left (by omega) (by omega)
      rw [ih (n / b) (by omega) (by omega), Option.bind_some, chr_byte _ (by omega), step_dg b hb _ _ hm (by omega), hdm]
theorem putS_len (b : Nat) (hb : 2 ≤ b) (n : Nat) : (putS b n).size ≠ 0 := by
  by_cases h : n / b = 0
  · rw [putS_stop h, strOfNums_size]; simp
  · rw [putS_more hb h, ByteArray.size_append, strOfNums_size]; simp
theorem getC_put (b : Nat) (hb : b = 8 ∨ b = 10 ∨ b = 16) (n : Nat) (h : n < 18446744073709551616) : getC b (putS b n) = ((n : Int), 0) := by
  unfold getC getN
  rw [if_neg (putS_len b (by omega) n), getL_put b hb n n (Nat.le_refl _) h]
theorem putS_digits (b : Nat) (hb : b = 8 ∨ b = 10 ∨ b = 16) : ∀ (k n : Nat), n ≤ k → ∀ c ∈ (putS b n).data.toList, ∃ d : Nat, d < b ∧ (c.toNat : Int) = chr d := by
  intro k
  induction k with
  | zero =>
    intro n hn c hc
    obtain rfl : n = 0 := by omega
    rw [putS_stop (by simp), Nat.zero_mod, one_list 0 (by omega), List.mem_singleton] at hc
    exact ⟨0, by omega, by rw [hc]; exact chr_byte 0 (by omega)⟩
  | succ k ih =>
    intro n hn c hc
    have hm : n % b < b := Nat.mod_lt _ (by omega)
    by_cases h0 : n / b = 0
    · rw [putS_stop h0, one_list _ (by omega), List.mem_singleton] at hc
      exact ⟨n % b, hm, by rw [hc]; exact chr_byte _ (by omega)⟩
    · rw [putS_more (by omega) h0, app_list, one_list _ (by omega)] at hc
      have hlt : n / b ≤ n / 2 := Nat.div_le_div_left (by omega) (by omega)
      rcases List.mem_append.1 hc with hc | hc
      · exact ih (n / b) (by omega) c hc
      · rw [List.mem_singleton] at hc
        exact ⟨n % b, hm, by rw [hc]; exact chr_byte _ (by omega)⟩
theorem putS_short (b : Nat) (hb : b = 10 ∨ b = 16) (n : Nat) (h : n < 10000000) : (putS b n).size ≤ 7 := by
  have len : ∀ (k n : Nat), n < 10 ^ (k + 1) → (putS b n).size ≤ k + 1 := by
    intro k
    induction k with
    | zero =>
      intro n hn
      rw [putS_stop (Nat.div_eq_of_lt (by omega)), strOfNums_size]; simp
    | succ k ih =>
      intro n hn
      by_cases h0 : n / b = 0
      · rw [putS_stop h0, strOfNums_size]; simp
      · rw [putS_more (by omega) h0, ByteArray.size_append, strOfNums_size]
        have h1 : n / b ≤ n / 10 := Nat.div_le_div_left (by omega) (by omega)
        have h2 : n / 10 < 10 ^ (k + 1) := by rw [Nat.pow_succ] at hn; omega
        have := ih (n / b) (by omega)
        simp only [List.length_singleton]; omega
  exact len 6 n h
end Go.Proofs.YtbcjhmeeonhmaaaGreatDoor.H
end

/-
escape.Lines, walked: strings.ReplaceAll twice is the line ends made one kind.
-/
section
set_option linter.unusedVariables false
set_option maxRecDepth 100000
namespace Go.Proofs.YtbcjhmeeonhmaaaGreatDoor.H
open Go Go.RowKit

theorem idx_no {old : List UInt8} {c : UInt8} {t : List UInt8} (h : old.isPrefixOf (c :: t) = false) : Lib.index (c :: t) old = if Lib.index t old == -1 then -1 else Lib.index t old + 1 := by
  rw [Lib.index, h]; simp
theorem idx_yes {old : List UInt8} {c : UInt8} {t : List UInt8} (h : old.isPrefixOf (c :: t) = true) : Lib.index (c :: t) old = ((0 : Nat) : Int) := by
  rw [Lib.index, if_pos h]; rfl
theorem count_no {old : List UInt8} {c : UInt8} {t : List UInt8} (ho : old ≠ []) (h : old.isPrefixOf (c :: t) = false) : Lib.count (c :: t) old = Lib.count t old := by
  have hix := idx_no h
  have h1 : 1 ≤ old.length := by cases old with | nil => exact absurd rfl ho | cons _ _ => simp
  by_cases hm : Lib.index t old = -1
  · rw [Lib.count_miss hm, Lib.count_miss (by rw [hix, if_pos (beq_iff_eq.2 hm)])]
  · have hge := Lib.index_ge t old
    obtain ⟨j, hj⟩ : ∃ j : Nat, Lib.index t old = j := ⟨(Lib.index t old).toNat, by omega⟩
    have hix' : Lib.index (c :: t) old = ((j + 1 : Nat) : Int) := by rw [hix, if_neg (fun e => hm (beq_iff_eq.1 e)), hj]; omega
    rw [Lib.count_hit (by omega) hj, Lib.count_hit (by omega) hix', show j + 1 + old.length = (j + old.length) + 1 from by omega, List.drop_succ_cons]
theorem repl_no {old new : List UInt8} {c : UInt8} {t : List UInt8} (h : old.isPrefixOf (c :: t) = false) (k : Nat) : Lib.replaceK old new k (c :: t) = c :: Lib.replaceK old new k t := by
  cases k with
  | zero => rfl
  | succ k =>
    have hix := idx_no h
    by_cases hm : Lib.index t old = -1
    · have h2 : Lib.index (c :: t) old = -1 := by rw [hix, if_pos (beq_iff_eq.2 hm)]
      rw [Lib.replaceK, if_pos (beq_iff_eq.2 h2), Lib.replaceK, if_pos (beq_iff_eq.2 hm)]
    · have hge := Lib.index_ge t old
      obtain ⟨j, hj⟩ : ∃ j : Nat, Lib.index t old = j := ⟨(Lib.index t old).toNat, by omega⟩
      have hix' : Lib.index (c :: t) old = ((j + 1 : Nat) : Int) := by rw [hix, if_neg (fun e => hm (beq_iff_eq.1 e)), hj]; omega
      rw [Lib.replaceK_hit old new k _ (j + 1) hix', Lib.replaceK_hit old new k _ j hj, show j + 1 + old.length = (j + old.length) + 1 from by omega, List.drop_succ_cons, List.take_succ_cons]
      rfl
/-- All instances replaced. -/
def repA (old new l : List UInt8) : List UInt8 := Lib.replaceK old new (Lib.count l old) l
theorem repA_nil (old new : List UInt8) (ho : old ≠ []) : repA old new [] = [] := by
  have : Lib.index [] old = -1 := by cases old with | nil => exact absurd rfl ho | cons _ _ => rfl
  unfold repA; rw [Lib.count_miss this]; rfl
theorem repA_no {old new : List UInt8} {c : UInt8} {t : List UInt8} (ho : old ≠ []) (h : old.isPrefixOf (c :: t) = false) : repA old new (c :: t) = c :: repA old new t := by
  unfold repA; rw [count_no ho h, repl_no h]
theorem repA_yes {old new : List UInt8} {c : UInt8} {t : List UInt8} (ho : old ≠ []) (h : old.isPrefixOf (c :: t) = true) : repA old new (c :: t) = new ++ repA old new ((c :: t).drop old.length) := by
  have h1 : 1 ≤ old.length := by cases old with | nil => exact absurd rfl ho | cons _ _ => simp
  unfold repA
  rw [Lib.count_hit (by omega) (idx_yes h), Nat.add_comm 1 _, Lib.replaceK_hit old new _ _ 0 (idx_yes h), Nat.zero_add]
  rfl
theorem repA_all (old new l : List UInt8) (hne : old ≠ new) : Lib.replaceAll l old new = repA old new l := by
  unfold Lib.replaceAll Lib.replace repA Lib.replaceNum
  rw [if_neg (by rw [beq_iff_eq]; exact hne), if_pos (.inl (by decide))]
theorem pre2 (t : List UInt8) : ([13, 10] : List UInt8).isPrefixOf (13 :: t) = (t.head? == some 10) := by
  cases t with
  | nil => rfl
  | cons x u =>
    show ((13 : UInt8) == 13 && ((10 : UInt8) == x && ([] : List UInt8).isPrefixOf u)) = _
    have : (some x == some (10 : UInt8)) = ((10 : UInt8) == x) := by
      rw [Bool.eq_iff_iff]; simp; exact eq_comm
    simp [List.isPrefixOf, this]
theorem pre_not {c : UInt8} (h : c ≠ 13) (r t : List UInt8) : (13 :: r : List UInt8).isPrefixOf (c :: t) = false := by
  have : ((13 : UInt8) == c) = false := by rw [beq_eq_false_iff_ne]; exact fun e => h e.symm
  simp [List.isPrefixOf, this]
theorem lines_rep : ∀ (k : Nat) (l : List UInt8), l.length ≤ k → repA [13] [10] (repA [13, 10] [10] l) = linesL l := by
  intro k
  induction k with
  | zero =>
    intro l h
    obtain rfl : l = [] := List.eq_nil_of_length_eq_zero (by omega)
    rw [repA_nil _ _ (by decide), repA_nil _ _ (by decide)]; rfl
  | succ k ih =>
    intro l h
    cases l with
    | nil => rw [repA_nil _ _ (by decide), repA_nil _ _ (by decide)]; rfl
    | cons c t =>
      rw [List.length_cons] at h
      by_cases h13 : c = 13
      · subst h13
        by_cases ht : t.head? = some 10
        · cases t with
          | nil => cases ht
          | cons x u =>
            simp at ht
            subst ht
            rw [List.length_cons] at h
            rw [repA_yes (by decide) (by rw [pre2]; rfl)]
            show repA [13] [10] (10 :: repA [13, 10] [10] u) = _
            rw [repA_no (by decide) (pre_not (by decide) _ _), ih u (by omega)]
            rw [linesL, if_pos rfl, if_pos (show (10 :: u).head? = some 10 from rfl), lines_10]
        · rw [repA_no (by decide) (by rw [pre2]; rw [beq_eq_false_iff_ne]; exact ht), repA_yes (by decide) (by simp [List.isPrefixOf])]
          show 10 :: repA [13] [10] (repA [13, 10] [10] t) = _
          rw [ih t (by omega), linesL, if_pos rfl, if_neg ht]
      · rw [repA_no (by decide) (pre_not h13 _ _), repA_no (by decide) (pre_not h13 _ _), ih t (by omega), linesL, if_neg h13]
theorem repA_len {old new : List UInt8} (hn : new.length ≤ old.length) (ho : old ≠ []) : ∀ (k : Nat) (l : List UInt8), l.length ≤ k → (repA old new l).length ≤ l.length := by
  have h1 : 1 ≤ old.length := by cases old with | nil => exact absurd rfl ho | cons _ _ => simp
  intro k
  induction k with
  | zero =>
    intro l h
    obtain rfl : l = [] := List.eq_nil_of_length_eq_zero (by omega)
    rw [repA_nil _ _ ho]; exact Nat.le_refl _
  | succ k ih =>
    intro l h
    cases l with
    | nil => rw [repA_nil _ _ ho]; exact Nat.le_refl _
    | cons c t =>
      rw [List.length_cons] at h
      cases hp : old.isPrefixOf (c :: t) with
      | false =>
        rw [repA_no ho hp, List.length_cons, List.length_cons]
        have := ih t (by omega); omega
      | true =>
        have hl : old.length ≤ (c :: t).length := (List.isPrefixOf_iff_prefix.1 hp).length_le
        rw [repA_yes ho hp, List.length_append]
        have := ih ((c :: t).drop old.length) (by rw [List.length_drop, List.length_cons]; omega)
        rw [List.length_drop] at this
        omega
def LinesPost (s : ByteArray) (w : World) (e : Ending) (w' : World) : Prop := e = .returned (.string (B (linesL s.data.toList))) ∧ Below w.heap.size w w'
set_option maxHeartbeats 1000000 in
theorem eLines (s : ByteArray) (w : World) (hs : s.size ≤ 1073741824) (hm : ∃ m, w.cell? ⟨1, 0, none⟩ = some (.int .i64 m)) : Calls Tryz.prog 21 #[.string s] w (LinesPost s w) := by
  obtain ⟨m, hm⟩ := hm
  have hc1 := Lib.countB_le ⟨#[13, 10]⟩ (by decide) _ s (Nat.le_refl _)
  have H1 := Go.Proofs.Tryz.strings_ReplaceAll s ⟨#[13, 10]⟩ ⟨#[10]⟩ m w (by omega) hm (by decide) (by rw [show (⟨#[10]⟩ : ByteArray).size = 1 from rfl]; omega)
  rw [repA_all _ _ _ (by decide)] at H1
  obtain ⟨t, ht⟩ : ∃ t, repA [13, 10] [10] s.data.toList = t := ⟨_, rfl⟩
  have hts : t.length ≤ s.size := by rw [← ht, ← size_data s]; exact repA_len (by decide) (by decide) _ _ (Nat.le_refl _)
  have H1 : Calls Tryz.prog 43 #[.string s, .string ⟨#[13, 10]⟩, .string ⟨#[10]⟩] w fun e w' => e = .returned (.string (B t)) ∧ Below w.heap.size w w' := by
    rw [← ht]; exact H1
  have HL : Hid (repA [13] [10] t = linesL s.data.toList) := Lib.hid (by rw [← ht]; exact lines_rep _ _ (Nat.le_refl _))
  have H1 := Lib.hid H1
  have hz : (B t).size ≤ 1073741824 := by rw [B_size]; omega
  have HZ := Lib.hid hz
  clear ht hts hc1 hz
  go_enter Tryz.func21, Tryz.ntmps21
  go_wp2_with fail
  refine H1.out.mono ?_
  rintro e w1 ⟨rfl, hb1⟩
  have hc2 := Lib.countB_le ⟨#[13]⟩ (by decide) _ (B t) (Nat.le_refl _)
  have hz := HZ.out
  have H2 := Go.Proofs.Tryz.strings_ReplaceAll (B t) ⟨#[13]⟩ ⟨#[10]⟩ m w1 (by omega) (celB hb1 hm) (by decide) (by rw [show (⟨#[10]⟩ : ByteArray).size = 1 from rfl]; omega)
  rw [repA_all _ _ _ (by decide), B_list, HL.out] at H2
  have H2 : Calls Tryz.prog 43 #[.string (B t), .string ⟨#[13]⟩, .string ⟨#[10]⟩] w1 fun e w' => e = .returned (.string (B (linesL s.data.toList))) ∧ Below w1.heap.size w1 w' := H2
  have H2 := Lib.hid H2
  go_wp2_with fail
  refine H2.out.mono ?_
  rintro e w2 ⟨rfl, hb2⟩
  go_wp2
  go_ret
  exact ⟨rfl, below_tr hb1 hb2⟩
end Go.Proofs.YtbcjhmeeonhmaaaGreatDoor.H
end

-- Laid by a program of this session for this claim.
section
namespace Go.Proofs.YtbcjhmeeonhmaaaGreatDoor.M
open Go.RowKit Go.Proofs.YtbcjhmeeonhmaaaGreatDoorW.PrintWords Go.Proofs.YtbcjhmeeonhmaaaGreatDoorW.PrintLast Go.Proofs.YtbcjhmeeonhmaaaGreatDoorW.PrintMore
attribute [local go_sem] max2_int min2_int max_two min_two max_three min_three max_four min_four   -- for this text's walks alone
set_option linter.unusedVariables false
set_option linter.unusedSimpArgs false

/-! ### pleacherref02_IsChar: function 29 -/
def pleacherref02_IsChar.f (a0 : Int) : Option (Bool) := if a0 = 9 then (some true) else (if a0 = 10 then (some true) else (if a0 = 13 then (some true) else ((pleacherref02_in.f a0 32 55295).bind fun t109 => (if t109 = true then (some true) else ((pleacherref02_in.f a0 57344 65533).bind fun t110 => (if t110 = true then (some true) else ((pleacherref02_in.f a0 65536 1114111).bind fun t111 => (some t111))))))))
set_option maxHeartbeats 8000000 in
set_option maxRecDepth 100000 in
theorem pleacherref02_IsChar.calls (a0 : Int) (r : Bool) (w : World) (h : pleacherref02_IsChar.f a0 = some r) :
    Calls Tryz.prog 29 #[.int .i64 a0] w fun e w' => e = .returned (.bool r) ∧ Drawn0 w w' := by
  have H : (if a0 = 9 then (some true) else (if a0 = 10 then (some true) else (if a0 = 13 then (some true) else ((pleacherref02_in.f a0 32 55295).bind fun t109 => (if t109 = true then (some true) else ((pleacherref02_in.f a0 57344 65533).bind fun t110 => (if t110 = true then (some true) else ((pleacherref02_in.f a0 65536 1114111).bind fun t111 => (some t111))))))))) = some r := h
  clear h
  by_cases c2 : a0 = 9
  · rw [if_pos c2] at H
    have c2b0 : (a0 == 9) = true := beq_iff_eq.mpr c2
    have c2b1 : (a0 != 9) = false := bne_eq_false_iff_eq.mpr c2
    clear c2
    obtain rfl := Option.some.inj H
    go_enter Tryz.func29, Tryz.ntmps29
    go_wp2
    go_ret
    exact ⟨by first | rfl | (simp; done) | (simp [*]; done), by repeat (first | exact Drawn0.refl _ | apply Drawn0.step)⟩
  · rw [if_neg c2] at H
    have c2b0 : (a0 == 9) = false := beq_eq_false_iff_ne.mpr c2
    have c2b1 : (a0 != 9) = true := bne_iff_ne.mpr c2
    by_cases c3 : a0 = 10
    · rw [if_pos c3] at H
      have c3b0 : (a0 == 10) = true := beq_iff_eq.mpr c3
      have c3b1 : (a0 != 10) = false := bne_eq_false_iff_eq.mpr c3
      clear c3
      obtain rfl := Option.some.inj H
      go_enter Tryz.func29, Tryz.ntmps29
      go_wp2
      go_ret
      exact ⟨by first | rfl | (simp; done) | (simp [*]; done), by repeat (first | exact Drawn0.refl _ | apply Drawn0.step)⟩
    · rw [if_neg c3] at H
      have c3b0 : (a0 == 10) = false := beq_eq_false_iff_ne.mpr c3
      have c3b1 : (a0 != 10) = true := bne_iff_ne.mpr c3
      by_cases c4 : a0 = 13
      · rw [if_pos c4] at H
        have c4b0 : (a0 == 13) = true := beq_iff_eq.mpr c4
        have c4b1 : (a0 != 13) = false := bne_eq_false_iff_eq.mpr c4
        clear c4
        obtain rfl := Option.some.inj H
        go_enter Tryz.func29, Tryz.ntmps29
        go_wp2
        go_ret
        exact ⟨by first | rfl | (simp; done) | (simp [*]; done), by repeat (first | exact Drawn0.refl _ | apply Drawn0.step)⟩
      · rw [if_neg c4] at H
        have c4b0 : (a0 == 13) = false := beq_eq_false_iff_ne.mpr c4
        have c4b1 : (a0 != 13) = true := bne_iff_ne.mpr c4
        replace H := Option.bind_eq_some_iff.mp H
        obtain ⟨t109, A50, H⟩ := H
        replace H : (if t109 = true then (some true) else ((pleacherref02_in.f a0 57344 65533).bind fun t110 => (if t110 = true then (some true) else ((pleacherref02_in.f a0 65536 1114111).bind fun t111 => (some t111))))) = some r := H
        have A5 := Aside0.mk A50
        clear A50
        by_cases c6 : t109 = true
        · subst c6
          have H1 : (some true) = some r := by rw [if_pos rfl] at H; exact H
          clear H
          have H := H1
          clear H1
          obtain rfl := Option.some.inj H
          go_enter Tryz.func29, Tryz.ntmps29
          go_wp2_with (first | (go_at_call 52; (with_reducible refine (pleacherref02_in.calls a0 32 55295 true _ A5.out).mono ?_); rintro e w' ⟨rfl, ⟨nd, rfl⟩⟩))
          go_ret
          exact ⟨by first | rfl | (simp; done) | (simp [*]; done), by repeat (first | exact Drawn0.refl _ | apply Drawn0.step)⟩
        · replace c6 := Bool.eq_false_iff.mpr c6
          subst c6
          have H1 : ((pleacherref02_in.f a0 57344 65533).bind fun t110 => (if t110 = true then (some true) else ((pleacherref02_in.f a0 65536 1114111).bind fun t111 => (some t111)))) = some r := by rw [if_neg (show ¬ (false = true) by decide)] at H; exact H
          clear H
          have H := H1
          clear H1
          replace H := Option.bind_eq_some_iff.mp H
          obtain ⟨t110, A70, H⟩ := H
          replace H : (if t110 = true then (some true) else ((pleacherref02_in.f a0 65536 1114111).bind fun t111 => (some t111))) = some r := H
          have A7 := Aside0.mk A70
          clear A70
          by_cases c8 : t110 = true
          · subst c8
            have H1 : (some true) = some r := by rw [if_pos rfl] at H; exact H
            clear H
            have H := H1
            clear H1
            obtain rfl := Option.some.inj H
            go_enter Tryz.func29, Tryz.ntmps29
            go_wp2_with (first | (go_at_call 52; (with_reducible refine (pleacherref02_in.calls a0 32 55295 false _ A5.out).mono ?_); rintro e w' ⟨rfl, ⟨nd, rfl⟩⟩) | (go_at_call 52; (with_reducible refine (pleacherref02_in.calls a0 57344 65533 true _ A7.out).mono ?_); rintro e w' ⟨rfl, ⟨nd, rfl⟩⟩))
            go_ret
            exact ⟨by first | rfl | (simp; done) | (simp [*]; done), by repeat (first | exact Drawn0.refl _ | apply Drawn0.step)⟩
          · replace c8 := Bool.eq_false_iff.mpr c8
            subst c8
            have H1 : ((pleacherref02_in.f a0 65536 1114111).bind fun t111 => (some t111)) = some r := by rw [if_neg (show ¬ (false = true) by decide)] at H; exact H
            clear H
            have H := H1
            clear H1
            replace H := Option.bind_eq_some_iff.mp H
            obtain ⟨t111, A90, H⟩ := H
            replace H : (some t111) = some r := H
            have A9 := Aside0.mk A90
            clear A90
            obtain rfl := Option.some.inj H
            go_enter Tryz.func29, Tryz.ntmps29
            go_wp2_with (first | (go_at_call 52; (with_reducible refine (pleacherref02_in.calls a0 32 55295 false _ A5.out).mono ?_); rintro e w' ⟨rfl, ⟨nd, rfl⟩⟩) | (go_at_call 52; (with_reducible refine (pleacherref02_in.calls a0 57344 65533 false _ A7.out).mono ?_); rintro e w' ⟨rfl, ⟨nd, rfl⟩⟩) | (go_at_call 52; (with_reducible refine (pleacherref02_in.calls a0 65536 1114111 t111 _ A9.out).mono ?_); rintro e w' ⟨rfl, ⟨nd, rfl⟩⟩))
            go_ret
            exact ⟨by first | rfl | (simp; done) | (simp [*]; done), by repeat (first | exact Drawn0.refl _ | apply Drawn0.step)⟩

end Go.Proofs.YtbcjhmeeonhmaaaGreatDoor.M
end

-- Laid by a program of this session for this claim.
section
namespace Go.Proofs.YtbcjhmeeonhmaaaGreatDoor.M
open Go.RowKit Go.Proofs.YtbcjhmeeonhmaaaGreatDoorW.PrintWords Go.Proofs.YtbcjhmeeonhmaaaGreatDoorW.PrintLast Go.Proofs.YtbcjhmeeonhmaaaGreatDoorW.PrintMore
attribute [local go_sem] max2_int min2_int max_two min_two max_three min_three max_four min_four   -- for this text's walks alone
set_option linter.unusedVariables false
set_option linter.unusedSimpArgs false

/-! ### pleacherref04_named: function 35 -/
end Go.Proofs.YtbcjhmeeonhmaaaGreatDoor.M
end

-- Laid by a program of this session for this claim.
section
namespace Go.Proofs.YtbcjhmeeonhmaaaGreatDoor.M
open Go.RowKit Go.Proofs.YtbcjhmeeonhmaaaGreatDoorW.PrintWords Go.Proofs.YtbcjhmeeonhmaaaGreatDoorW.PrintLast Go.Proofs.YtbcjhmeeonhmaaaGreatDoorW.PrintMore
attribute [local go_sem] max2_int min2_int max_two min_two max_three min_three max_four min_four   -- for this text's walks alone
set_option linter.unusedVariables false
set_option linter.unusedSimpArgs false

/-! ### pleacherref04_counted: function 36 -/
end Go.Proofs.YtbcjhmeeonhmaaaGreatDoor.M
end

-- Laid by a program of this session for this claim.
section
namespace Go.Proofs.YtbcjhmeeonhmaaaGreatDoor.M
open Go.RowKit Go.Proofs.YtbcjhmeeonhmaaaGreatDoorW.PrintWords Go.Proofs.YtbcjhmeeonhmaaaGreatDoorW.PrintLast Go.Proofs.YtbcjhmeeonhmaaaGreatDoorW.PrintMore
attribute [local go_sem] max2_int min2_int max_two min_two max_three min_three max_four min_four   -- for this text's walks alone
set_option linter.unusedVariables false
set_option linter.unusedSimpArgs false

/-! ### pleacherref04_Ref: function 15 -/
end Go.Proofs.YtbcjhmeeonhmaaaGreatDoor.M
end

-- Laid by a program of this session for this claim.
section
namespace Go.Proofs.YtbcjhmeeonhmaaaGreatDoor.M
open Go.RowKit Go.Proofs.YtbcjhmeeonhmaaaGreatDoorW.PrintWords Go.Proofs.YtbcjhmeeonhmaaaGreatDoorW.PrintLast Go.Proofs.YtbcjhmeeonhmaaaGreatDoorW.PrintMore
attribute [local go_sem] max2_int min2_int max_two min_two max_three min_three max_four min_four   -- for this text's walks alone
set_option linter.unusedVariables false
set_option linter.unusedSimpArgs false

/-! ### pleacherref04_Get: function 13 -/
end Go.Proofs.YtbcjhmeeonhmaaaGreatDoor.M
end

-- Laid by a program of this session for this claim.
section
namespace Go.Proofs.YtbcjhmeeonhmaaaGreatDoor.M
open Go.RowKit Go.Proofs.YtbcjhmeeonhmaaaGreatDoorW.PrintWords Go.Proofs.YtbcjhmeeonhmaaaGreatDoorW.PrintLast Go.Proofs.YtbcjhmeeonhmaaaGreatDoorW.PrintMore
attribute [local go_sem] max2_int min2_int max_two min_two max_three min_three max_four min_four   -- for this text's walks alone
set_option linter.unusedVariables false
set_option linter.unusedSimpArgs false

/-! ### pleacherref02_IsText: function 44 -/
def pleacherref02_IsText.l0 : Nat → ByteArray → List Int → Int → Int → Option (Bool)
  | 0, _, _, _, _ => none
  | k + 1, x0, x3, x4, x5 => if x5 < (x3.length : Int) then (if 0 ≤ x5 then ((pleacherref02_IsChar.f (rd x3 x5)).bind fun t248 => (if t248 = true then (pleacherref02_IsText.l0 k x0 x3 x4 (wrap64 (x5 + 1))) else (some false))) else (none)) else (some (x4 == (x0.size : Int)))
def pleacherref02_IsText.f (k : Nat) (a0 : ByteArray) : Option (Bool) := (pleacherref02_Runes.f k a0).bind fun bt243 => (pleacherref02_IsText.l0 k a0 bt243.1 bt243.2 0)
set_option maxHeartbeats 8000000 in
set_option maxRecDepth 100000 in
theorem pleacherref02_IsText.calls (k : Nat) (a0 : ByteArray) (r : Bool) (w : World) (h : pleacherref02_IsText.f k a0 = some r) :
    Calls Tryz.prog 44 #[.string a0] w fun e w' => e = .returned (.bool r) ∧ Below w.heap.size w w' := by
  have HB := Aside0.mk (Below.refl w.heap.size w)
  have H : ((pleacherref02_Runes.f k a0).bind fun bt243 => (pleacherref02_IsText.l0 k a0 bt243.1 bt243.2 0)) = some r := h
  clear h
  replace H := Option.bind_eq_some_iff.mp H
  obtain ⟨⟨t243, t244⟩, A20, H⟩ := H
  replace H : (pleacherref02_IsText.l0 k a0 t243 t244 0) = some r := H
  have A2 := Aside0.mk A20
  clear A20
  have H' := Aside0.mk H
  clear H
  go_enter Tryz.func44, Tryz.ntmps44
  go_wp2_with (first | ((with_reducible refine gate_callee (f := 70) rfl ?_); refine goesL_ (some 8) rfl rfl Tryz.func70 (by kernel_rfl) rfl #[.string a0] rfl (by (try simp only [List.map_toArray, List.map_cons, List.map_nil]); first | done | rfl | (simp only [List.length_drop, List.length_take]; rfl)) ?_; (with_reducible refine (pleacherref02_Runes.calls k a0 t243 t244 _ A2.out).mono ?_); rintro e w3 ⟨v245, rfl, ho0, hb⟩; refine ⟨_, rfl, ?_⟩; have n0_ := Aside0.mk (Kd.R_lower ho0 (below_size (by repeat (first | (with_reducible first | exact HB.out | apply below_alloc | apply pw_below_drewN | apply below_drew1) | exact HB.out)))); have n1_ := Aside0.mk (below_step (by repeat (first | (with_reducible first | exact HB.out | apply below_alloc | apply pw_below_drewN | apply below_drew1) | exact HB.out)) hb); clear HB; have HO246 := n0_; have HB := n1_; clear n0_ n1_; (try clear hb); (try clear hb2); (try clear hk); (try clear hi); (try clear ho0)))
  go_loopg [5] k (fun kq v5 w' => ∃ (x5_1 : Int), v5 = .int .i64 x5_1 ∧ Aside0 (pleacherref02_IsText.l0 kq a0 t243 t244 x5_1 = some r) ∧ Aside0 (kq ≤ k) ∧ Aside0 (Kd.R (Kd.int .i64) 3 w' w.heap.size (fun _ => True) v245 t243) ∧ Aside0 (Below w.heap.size w w'))
  case atStart => exact ⟨(0), (by first | rfl | (simp; done) | (simp [*]; done)), H', ⟨Nat.le_refl _⟩, ⟨by (with_reducible repeat (first | apply Kd.R_alloc | apply Kd.R_drewN | apply Kd.R_drew)); exact HO246.out⟩, ⟨by repeat (first | (with_reducible first | exact HB.out | apply below_alloc | apply pw_below_drewN | apply below_drew1) | exact HB.out)⟩⟩
  case round =>
    clear H'
    try clear p2
    obtain ⟨x5_1, rfl, HA, HK1, HO_3, HB⟩ := hrel
    cases gk with
    | zero => exact absurd HA.out (by simp [pleacherref02_IsText.l0])
    | succ k1 =>
      have H := HA.out
      clear HA
      simp only [pleacherref02_IsText.l0] at H
      by_cases c4 : x5_1 < (t243.length : Int)
      · rw [if_pos c4] at H
        have c4b0 : decide (x5_1 < (t243.length : Int)) = true := decide_eq_true c4
        clear c4
        by_cases c5 : 0 ≤ x5_1
        · rw [if_pos c5] at H
          have c5b0 : decide (0 ≤ x5_1) = true := decide_eq_true c5
          clear c5
          replace H := Option.bind_eq_some_iff.mp H
          obtain ⟨t248, A60, H⟩ := H
          replace H : (if t248 = true then (pleacherref02_IsText.l0 k1 a0 t243 t244 (wrap64 (x5_1 + 1))) else (some false)) = some r := H
          have A6 := Aside0.mk A60
          clear A60
          by_cases c7 : t248 = true
          · subst c7
            have H1 : (pleacherref02_IsText.l0 k1 a0 t243 t244 (wrap64 (x5_1 + 1))) = some r := by rw [if_pos rfl] at H; exact H
            clear H
            have H := H1
            clear H1
            have H' := Aside0.mk H
            clear H
            obtain ⟨Ao8, co8, eo8⟩ := Kd.R_slice HO_3.out
            subst eo8
            have p247 : 0 ≤ (x5_1 : Int) := of_decide_eq_true (by first | (with_reducible assumption) | assumption)
            have q247 : x5_1 < (t243.length : Int) := of_decide_eq_true (by first | (with_reducible assumption) | assumption)
            obtain ⟨ad247, e247, hx247_0⟩ := Kd.at_int (Kd.R_reads' HO_3.out).2.2 x5_1 p247 q247
            cases e247
            replace p247 := eq_true p247
            replace q247 := eq_true q247
            go_wp2_with (first | ((with_reducible refine gate_callee (f := 29) rfl ?_); refine goesL_ (some 21) rfl rfl Tryz.func29 (by kernel_rfl) rfl #[.int .i64 (rd t243 x5_1)] rfl (by (try simp only [List.map_toArray, List.map_cons, List.map_nil]); first | done | rfl | (simp only [List.length_drop, List.length_take]; rfl)) ?_; (with_reducible refine (pleacherref02_IsChar.calls (rd t243 x5_1) true _ A6.out).mono ?_); rintro e w' ⟨rfl, ⟨nd, rfl⟩⟩; refine ⟨_, rfl, ?_⟩))
            go_roundg k1
            case measure => have := HK1.out; omega
            case rel => exact ⟨(wrap64 (x5_1 + 1)), (by first | rfl | (simp; done) | (simp [*]; done)), H', ⟨by have := HK1.out; omega⟩, ⟨by (with_reducible repeat (first | apply Kd.R_alloc | apply Kd.R_drewN | apply Kd.R_drew)); exact HO_3.out⟩, ⟨by repeat (first | (with_reducible first | exact HB.out | apply below_alloc | apply pw_below_drewN | apply below_drew1) | exact HB.out)⟩⟩
          · replace c7 := Bool.eq_false_iff.mpr c7
            subst c7
            have H1 : (some false) = some r := by rw [if_neg (show ¬ (false = true) by decide)] at H; exact H
            clear H
            have H := H1
            clear H1
            obtain rfl := Option.some.inj H
            obtain ⟨Ao9, co9, eo9⟩ := Kd.R_slice HO_3.out
            subst eo9
            have p247 : 0 ≤ (x5_1 : Int) := of_decide_eq_true (by first | (with_reducible assumption) | assumption)
            have q247 : x5_1 < (t243.length : Int) := of_decide_eq_true (by first | (with_reducible assumption) | assumption)
            obtain ⟨ad247, e247, hx247_0⟩ := Kd.at_int (Kd.R_reads' HO_3.out).2.2 x5_1 p247 q247
            cases e247
            replace p247 := eq_true p247
            replace q247 := eq_true q247
            go_wp2_with (first | ((with_reducible refine gate_callee (f := 29) rfl ?_); refine goesL_ (some 21) rfl rfl Tryz.func29 (by kernel_rfl) rfl #[.int .i64 (rd t243 x5_1)] rfl (by (try simp only [List.map_toArray, List.map_cons, List.map_nil]); first | done | rfl | (simp only [List.length_drop, List.length_take]; rfl)) ?_; (with_reducible refine (pleacherref02_IsChar.calls (rd t243 x5_1) false _ A6.out).mono ?_); rintro e w' ⟨rfl, ⟨nd, rfl⟩⟩; refine ⟨_, rfl, ?_⟩))
            go_ret
            exact ⟨by first | rfl | (simp [errW_none, errW_some] <;> rfl) | (simp [*, errW_none, errW_some] <;> rfl), by repeat (first | (with_reducible first | exact HB.out | apply below_alloc | apply pw_below_drewN | apply below_drew1) | exact HB.out)⟩
        · rw [if_neg c5] at H
          exact absurd H (by simp)
      · rw [if_neg c4] at H
        have c4b0 : decide (x5_1 < (t243.length : Int)) = false := decide_eq_false c4
        clear c4
        obtain rfl := Option.some.inj H
        obtain ⟨Ao10, co10, eo10⟩ := Kd.R_slice HO_3.out
        subst eo10
        go_wp2
        go_ret
        exact ⟨by first | rfl | (simp [errW_none, errW_some] <;> rfl) | (simp [*, errW_none, errW_some] <;> rfl), by repeat (first | (with_reducible first | exact HB.out | apply below_alloc | apply pw_below_drewN | apply below_drew1) | exact HB.out)⟩

end Go.Proofs.YtbcjhmeeonhmaaaGreatDoor.M
end

-- Laid by a program of this session for this claim.
section
namespace Go.Proofs.YtbcjhmeeonhmaaaGreatDoor.M
open Go.RowKit Go.Proofs.YtbcjhmeeonhmaaaGreatDoorW.PrintWords Go.Proofs.YtbcjhmeeonhmaaaGreatDoorW.PrintLast Go.Proofs.YtbcjhmeeonhmaaaGreatDoorW.PrintMore
attribute [local go_sem] max2_int min2_int max_two min_two max_three min_three max_four min_four   -- for this text's walks alone
set_option linter.unusedVariables false
set_option linter.unusedSimpArgs false

/-! ### pleacherref04_one: function 45 -/
def pleacherref04_one.f (a0 : Int) : Option (ByteArray) := if a0 = 38 then (some (⟨#[38, 97, 109, 112, 59]⟩ : ByteArray)) else (if a0 = 60 then (some (⟨#[38, 108, 116, 59]⟩ : ByteArray)) else (if a0 = 62 then (some (⟨#[38, 103, 116, 59]⟩ : ByteArray)) else (if a0 = 34 then (some (⟨#[38, 113, 117, 111, 116, 59]⟩ : ByteArray)) else (if a0 = 9 then (some (⟨#[38, 35, 57, 59]⟩ : ByteArray)) else (if a0 = 10 then (some (⟨#[38, 35, 49, 48, 59]⟩ : ByteArray)) else (if a0 = 13 then (some (⟨#[38, 35, 49, 51, 59]⟩ : ByteArray)) else (some (strOfNums (([a0] : List Int))))))))))
set_option maxHeartbeats 8000000 in
set_option maxRecDepth 100000 in
theorem pleacherref04_one.calls (a0 : Int) (r : ByteArray) (w : World) (h : pleacherref04_one.f a0 = some r) :
    Calls Tryz.prog 45 #[.int .u8 a0] w fun e w' => e = .returned (.string r) ∧ Below w.heap.size w w' := by
  have HB := Aside0.mk (Below.refl w.heap.size w)
  have H : (if a0 = 38 then (some (⟨#[38, 97, 109, 112, 59]⟩ : ByteArray)) else (if a0 = 60 then (some (⟨#[38, 108, 116, 59]⟩ : ByteArray)) else (if a0 = 62 then (some (⟨#[38, 103, 116, 59]⟩ : ByteArray)) else (if a0 = 34 then (some (⟨#[38, 113, 117, 111, 116, 59]⟩ : ByteArray)) else (if a0 = 9 then (some (⟨#[38, 35, 57, 59]⟩ : ByteArray)) else (if a0 = 10 then (some (⟨#[38, 35, 49, 48, 59]⟩ : ByteArray)) else (if a0 = 13 then (some (⟨#[38, 35, 49, 51, 59]⟩ : ByteArray)) else (some (strOfNums (([a0] : List Int))))))))))) = some r := h
  clear h
  by_cases c2 : a0 = 38
  · rw [if_pos c2] at H
    have c2b0 : (a0 == 38) = true := beq_iff_eq.mpr c2
    have c2b1 : (a0 != 38) = false := bne_eq_false_iff_eq.mpr c2
    clear c2
    obtain rfl := Option.some.inj H
    go_enter Tryz.func45, Tryz.ntmps45
    go_wp2
    go_ret
    exact ⟨by first | rfl | (simp [errW_none, errW_some] <;> rfl) | (simp [*, errW_none, errW_some] <;> rfl), by repeat (first | (with_reducible first | exact HB.out | apply below_alloc | apply pw_below_drewN | apply below_drew1) | exact HB.out)⟩
  · rw [if_neg c2] at H
    have c2b0 : (a0 == 38) = false := beq_eq_false_iff_ne.mpr c2
    have c2b1 : (a0 != 38) = true := bne_iff_ne.mpr c2
    by_cases c3 : a0 = 60
    · rw [if_pos c3] at H
      have c3b0 : (a0 == 60) = true := beq_iff_eq.mpr c3
      have c3b1 : (a0 != 60) = false := bne_eq_false_iff_eq.mpr c3
      clear c3
      obtain rfl := Option.some.inj H
      go_enter Tryz.func45, Tryz.ntmps45
      go_wp2
      go_ret
      exact ⟨by first | rfl | (simp [errW_none, errW_some] <;> rfl) | (simp [*, errW_none, errW_some] <;> rfl), by repeat (first | (with_reducible first | exact HB.out | apply below_alloc | apply pw_below_drewN | apply below_drew1) | exact HB.out)⟩
    · rw [if_neg c3] at H
      have c3b0 : (a0 == 60) = false := beq_eq_false_iff_ne.mpr c3
      have c3b1 : (a0 != 60) = true := bne_iff_ne.mpr c3
      by_cases c4 : a0 = 62
      · rw [if_pos c4] at H
        have c4b0 : (a0 == 62) = true := beq_iff_eq.mpr c4
        have c4b1 : (a0 != 62) = false := bne_eq_false_iff_eq.mpr c4
        clear c4
        obtain rfl := Option.some.inj H
        go_enter Tryz.func45, Tryz.ntmps45
        go_wp2
        go_ret
        exact ⟨by first | rfl | (simp [errW_none, errW_some] <;> rfl) | (simp [*, errW_none, errW_some] <;> rfl), by repeat (first | (with_reducible first | exact HB.out | apply below_alloc | apply pw_below_drewN | apply below_drew1) | exact HB.out)⟩
      · rw [if_neg c4] at H
        have c4b0 : (a0 == 62) = false := beq_eq_false_iff_ne.mpr c4
        have c4b1 : (a0 != 62) = true := bne_iff_ne.mpr c4
        by_cases c5 : a0 = 34
        · rw [if_pos c5] at H
          have c5b0 : (a0 == 34) = true := beq_iff_eq.mpr c5
          have c5b1 : (a0 != 34) = false := bne_eq_false_iff_eq.mpr c5
          clear c5
          obtain rfl := Option.some.inj H
          go_enter Tryz.func45, Tryz.ntmps45
          go_wp2
          go_ret
          exact ⟨by first | rfl | (simp [errW_none, errW_some] <;> rfl) | (simp [*, errW_none, errW_some] <;> rfl), by repeat (first | (with_reducible first | exact HB.out | apply below_alloc | apply pw_below_drewN | apply below_drew1) | exact HB.out)⟩
        · rw [if_neg c5] at H
          have c5b0 : (a0 == 34) = false := beq_eq_false_iff_ne.mpr c5
          have c5b1 : (a0 != 34) = true := bne_iff_ne.mpr c5
          by_cases c6 : a0 = 9
          · rw [if_pos c6] at H
            have c6b0 : (a0 == 9) = true := beq_iff_eq.mpr c6
            have c6b1 : (a0 != 9) = false := bne_eq_false_iff_eq.mpr c6
            clear c6
            obtain rfl := Option.some.inj H
            go_enter Tryz.func45, Tryz.ntmps45
            go_wp2
            go_ret
            exact ⟨by first | rfl | (simp [errW_none, errW_some] <;> rfl) | (simp [*, errW_none, errW_some] <;> rfl), by repeat (first | (with_reducible first | exact HB.out | apply below_alloc | apply pw_below_drewN | apply below_drew1) | exact HB.out)⟩
          · rw [if_neg c6] at H
            have c6b0 : (a0 == 9) = false := beq_eq_false_iff_ne.mpr c6
            have c6b1 : (a0 != 9) = true := bne_iff_ne.mpr c6
            by_cases c7 : a0 = 10
            · rw [if_pos c7] at H
              have c7b0 : (a0 == 10) = true := beq_iff_eq.mpr c7
              have c7b1 : (a0 != 10) = false := bne_eq_false_iff_eq.mpr c7
              clear c7
              obtain rfl := Option.some.inj H
              go_enter Tryz.func45, Tryz.ntmps45
              go_wp2
              go_ret
              exact ⟨by first | rfl | (simp [errW_none, errW_some] <;> rfl) | (simp [*, errW_none, errW_some] <;> rfl), by repeat (first | (with_reducible first | exact HB.out | apply below_alloc | apply pw_below_drewN | apply below_drew1) | exact HB.out)⟩
            · rw [if_neg c7] at H
              have c7b0 : (a0 == 10) = false := beq_eq_false_iff_ne.mpr c7
              have c7b1 : (a0 != 10) = true := bne_iff_ne.mpr c7
              by_cases c8 : a0 = 13
              · rw [if_pos c8] at H
                have c8b0 : (a0 == 13) = true := beq_iff_eq.mpr c8
                have c8b1 : (a0 != 13) = false := bne_eq_false_iff_eq.mpr c8
                clear c8
                obtain rfl := Option.some.inj H
                go_enter Tryz.func45, Tryz.ntmps45
                go_wp2
                go_ret
                exact ⟨by first | rfl | (simp [errW_none, errW_some] <;> rfl) | (simp [*, errW_none, errW_some] <;> rfl), by repeat (first | (with_reducible first | exact HB.out | apply below_alloc | apply pw_below_drewN | apply below_drew1) | exact HB.out)⟩
              · rw [if_neg c8] at H
                have c8b0 : (a0 == 13) = false := beq_eq_false_iff_ne.mpr c8
                have c8b1 : (a0 != 13) = true := bne_iff_ne.mpr c8
                obtain ⟨y249, hy249⟩ : ∃ y_ : List Int, y_ = (([a0] : List Int)) := ⟨_, rfl⟩
                replace H : (some (strOfNums y249)) = some r := by first | (rw [hy249]; with_reducible exact H) | (have H2_ := (Option.bind_some _ _).symm.trans H; rw [hy249]; with_reducible exact H2_) | (have H2_ := (Option.bind_some _ _).symm.trans H; with_reducible exact H2_) | with_reducible exact H | (rw [hy249]; exact H) | exact H
                have Ny249 := Aside0.mk hy249
                clear hy249
                obtain rfl := Option.some.inj H
                go_enter Tryz.func45, Tryz.ntmps45
                go_wp2_with (first | ((with_reducible refine gate_dst (N := 19) rfl ?_); refine Kd.R_lit (Kd.int .u8) _ 5 ?hg (N := 19) ?hd (xs := ([a0] : List Int)) (inner := [.int .u8 a0]) (ok := fun _ => True) (okp := fun _ => True) ?hr ?hp (fun _ hk => hk) trivial (Below.refl _ _) (Nat.le_refl _) (by simp) ?_; (case hd => rfl); (case hg => rfl); (case hr => first | (go_simp; done) | (go_simp; rfl)); (case hp => exact (Reps.one (show Kd.M (Kd.int .u8) _ _ _ a0 [.int .u8 a0] from rfl) (Reps.none _ _))); intro v250 w9 ho10 hb hg_ hnew_; clear hg_ hnew_; (first | rw [← Ny249.out] at ho10 | (simp only [Int.reduceToNat] at ho10; rw [← Ny249.out] at ho10)); have n0_ := Aside0.mk (Kd.R_lower ho10 (below_size (by repeat (first | (with_reducible first | exact HB.out | apply below_alloc | apply pw_below_drewN | apply below_drew1) | exact HB.out)))); have n1_ := Aside0.mk (below_step (by repeat (first | (with_reducible first | exact HB.out | apply below_alloc | apply pw_below_drewN | apply below_drew1) | exact HB.out)) hb); clear HB; have HO251 := n0_; have HB := n1_; clear n0_ n1_; clear hb ho10; have hcv11 := own_string (P := Tryz.prog) Tryz.underlying45 Tryz.underlying5 Tryz.underlying9 (Kd.own_of_R HO251.out)))
                go_ret
                exact ⟨by first | rfl | (simp [errW_none, errW_some] <;> rfl) | (simp [*, errW_none, errW_some] <;> rfl), by repeat (first | (with_reducible first | exact HB.out | apply below_alloc | apply pw_below_drewN | apply below_drew1) | exact HB.out)⟩

end Go.Proofs.YtbcjhmeeonhmaaaGreatDoor.M
end

-- Laid by a program of this session for this claim.
section
namespace Go.Proofs.YtbcjhmeeonhmaaaGreatDoor.M
open Go.RowKit Go.Proofs.YtbcjhmeeonhmaaaGreatDoorW.PrintWords Go.Proofs.YtbcjhmeeonhmaaaGreatDoorW.PrintLast Go.Proofs.YtbcjhmeeonhmaaaGreatDoorW.PrintMore
attribute [local go_sem] max2_int min2_int max_two min_two max_three min_three max_four min_four   -- for this text's walks alone
set_option linter.unusedVariables false
set_option linter.unusedSimpArgs false

/-! ### pleacherref04_Put: function 22 -/
def pleacherref04_Put.l0 : Nat → ByteArray → ByteArray → Int → Option (ByteArray × Int)
  | 0, _, _, _ => none
  | k + 1, x0, x4, x5 => if x5 < (x0.size : Int) then (if 0 ≤ x5 then ((pleacherref04_one.f (bt x0 x5)).bind fun t253 => (if x4.size + t253.size ≤ 9223372036854775807 then (pleacherref04_Put.l0 k x0 (x4 ++ t253) (wrap64 (x5 + 1))) else (none))) else (none)) else (some (x4, 0))
def pleacherref04_Put.f (k : Nat) (a0 : ByteArray) : Option (ByteArray × Int) := (pleacherref02_IsText.f k a0).bind fun t252 => (if t252 = true then (pleacherref04_Put.l0 k a0 (⟨#[]⟩ : ByteArray) 0) else (some ((⟨#[]⟩ : ByteArray), 20)))
set_option maxHeartbeats 8000000 in
set_option maxRecDepth 100000 in
theorem pleacherref04_Put.calls (k : Nat) (a0 : ByteArray) (r1 : ByteArray) (r2 : Int) (w : World) (h : pleacherref04_Put.f k a0 = some (r1, r2)) :
    Calls Tryz.prog 22 #[.string a0] w fun e w' => e = .returned (.tuple #[.string r1, .int .i64 r2]) ∧ Below w.heap.size w w' := by
  have HB := Aside0.mk (Below.refl w.heap.size w)
  have H : ((pleacherref02_IsText.f k a0).bind fun t252 => (if t252 = true then (pleacherref04_Put.l0 k a0 (⟨#[]⟩ : ByteArray) 0) else (some ((⟨#[]⟩ : ByteArray), 20)))) = some (r1, r2) := h
  clear h
  replace H := Option.bind_eq_some_iff.mp H
  obtain ⟨t252, A20, H⟩ := H
  replace H : (if t252 = true then (pleacherref04_Put.l0 k a0 (⟨#[]⟩ : ByteArray) 0) else (some ((⟨#[]⟩ : ByteArray), 20))) = some (r1, r2) := H
  have A2 := Aside0.mk A20
  clear A20
  by_cases c3 : t252 = true
  · subst c3
    have H1 : (pleacherref04_Put.l0 k a0 (⟨#[]⟩ : ByteArray) 0) = some (r1, r2) := by rw [if_pos rfl] at H; exact H
    clear H
    have H := H1
    clear H1
    have H' := Aside0.mk H
    clear H
    go_enter Tryz.func22, Tryz.ntmps22
    go_wp2_with (first | ((with_reducible refine gate_callee (f := 44) rfl ?_); refine goesL_ (some 7) rfl rfl Tryz.func44 (by kernel_rfl) rfl #[.string a0] rfl (by (try simp only [List.map_toArray, List.map_cons, List.map_nil]); first | done | rfl | (simp only [List.length_drop, List.length_take]; rfl)) ?_; (with_reducible refine (pleacherref02_IsText.calls k a0 true _ A2.out).mono ?_); rintro e w4 ⟨rfl, hb⟩; refine ⟨_, rfl, ?_⟩; have n0_ := Aside0.mk (below_step (by repeat (first | (with_reducible first | exact HB.out | apply below_alloc | apply pw_below_drewN | apply below_drew1) | exact HB.out)) hb); clear HB; have HB := n0_; clear n0_; (try clear hb); (try clear hb2); (try clear hk); (try clear hi)))
    go_loopg [4, 5] k (fun kq v4 v5 w' => ∃ (x4_1 : ByteArray) (x5_1 : Int), v4 = .string x4_1 ∧ v5 = .int .i64 x5_1 ∧ Aside0 (pleacherref04_Put.l0 kq a0 x4_1 x5_1 = some (r1, r2)) ∧ Aside0 (kq ≤ k) ∧ Aside0 (Below w.heap.size w w'))
    case atStart => exact ⟨((⟨#[]⟩ : ByteArray)), (0), (by first | rfl | (simp; done) | (simp [*]; done)), (by first | rfl | (simp; done) | (simp [*]; done)), H', ⟨Nat.le_refl _⟩, ⟨by repeat (first | (with_reducible first | exact HB.out | apply below_alloc | apply pw_below_drewN | apply below_drew1) | exact HB.out)⟩⟩
    case round =>
      clear H'
      try clear c2
      try clear p2
      try clear c3
      try clear c4
      obtain ⟨x4_1, x5_1, rfl, rfl, HA, HK1, HB⟩ := hrel
      cases gk with
      | zero => exact absurd HA.out (by simp [pleacherref04_Put.l0])
      | succ k1 =>
        have H := HA.out
        clear HA
        simp only [pleacherref04_Put.l0] at H
        by_cases c5 : x5_1 < (a0.size : Int)
        · rw [if_pos c5] at H
          have c5b0 : decide (x5_1 < (a0.size : Int)) = true := decide_eq_true c5
          clear c5
          by_cases c6 : 0 ≤ x5_1
          · rw [if_pos c6] at H
            have c6b0 : decide (0 ≤ x5_1) = true := decide_eq_true c6
            clear c6
            replace H := Option.bind_eq_some_iff.mp H
            obtain ⟨t253, A80, H⟩ := H
            replace H : (if x4_1.size + t253.size ≤ 9223372036854775807 then (pleacherref04_Put.l0 k1 a0 (x4_1 ++ t253) (wrap64 (x5_1 + 1))) else (none)) = some (r1, r2) := H
            have A8 := Aside0.mk A80
            clear A80
            by_cases c9 : x4_1.size + t253.size ≤ 9223372036854775807
            · rw [if_pos c9] at H
              have c9b0 := eq_true c9
              have c9b1 : decide (x4_1.size + t253.size ≤ 9223372036854775807) = true := decide_eq_true c9
              try have c9b2 : (9223372036854775807 < x4_1.size + t253.size) = False := eq_false (Nat.not_lt.2 c9)
              have H' := Aside0.mk H
              clear H
              have p7 : 0 ≤ (x5_1 : Int) := of_decide_eq_true (by first | (with_reducible assumption) | assumption)
              have q7 : x5_1 < (a0.size : Int) := of_decide_eq_true (by first | (with_reducible assumption) | assumption)
              have hx7 := bt_at a0 x5_1
              replace p7 := eq_true p7
              replace q7 := eq_true q7
              go_wp2_with (first | ((with_reducible refine gate_callee (f := 45) rfl ?_); refine goesL_ (some 19) rfl rfl Tryz.func45 (by kernel_rfl) rfl #[.int .u8 (bt a0 x5_1)] rfl (by (try simp only [List.map_toArray, List.map_cons, List.map_nil]); first | done | rfl | (simp only [List.length_drop, List.length_take]; rfl)) ?_; (with_reducible refine (pleacherref04_one.calls (bt a0 x5_1) t253 _ A8.out).mono ?_); rintro e w10 ⟨rfl, hb⟩; refine ⟨_, rfl, ?_⟩; have n0_ := Aside0.mk (below_step (by repeat (first | (with_reducible first | exact HB.out | apply below_alloc | apply pw_below_drewN | apply below_drew1) | exact HB.out)) hb); clear HB; have HB := n0_; clear n0_; (try clear hb); (try clear hb2); (try clear hk); (try clear hi)))
              go_roundg k1
              case measure => have := HK1.out; omega
              case rel => exact ⟨(x4_1 ++ t253), (wrap64 (x5_1 + 1)), (by first | rfl | (simp; done) | (simp [*]; done)), (by first | rfl | (simp; done) | (simp [*]; done)), H', ⟨by have := HK1.out; omega⟩, ⟨by repeat (first | (with_reducible first | exact HB.out | apply below_alloc | apply pw_below_drewN | apply below_drew1) | exact HB.out)⟩⟩
            · rw [if_neg c9] at H
              exact absurd H (by simp)
          · rw [if_neg c6] at H
            exact absurd H (by simp)
        · rw [if_neg c5] at H
          have c5b0 : decide (x5_1 < (a0.size : Int)) = false := decide_eq_false c5
          clear c5
          simp only [Option.some.injEq, Prod.mk.injEq] at H
          obtain ⟨rfl, rfl⟩ := H
          go_wp2
          go_ret2
          exact ⟨by first | rfl | (simp [errW_none, errW_some] <;> rfl) | (simp [*, errW_none, errW_some] <;> rfl), by repeat (first | (with_reducible first | exact HB.out | apply below_alloc | apply pw_below_drewN | apply below_drew1) | exact HB.out)⟩
  · replace c3 := Bool.eq_false_iff.mpr c3
    subst c3
    have H1 : (some ((⟨#[]⟩ : ByteArray), 20)) = some (r1, r2) := by rw [if_neg (show ¬ (false = true) by decide)] at H; exact H
    clear H
    have H := H1
    clear H1
    simp only [Option.some.injEq, Prod.mk.injEq] at H
    obtain ⟨rfl, rfl⟩ := H
    go_enter Tryz.func22, Tryz.ntmps22
    go_wp2_with (first | ((with_reducible refine gate_callee (f := 44) rfl ?_); refine goesL_ (some 7) rfl rfl Tryz.func44 (by kernel_rfl) rfl #[.string a0] rfl (by (try simp only [List.map_toArray, List.map_cons, List.map_nil]); first | done | rfl | (simp only [List.length_drop, List.length_take]; rfl)) ?_; (with_reducible refine (pleacherref02_IsText.calls k a0 false _ A2.out).mono ?_); rintro e w11 ⟨rfl, hb⟩; refine ⟨_, rfl, ?_⟩; have n0_ := Aside0.mk (below_step (by repeat (first | (with_reducible first | exact HB.out | apply below_alloc | apply pw_below_drewN | apply below_drew1) | exact HB.out)) hb); clear HB; have HB := n0_; clear n0_; (try clear hb); (try clear hb2); (try clear hk); (try clear hi)))
    go_ret2
    exact ⟨by first | rfl | (simp [errW_none, errW_some] <;> rfl) | (simp [*, errW_none, errW_some] <;> rfl), by repeat (first | (with_reducible first | exact HB.out | apply below_alloc | apply pw_below_drewN | apply below_drew1) | exact HB.out)⟩

end Go.Proofs.YtbcjhmeeonhmaaaGreatDoor.M
end

-- Laid by a program of this session for this claim.
section
namespace Go.Proofs.YtbcjhmeeonhmaaaGreatDoor.M
open Go.RowKit Go.Proofs.YtbcjhmeeonhmaaaGreatDoorW.PrintWords Go.Proofs.YtbcjhmeeonhmaaaGreatDoorW.PrintLast Go.Proofs.YtbcjhmeeonhmaaaGreatDoorW.PrintMore
attribute [local go_sem] max2_int min2_int max_two min_two max_three min_three max_four min_four   -- for this text's walks alone
set_option linter.unusedVariables false
set_option linter.unusedSimpArgs false

/-! ### pleacherref04_Lines: function 23 -/
def pleacherref04_Lines.l0 : Nat → ByteArray → List Int → Int → Option (ByteArray)
  | 0, _, _, _ => none
  | k + 1, x0, x3, x4 => if x4 < (x0.size : Int) then (if 0 ≤ x4 then (if (bt x0 x4) = 13 then (if (wrap64 (x4 + 1)) = (x0.size : Int) then (if x3.length < 140737488355328 then (pleacherref04_Lines.l0 k x0 (x3 ++ [10]) (wrap64 (x4 + 1))) else (none)) else (if 0 ≤ (wrap64 (x4 + 1)) then (if (wrap64 (x4 + 1)) < (x0.size : Int) then (if (bt x0 (wrap64 (x4 + 1))) = 10 then (pleacherref04_Lines.l0 k x0 x3 (wrap64 (x4 + 1))) else (if x3.length < 140737488355328 then (pleacherref04_Lines.l0 k x0 (x3 ++ [10]) (wrap64 (x4 + 1))) else (none))) else (none)) else (none))) else (if x3.length < 140737488355328 then (pleacherref04_Lines.l0 k x0 (x3 ++ [bt x0 x4]) (wrap64 (x4 + 1))) else (none))) else (none)) else (some (strOfNums x3))
def pleacherref04_Lines.f (k : Nat) (a0 : ByteArray) : Option (ByteArray) := pleacherref04_Lines.l0 k a0 ([] : List Int) 0
set_option maxHeartbeats 8000000 in
set_option maxRecDepth 100000 in
theorem pleacherref04_Lines.calls (k : Nat) (a0 : ByteArray) (r : ByteArray) (w : World) (h : pleacherref04_Lines.f k a0 = some r) :
    Calls Tryz.prog 23 #[.string a0] w fun e w' => e = .returned (.string r) ∧ Below w.heap.size w w' := by
  have HB := Aside0.mk (Below.refl w.heap.size w)
  have H : (pleacherref04_Lines.l0 k a0 ([] : List Int) 0) = some r := h
  clear h
  have H' := Aside0.mk H
  clear H
  go_enter Tryz.func23, Tryz.ntmps23
  go_wp2
  go_loopg [3, 4] k (fun kq v3 v4 w' => ∃ (x3_1 : List Int) (x4_1 : Int), v4 = .int .i64 x4_1 ∧ Aside0 (pleacherref04_Lines.l0 kq a0 x3_1 x4_1 = some r) ∧ Aside0 (kq ≤ k) ∧ Aside0 (Kd.R (Kd.int .u8) 5 w' w.heap.size (fun _ => True) v3 x3_1) ∧ Aside0 (Below w.heap.size w w'))
  case atStart => exact ⟨(([] : List Int)), (0), (by first | rfl | (simp; done) | (simp [*]; done)), H', ⟨Nat.le_refl _⟩, ⟨by first | exact Kd.R_nil _ _ _ _ _ | exact Kd.N_nil _ _ _ _ _ | exact Kd.V_nil _ _ _ _ _ | exact Kd.Q_nil _ _ _ _ _ | exact Kd.S_nil _ _ _ _ _⟩, ⟨by repeat (first | (with_reducible first | exact HB.out | apply below_alloc | apply pw_below_drewN | apply below_drew1) | exact HB.out)⟩⟩
  case round =>
    clear H'
    obtain ⟨x3_1, x4_1, rfl, HA, HK1, HO_3, HB⟩ := hrel
    cases gk with
    | zero => exact absurd HA.out (by simp [pleacherref04_Lines.l0])
    | succ k1 =>
      have H := HA.out
      clear HA
      simp only [pleacherref04_Lines.l0] at H
      by_cases c2 : x4_1 < (a0.size : Int)
      · rw [if_pos c2] at H
        have c2b0 : decide (x4_1 < (a0.size : Int)) = true := decide_eq_true c2
        clear c2
        by_cases c3 : 0 ≤ x4_1
        · rw [if_pos c3] at H
          have c3b0 : decide (0 ≤ x4_1) = true := decide_eq_true c3
          clear c3
          by_cases c5 : (bt a0 x4_1) = 13
          · rw [if_pos c5] at H
            have c5b0 : ((bt a0 x4_1) == 13) = true := beq_iff_eq.mpr c5
            have c5b1 : ((bt a0 x4_1) != 13) = false := bne_eq_false_iff_eq.mpr c5
            clear c5
            by_cases c6 : (wrap64 (x4_1 + 1)) = (a0.size : Int)
            · rw [if_pos c6] at H
              have c6b0 : ((wrap64 (x4_1 + 1)) == (a0.size : Int)) = true := beq_iff_eq.mpr c6
              have c6b1 : ((wrap64 (x4_1 + 1)) != (a0.size : Int)) = false := bne_eq_false_iff_eq.mpr c6
              clear c6
              by_cases c7 : x3_1.length < 140737488355328
              · rw [if_pos c7] at H
                have LMc7 := Aside0.mk c7
                clear c7
                obtain ⟨y254, hy254⟩ : ∃ y_ : List Int, y_ = (x3_1 ++ [10]) := ⟨_, rfl⟩
                replace H : (pleacherref04_Lines.l0 k1 a0 y254 (wrap64 (x4_1 + 1))) = some r := by first | (rw [hy254]; with_reducible exact H) | (have H2_ := (Option.bind_some _ _).symm.trans H; rw [hy254]; with_reducible exact H2_) | (have H2_ := (Option.bind_some _ _).symm.trans H; with_reducible exact H2_) | with_reducible exact H | (rw [hy254]; exact H) | exact H
                have Ny254 := Aside0.mk hy254
                clear hy254
                have H' := Aside0.mk H
                clear H
                have p4 : 0 ≤ (x4_1 : Int) := of_decide_eq_true (by first | (with_reducible assumption) | assumption)
                have q4 : x4_1 < (a0.size : Int) := of_decide_eq_true (by first | (with_reducible assumption) | assumption)
                have hx4 := bt_at a0 x4_1
                replace p4 := eq_true p4
                replace q4 := eq_true q4
                go_wp2_with (first | ((with_reducible refine gate_builtin (b := .append) (xs := #[.tmp 33, .tmp 34]) rfl ?_); at_builtin; refine Kd.R_append (Kd.int .u8) (w0 := w) w.heap.size rfl (.tmp 33) (.tmp 34) 45 5 (.int .u8 0) 1 rfl Tryz.underlying45 info5 rfl (by decide) (by omega) u3 x3_1 10 [.int .u8 10] (fun _ => True) (fun _ => False) rfl rfl ?aP (fun _ hk => hk.elim) ?aF ?aO ?aB ?aS ?aL ?_; (case aP => exact rfl); (case aB => exact (by repeat (first | (with_reducible first | exact HB.out | apply below_alloc | apply pw_below_drewN | apply below_drew1) | exact HB.out))); (case aF => exact (fun _ _ => trivial)); (case aO => exact (by (with_reducible repeat (first | apply Kd.R_alloc | apply Kd.R_drewN | apply Kd.R_drew)); exact HO_3.out)); (case aS => exact (below_size (by repeat (first | (with_reducible first | exact HB.out | apply below_alloc | apply pw_below_drewN | apply below_drew1) | exact HB.out)))); (case aL => have := LMc7.out; omega); intro v255 w8 ho hb hg hat; rw [← Ny254.out] at ho; have n0_ := Aside0.mk (hb); have n1_ := Aside0.mk (ho); clear HB; clear HO_3; have HB := n0_; have HO256 := n1_; clear n0_ n1_; clear ho hb hg hat))
                go_roundg k1
                case measure => have := HK1.out; omega
                case rel => exact ⟨(y254), (wrap64 (x4_1 + 1)), (by first | rfl | (simp; done) | (simp [*]; done)), H', ⟨by have := HK1.out; omega⟩, ⟨by (with_reducible repeat (first | apply Kd.R_alloc | apply Kd.R_drewN | apply Kd.R_drew)); exact HO256.out⟩, ⟨by repeat (first | (with_reducible first | exact HB.out | apply below_alloc | apply pw_below_drewN | apply below_drew1) | exact HB.out)⟩⟩
              · rw [if_neg c7] at H
                exact absurd H (by simp)
            · rw [if_neg c6] at H
              have c6b0 : ((wrap64 (x4_1 + 1)) == (a0.size : Int)) = false := beq_eq_false_iff_ne.mpr c6
              have c6b1 : ((wrap64 (x4_1 + 1)) != (a0.size : Int)) = true := bne_iff_ne.mpr c6
              obtain ⟨ji9, hji9⟩ : ∃ j_ : Int, (wrap64 (x4_1 + 1)) = j_ := ⟨_, rfl⟩
              replace H : (if 0 ≤ (ji9) then (if (ji9) < (a0.size : Int) then (if (bt a0 (ji9)) = 10 then (pleacherref04_Lines.l0 k1 a0 x3_1 ji9) else (if x3_1.length < 140737488355328 then (pleacherref04_Lines.l0 k1 a0 (x3_1 ++ [10]) ji9) else (none))) else (none)) else (none)) = some r := by first | (rw [hji9] at H; exact H) | (simp only [hji9] at H ⊢; exact H)
              (try rw [hji9] at c6b0)
              (try rw [hji9] at c6b1)
              have hji9w : (IntKind.i64.wrap (x4_1 + 1)) = ji9 := (i64_w _).trans hji9
              by_cases c10 : 0 ≤ (ji9)
              · rw [if_pos c10] at H
                have c10b0 : decide (0 ≤ (ji9)) = true := decide_eq_true c10
                clear c10
                by_cases c11 : (ji9) < (a0.size : Int)
                · rw [if_pos c11] at H
                  have c11b0 : decide ((ji9) < (a0.size : Int)) = true := decide_eq_true c11
                  clear c11
                  by_cases c13 : (bt a0 (ji9)) = 10
                  · rw [if_pos c13] at H
                    have c13b0 : ((bt a0 (ji9)) == 10) = true := beq_iff_eq.mpr c13
                    have c13b1 : ((bt a0 (ji9)) != 10) = false := bne_eq_false_iff_eq.mpr c13
                    clear c13
                    have H' := Aside0.mk H
                    clear H
                    have p4 : 0 ≤ (x4_1 : Int) := of_decide_eq_true (by first | (with_reducible assumption) | assumption)
                    have q4 : x4_1 < (a0.size : Int) := of_decide_eq_true (by first | (with_reducible assumption) | assumption)
                    have hx4 := bt_at a0 x4_1
                    replace p4 := eq_true p4
                    replace q4 := eq_true q4
                    have p12 : 0 ≤ ((ji9) : Int) := of_decide_eq_true (by first | (with_reducible assumption) | assumption)
                    have q12 : (ji9) < (a0.size : Int) := of_decide_eq_true (by first | (with_reducible assumption) | assumption)
                    have hx12 := bt_at a0 (ji9)
                    replace p12 := eq_true p12
                    replace q12 := eq_true q12
                    go_wp2
                    go_roundg k1
                    case measure => have := HK1.out; omega
                    case rel => exact ⟨(x3_1), (ji9), (by first | rfl | (simp; done) | (simp only [← hji9] <;> (first | rfl | simp)) | (simp [*]; done)), H', ⟨by have := HK1.out; omega⟩, ⟨by (with_reducible repeat (first | apply Kd.R_alloc | apply Kd.R_drewN | apply Kd.R_drew)); exact HO_3.out⟩, ⟨by repeat (first | (with_reducible first | exact HB.out | apply below_alloc | apply pw_below_drewN | apply below_drew1) | exact HB.out)⟩⟩
                  · rw [if_neg c13] at H
                    have c13b0 : ((bt a0 (ji9)) == 10) = false := beq_eq_false_iff_ne.mpr c13
                    have c13b1 : ((bt a0 (ji9)) != 10) = true := bne_iff_ne.mpr c13
                    by_cases c14 : x3_1.length < 140737488355328
                    · rw [if_pos c14] at H
                      have LMc14 := Aside0.mk c14
                      clear c14
                      obtain ⟨y257, hy257⟩ : ∃ y_ : List Int, y_ = (x3_1 ++ [10]) := ⟨_, rfl⟩
                      replace H : (pleacherref04_Lines.l0 k1 a0 y257 ji9) = some r := by first | (rw [hy257]; with_reducible exact H) | (have H2_ := (Option.bind_some _ _).symm.trans H; rw [hy257]; with_reducible exact H2_) | (have H2_ := (Option.bind_some _ _).symm.trans H; with_reducible exact H2_) | with_reducible exact H | (rw [hy257]; exact H) | exact H
                      have Ny257 := Aside0.mk hy257
                      clear hy257
                      have H' := Aside0.mk H
                      clear H
                      have p4 : 0 ≤ (x4_1 : Int) := of_decide_eq_true (by first | (with_reducible assumption) | assumption)
                      have q4 : x4_1 < (a0.size : Int) := of_decide_eq_true (by first | (with_reducible assumption) | assumption)
                      have hx4 := bt_at a0 x4_1
                      replace p4 := eq_true p4
                      replace q4 := eq_true q4
                      have p12 : 0 ≤ ((ji9) : Int) := of_decide_eq_true (by first | (with_reducible assumption) | assumption)
                      have q12 : (ji9) < (a0.size : Int) := of_decide_eq_true (by first | (with_reducible assumption) | assumption)
                      have hx12 := bt_at a0 (ji9)
                      replace p12 := eq_true p12
                      replace q12 := eq_true q12
                      go_wp2_with (first | ((with_reducible refine gate_builtin (b := .append) (xs := #[.tmp 33, .tmp 34]) rfl ?_); at_builtin; refine Kd.R_append (Kd.int .u8) (w0 := w) w.heap.size rfl (.tmp 33) (.tmp 34) 45 5 (.int .u8 0) 1 rfl Tryz.underlying45 info5 rfl (by decide) (by omega) u3 x3_1 10 [.int .u8 10] (fun _ => True) (fun _ => False) rfl rfl ?aP (fun _ hk => hk.elim) ?aF ?aO ?aB ?aS ?aL ?_; (case aP => exact rfl); (case aB => exact (by repeat (first | (with_reducible first | exact HB.out | apply below_alloc | apply pw_below_drewN | apply below_drew1) | exact HB.out))); (case aF => exact (fun _ _ => trivial)); (case aO => exact (by (with_reducible repeat (first | apply Kd.R_alloc | apply Kd.R_drewN | apply Kd.R_drew)); exact HO_3.out)); (case aS => exact (below_size (by repeat (first | (with_reducible first | exact HB.out | apply below_alloc | apply pw_below_drewN | apply below_drew1) | exact HB.out)))); (case aL => have := LMc14.out; omega); intro v258 w15 ho hb hg hat; rw [← Ny257.out] at ho; have n0_ := Aside0.mk (hb); have n1_ := Aside0.mk (ho); clear HB; clear HO_3; have HB := n0_; have HO259 := n1_; clear n0_ n1_; clear ho hb hg hat))
                      go_roundg k1
                      case measure => have := HK1.out; omega
                      case rel => exact ⟨(y257), (ji9), (by first | rfl | (simp; done) | (simp only [← hji9] <;> (first | rfl | simp)) | (simp [*]; done)), H', ⟨by have := HK1.out; omega⟩, ⟨by (with_reducible repeat (first | apply Kd.R_alloc | apply Kd.R_drewN | apply Kd.R_drew)); exact HO259.out⟩, ⟨by repeat (first | (with_reducible first | exact HB.out | apply below_alloc | apply pw_below_drewN | apply below_drew1) | exact HB.out)⟩⟩
                    · rw [if_neg c14] at H
                      exact absurd H (by simp)
                · rw [if_neg c11] at H
                  exact absurd H (by simp)
              · rw [if_neg c10] at H
                exact absurd H (by simp)
          · rw [if_neg c5] at H
            have c5b0 : ((bt a0 x4_1) == 13) = false := beq_eq_false_iff_ne.mpr c5
            have c5b1 : ((bt a0 x4_1) != 13) = true := bne_iff_ne.mpr c5
            by_cases c17 : x3_1.length < 140737488355328
            · rw [if_pos c17] at H
              have LMc17 := Aside0.mk c17
              clear c17
              obtain ⟨y260, hy260⟩ : ∃ y_ : List Int, y_ = (x3_1 ++ [bt a0 x4_1]) := ⟨_, rfl⟩
              replace H : (pleacherref04_Lines.l0 k1 a0 y260 (wrap64 (x4_1 + 1))) = some r := by first | (rw [hy260]; with_reducible exact H) | (have H2_ := (Option.bind_some _ _).symm.trans H; rw [hy260]; with_reducible exact H2_) | (have H2_ := (Option.bind_some _ _).symm.trans H; with_reducible exact H2_) | with_reducible exact H | (rw [hy260]; exact H) | exact H
              have Ny260 := Aside0.mk hy260
              clear hy260
              have H' := Aside0.mk H
              clear H
              have p4 : 0 ≤ (x4_1 : Int) := of_decide_eq_true (by first | (with_reducible assumption) | assumption)
              have q4 : x4_1 < (a0.size : Int) := of_decide_eq_true (by first | (with_reducible assumption) | assumption)
              have hx4 := bt_at a0 x4_1
              replace p4 := eq_true p4
              replace q4 := eq_true q4
              have p16 : 0 ≤ (x4_1 : Int) := of_decide_eq_true (by first | (with_reducible assumption) | assumption)
              have q16 : x4_1 < (a0.size : Int) := of_decide_eq_true (by first | (with_reducible assumption) | assumption)
              have hx16 := bt_at a0 x4_1
              replace p16 := eq_true p16
              replace q16 := eq_true q16
              go_wp2_with (first | ((with_reducible refine gate_builtin (b := .append) (xs := #[.tmp 15, .tmp 19]) rfl ?_); at_builtin; refine Kd.R_append (Kd.int .u8) (w0 := w) w.heap.size rfl (.tmp 15) (.tmp 19) 45 5 (.int .u8 0) 1 rfl Tryz.underlying45 info5 rfl (by decide) (by omega) u3 x3_1 (bt a0 x4_1) [.int .u8 (bt a0 x4_1)] (fun _ => True) (fun _ => False) rfl rfl ?aP (fun _ hk => hk.elim) ?aF ?aO ?aB ?aS ?aL ?_; (case aP => exact rfl); (case aB => exact (by repeat (first | (with_reducible first | exact HB.out | apply below_alloc | apply pw_below_drewN | apply below_drew1) | exact HB.out))); (case aF => exact (fun _ _ => trivial)); (case aO => exact (by (with_reducible repeat (first | apply Kd.R_alloc | apply Kd.R_drewN | apply Kd.R_drew)); exact HO_3.out)); (case aS => exact (below_size (by repeat (first | (with_reducible first | exact HB.out | apply below_alloc | apply pw_below_drewN | apply below_drew1) | exact HB.out)))); (case aL => have := LMc17.out; omega); intro v261 w18 ho hb hg hat; rw [← Ny260.out] at ho; have n0_ := Aside0.mk (hb); have n1_ := Aside0.mk (ho); clear HB; clear HO_3; have HB := n0_; have HO262 := n1_; clear n0_ n1_; clear ho hb hg hat))
              go_roundg k1
              case measure => have := HK1.out; omega
              case rel => exact ⟨(y260), (wrap64 (x4_1 + 1)), (by first | rfl | (simp; done) | (simp [*]; done)), H', ⟨by have := HK1.out; omega⟩, ⟨by (with_reducible repeat (first | apply Kd.R_alloc | apply Kd.R_drewN | apply Kd.R_drew)); exact HO262.out⟩, ⟨by repeat (first | (with_reducible first | exact HB.out | apply below_alloc | apply pw_below_drewN | apply below_drew1) | exact HB.out)⟩⟩
            · rw [if_neg c17] at H
              exact absurd H (by simp)
        · rw [if_neg c3] at H
          exact absurd H (by simp)
      · rw [if_neg c2] at H
        have c2b0 : decide (x4_1 < (a0.size : Int)) = false := decide_eq_false c2
        clear c2
        obtain rfl := Option.some.inj H
        have hcv19 := own_string (P := Tryz.prog) Tryz.underlying45 Tryz.underlying5 Tryz.underlying9 (Kd.own_of_R HO_3.out)
        go_wp2
        go_ret
        exact ⟨by first | rfl | (simp [errW_none, errW_some] <;> rfl) | (simp [*, errW_none, errW_some] <;> rfl), by repeat (first | (with_reducible first | exact HB.out | apply below_alloc | apply pw_below_drewN | apply below_drew1) | exact HB.out)⟩

end Go.Proofs.YtbcjhmeeonhmaaaGreatDoor.M
end

/-
The document's functions of escapes and raw texts: what they say is what the program's say.
-/
section
set_option linter.unusedVariables false
set_option maxRecDepth 100000
namespace Go.Proofs.YtbcjhmeeonhmaaaGreatDoor.H
open Go Go.RowKit Go.Proofs.YtbcjhmeeonhmaaaGreatDoorW.PrintWords Go.Proofs.YtbcjhmeeonhmaaaGreatDoorW.PrintMore Go.Proofs.YtbcjhmeeonhmaaaGreatDoor.M

theorem ref02_isChar (r : Int) : pleacherref02_IsChar.f r = some (isCharS r) := by
  unfold pleacherref02_IsChar.f
  rw [ref02_in, ref02_in, ref02_in]
  simp only [Option.bind_some]
  have e : isCharS r = ((decide (9 ≤ r) && decide (r ≤ 10)) || ((decide (13 ≤ r) && decide (r ≤ 13)) || ((decide (32 ≤ r) && decide (r ≤ 55295)) || ((decide (57344 ≤ r) && decide (r ≤ 65533)) || ((decide (65536 ≤ r) && decide (r ≤ 1114111)) || false))))) := by
    unfold isCharS anyB charL
    simp only [List.any_cons, List.any_nil]
    rfl
  rw [e]
  by_cases h1 : r = 9
  · subst h1; rfl
  by_cases h2 : r = 10
  · subst h2; rfl
  by_cases h3 : r = 13
  · subst h3; rfl
  rw [if_neg h1, if_neg h2, if_neg h3]
  have f1 : (decide (9 ≤ r) && decide (r ≤ 10)) = false := by simp; omega
  have f2 : (decide (13 ≤ r) && decide (r ≤ 13)) = false := by simp; omega
  rw [f1, f2, Bool.false_or, Bool.false_or, Bool.or_false]
  cases (decide (32 ≤ r) && decide (r ≤ 55295)) <;> cases (decide (57344 ≤ r) && decide (r ≤ 65533)) <;> simp
theorem ref02_runesF (s : ByteArray) (hs : s.size ≤ 1073741824) (k : Nat) (hk : s.size + 11 ≤ k) : pleacherref02_Runes.f k s = some ((eat s).1, (s.size : Int) - (eat s).2.size) := by
  obtain ⟨j, rfl⟩ : ∃ j, k = (s.size + j) + 11 := ⟨k - 11 - s.size, by omega⟩
  unfold pleacherref02_Runes.f
  have := ref02_runes s hs (s.size + j) 0 [] s.size (by omega) (by omega) (by simp; exact hs)
  rw [show ((0 : Nat) : Int) = 0 from rfl] at this
  rw [this]
  have h1 : s.extract 0 s.size = s := ByteArray.extract_zero_size
  rw [h1, eatF_fuel (s.size + 1) s.size s (by omega) (by omega)]
  rfl
theorem eat_len (s : ByteArray) : (eat s).1.length ≤ s.size := by
  have : ∀ (k : Nat) (s : ByteArray), (eatF k s).1.length ≤ k := by
    intro k
    induction k with
    | zero => intro s; exact Nat.le_refl _
    | succ k ih =>
      intro s
      rw [eatF]
      by_cases h : (decR s).2.2 = 0
      · rw [if_pos h]
        have := ih (s.extract (decR s).2.1.toNat s.size)
        simp only [List.length_cons]; omega
      · rw [if_neg h]; simp
  exact this _ _
theorem text_l (s : ByteArray) (xs : List Int) (z : Int) (hx : xs.length ≤ 1073741824) : ∀ (k i m : Nat), i + m = xs.length → m ≤ k →
    pleacherref02_IsText.l0 (k + 1) s xs z i = some ((xs.drop i).all isCharS && (z == (s.size : Int))) := by
  intro k
  induction k with
  | zero =>
    intro i m h1 h2
    rw [pleacherref02_IsText.l0, if_neg (by omega), List.drop_of_length_le (by omega)]; rfl
  | succ k ih =>
    intro i m h1 h2
    by_cases h : i < xs.length
    · have hr : rd xs (i : Int) = xs[i] := by
        unfold rd; rw [Int.toNat_natCast, List.getD_eq_getElem?_getD, List.getElem?_eq_getElem h]; rfl
      rw [pleacherref02_IsText.l0, if_pos (by omega), if_pos (by omega), hr, ref02_isChar, Option.bind_some, List.drop_eq_getElem_cons h, List.all_cons]
      by_cases hc : isCharS xs[i] = true
      · rw [if_pos hc, hc, Bool.true_and, w64 (by omega) (by omega), show (i : Int) + 1 = ((i + 1 : Nat) : Int) from by omega]
        exact ih (i + 1) (m - 1) (by omega) (by omega)
      · rw [if_neg hc]
        have : isCharS xs[i] = false := by simpa using hc
        rw [this]; rfl
    · rw [pleacherref02_IsText.l0, if_neg (by omega), List.drop_of_length_le (by omega)]; rfl
theorem ref02_isText (s : ByteArray) (hs : s.size ≤ 1073741824) (k : Nat) (hk : s.size + 12 ≤ k) : pleacherref02_IsText.f k s = some (isTextS s) := by
  unfold pleacherref02_IsText.f
  rw [ref02_runesF s hs k (by omega), Option.bind_some]
  have hl := eat_len s
  obtain ⟨j, rfl⟩ : ∃ j, k = j + 1 := ⟨k - 1, by omega⟩
  have := text_l s (eat s).1 ((s.size : Int) - (eat s).2.size) (by omega) j 0 (eat s).1.length (by omega) (by omega)
  rw [List.drop_zero] at this
  refine this.trans ?_
  have hle := eatF_le s.size s
  have hle : (eat s).2.size ≤ s.size := hle
  unfold isTextS
  have hB : ((s.size : Int) - ((eat s).2.size : Int) == (s.size : Int)) = ((eat s).2.size == 0) := by
    rw [Bool.eq_iff_iff, beq_iff_eq, beq_iff_eq]; omega
  rw [hB, Bool.and_comm]
theorem ref04_one (c : UInt8) : pleacherref04_one.f (c.toNat : Int) = some (B (oneL c)) := by
  have hc : ∀ (d : UInt8) (n : Int), (d.toNat : Int) = n → (((c.toNat : Int) = n) ↔ c = d) := fun d n hn => ⟨fun e => UInt8.toNat_inj.1 (by omega), fun e => by rw [e]; exact hn⟩
  have e1 := hc 38 38 rfl; have e2 := hc 60 60 rfl; have e3 := hc 62 62 rfl; have e4 := hc 34 34 rfl; have e5 := hc 9 9 rfl; have e6 := hc 10 10 rfl; have e7 := hc 13 13 rfl
  unfold pleacherref04_one.f oneL
  by_cases a1 : c = 38
  · rw [if_pos (e1.2 a1), if_pos a1]; rfl
  rw [if_neg (fun h => a1 (e1.1 h)), if_neg a1]
  by_cases a2 : c = 60
  · rw [if_pos (e2.2 a2), if_pos a2]; rfl
  rw [if_neg (fun h => a2 (e2.1 h)), if_neg a2]
  by_cases a3 : c = 62
  · rw [if_pos (e3.2 a3), if_pos a3]; rfl
  rw [if_neg (fun h => a3 (e3.1 h)), if_neg a3]
  by_cases a4 : c = 34
  · rw [if_pos (e4.2 a4), if_pos a4]; rfl
  rw [if_neg (fun h => a4 (e4.1 h)), if_neg a4]
  by_cases a5 : c = 9
  · rw [if_pos (e5.2 a5), if_pos a5]; rfl
  rw [if_neg (fun h => a5 (e5.1 h)), if_neg a5]
  by_cases a6 : c = 10
  · rw [if_pos (e6.2 a6), if_pos a6]; rfl
  rw [if_neg (fun h => a6 (e6.1 h)), if_neg a6]
  by_cases a7 : c = 13
  · rw [if_pos (e7.2 a7), if_pos a7]; rfl
  rw [if_neg (fun h => a7 (e7.1 h)), if_neg a7]
  congr 1
  refine data_ext ?_
  rw [strOfNums_data, B_list]
  show [UInt8.ofNat ((c.toNat : Int)).toNat] = [c]
  rw [Int.toNat_natCast, UInt8.ofNat_toNat]
theorem put_l (s : ByteArray) (hs : s.size ≤ 1073741824) : ∀ (k i m : Nat), i + m = s.size → m ≤ k →
    pleacherref04_Put.l0 (k + 1) s (B (escT (s.data.toList.take i))) i = some (B (escT s.data.toList), 0) := by
  have hl := size_data s
  intro k
  induction k with
  | zero =>
    intro i m h1 h2
    rw [pleacherref04_Put.l0, if_neg (by omega), List.take_of_length_le (by omega)]
  | succ k ih =>
    intro i m h1 h2
    by_cases h : i < s.size
    · have hi : i < s.data.toList.length := by omega
      have hb := bt_list s i s.data.toList[i] (List.getElem?_eq_getElem hi)
      have hz := escT_size (s.data.toList.take i)
      have ho := oneL_bd s.data.toList[i]
      rw [List.length_take] at hz
      rw [pleacherref04_Put.l0, if_pos (by omega), if_pos (by omega), hb, ref04_one, Option.bind_some, if_pos (by rw [B_size, B_size]; omega), w64 (by omega) (by omega), show (i : Int) + 1 = ((i + 1 : Nat) : Int) from by omega, ← B_app]
      have e : escT (s.data.toList.take i) ++ oneL s.data.toList[i] = escT (s.data.toList.take (i + 1)) := by
        rw [List.take_add_one, List.getElem?_eq_getElem hi, escT_app]
        congr 1
        exact (List.append_nil _).symm
      rw [e]
      exact ih (i + 1) (m - 1) (by omega) (by omega)
    · rw [pleacherref04_Put.l0, if_neg (by omega), List.take_of_length_le (by omega)]
theorem ref04_put (s : ByteArray) (hs : s.size ≤ 1073741824) (k : Nat) (hk : s.size + 12 ≤ k) : pleacherref04_Put.f k s = some (ePutS s) := by
  unfold pleacherref04_Put.f
  rw [ref02_isText s hs k hk, Option.bind_some]
  by_cases h : isTextS s = true
  · rw [if_pos h, put_text h]
    obtain ⟨j, rfl⟩ : ∃ j, k = j + 1 := ⟨k - 1, by omega⟩
    exact put_l s hs j 0 s.size (by omega) (by omega)
  · rw [if_neg h, put_none h]
theorem nums_bytes (l : List UInt8) : strOfNums (l.map fun c => (c.toNat : Int)) = B l := by
  refine data_ext ?_
  rw [strOfNums_data, List.map_map, B_list]
  conv => rhs; rw [← List.map_id l]
  refine List.map_congr_left fun c _ => ?_
  simp only [Function.comp, Int.toNat_natCast, UInt8.ofNat_toNat, id]
theorem lines_l (s : ByteArray) (hs : s.size ≤ 1073741824) : ∀ (k i m : Nat) (acc : List UInt8), i + m = s.size → m ≤ k → acc.length ≤ i →
    pleacherref04_Lines.l0 (k + 1) s (acc.map fun c => (c.toNat : Int)) i = some (B (acc ++ linesL (s.data.toList.drop i))) := by
  have hl := size_data s
  intro k
  induction k with
  | zero =>
    intro i m acc h1 h2 h3
    rw [pleacherref04_Lines.l0, if_neg (by omega), List.drop_of_length_le (by omega), nums_bytes, linesL, List.append_nil]
  | succ k ih =>
    intro i m acc h1 h2 h3
    by_cases h : i < s.size
    · have hi : i < s.data.toList.length := by omega
      obtain ⟨c, hc⟩ : ∃ c, s.data.toList[i] = c := ⟨_, rfl⟩
      have hb := bt_list s i c (by rw [List.getElem?_eq_getElem hi, hc])
      have hw : wrap64 ((i : Int) + 1) = ((i + 1 : Nat) : Int) := by rw [w64 (by omega) (by omega)]; omega
      have hm : (acc.map fun c => (c.toNat : Int)).length < 140737488355328 := by rw [List.length_map]; omega
      have push : ∀ d : UInt8, (acc.map fun c => (c.toNat : Int)) ++ [(d.toNat : Int)] = (acc ++ [d]).map fun c => (c.toNat : Int) := fun d => by rw [List.map_append]; rfl
      have nx : ∀ d : UInt8, pleacherref04_Lines.l0 (k + 1) s ((acc ++ [d]).map fun c => (c.toNat : Int)) ((i + 1 : Nat) : Int) = some (B (acc ++ d :: linesL (s.data.toList.drop (i + 1)))) := fun d => by
        rw [ih (i + 1) (m - 1) (acc ++ [d]) (by omega) (by omega) (by rw [List.length_append, List.length_singleton]; omega), List.append_assoc]; rfl
      rw [pleacherref04_Lines.l0, if_pos (by omega), if_pos (by omega), hb, hw, List.drop_eq_getElem_cons hi, hc, linesL]
      by_cases h13 : c = 13
      · rw [if_pos (by rw [h13]; rfl), if_pos h13]
        by_cases hend : i + 1 = s.size
        · rw [if_pos (by omega), if_pos hm]
          have hd : s.data.toList.drop (i + 1) = [] := List.drop_of_length_le (by omega)
          rw [hd, if_neg (by simp)]
          have := nx 10
          rw [hd] at this
          rw [show (10 : Int) = ((10 : UInt8).toNat : Int) from rfl, push]
          exact this
        · have hi2 : i + 1 < s.data.toList.length := by omega
          obtain ⟨d, hd⟩ : ∃ d, s.data.toList[i + 1] = d := ⟨_, rfl⟩
          have hb2 := bt_list s (i + 1) d (by rw [List.getElem?_eq_getElem hi2, hd])
          have hh : (s.data.toList.drop (i + 1)).head? = some d := by rw [List.head?_drop, List.getElem?_eq_getElem hi2, hd]
          rw [if_neg (by omega), if_pos (by omega), if_pos (by omega), hb2, hh]
          by_cases h10 : d = 10
          · rw [if_pos (by rw [h10]; rfl), if_pos (by rw [h10]), ih (i + 1) (m - 1) acc (by omega) (by omega) (by omega)]
          · rw [if_neg (fun e => h10 (UInt8.toNat_inj.1 (by have : (10 : UInt8).toNat = 10 := rfl; omega))), if_neg (fun e => h10 (Option.some.inj e)), if_pos hm]
            rw [show (10 : Int) = ((10 : UInt8).toNat : Int) from rfl, push]
            exact nx 10
      · rw [if_neg (fun e => h13 (UInt8.toNat_inj.1 (by have : (13 : UInt8).toNat = 13 := rfl; omega))), if_neg h13, if_pos hm, push]
        exact nx c
    · rw [pleacherref04_Lines.l0, if_neg (by omega), List.drop_of_length_le (by omega), nums_bytes, linesL, List.append_nil]
theorem ref04_lines (s : ByteArray) (hs : s.size ≤ 1073741824) (k : Nat) (hk : s.size + 1 ≤ k) : pleacherref04_Lines.f k s = some (B (linesL s.data.toList)) := by
  obtain ⟨j, rfl⟩ : ∃ j, k = j + 1 := ⟨k - 1, by omega⟩
  unfold pleacherref04_Lines.f
  have := lines_l s hs j 0 s.size [] (by omega) (by omega) (by simp)
  exact this

/-! References -/
/-- The rune of a name. -/
def namedN (l : List UInt8) : Int := if l = [97, 109, 112] then 38 else if l = [108, 116] then 60 else if l = [103, 116] then 62 else if l = [113, 117, 111, 116] then 34 else if l = [97, 112, 111, 115] then 39 else 0
theorem word_eq (k : Nat) (w l : List UInt8) (h : wordK k = B w) : (wordK k = B l) ↔ l = w := by
  rw [h]; exact ⟨fun e => (B_inj e).symm, fun e => by rw [e]⟩
theorem nameR_named (l : List UInt8) (r0 : Int) : nameR (B l) r0 5 = if namedN l = 0 then r0 else namedN l := by
  have w0 := word_eq 0 [97, 109, 112] l rfl
  have w1 := word_eq 1 [108, 116] l rfl
  have w2 := word_eq 2 [103, 116] l rfl
  have w3 := word_eq 3 [113, 117, 111, 116] l rfl
  have w4 := word_eq 4 [97, 112, 111, 115] l rfl
  simp only [nameR, w0, w1, w2, w3, w4]
  unfold namedN
  by_cases a0 : l = [97, 109, 112]
  · subst a0; rfl
  by_cases a1 : l = [108, 116]
  · subst a1; rfl
  by_cases a2 : l = [103, 116]
  · subst a2; rfl
  by_cases a3 : l = [113, 117, 111, 116]
  · subst a3; rfl
  by_cases a4 : l = [97, 112, 111, 115]
  · subst a4; rfl
  simp only [if_neg a0, if_neg a1, if_neg a2, if_neg a3, if_neg a4, if_true]
theorem bodyR_eq (l : List UInt8) : bodyR (B l) = if l.head? = some 35 then digS (B l.tail) else namedN l := by
  unfold bodyR
  rw [nameR_named]
  rcases pfx_cases l 35 with ⟨t, rfl, e⟩ | ⟨h, e⟩
  · have hn : namedN (35 :: t) = 0 := by
      unfold namedN
      rw [if_neg (by simp), if_neg (by simp), if_neg (by simp), if_neg (by simp), if_neg (by simp)]
    rw [hn, e, if_pos rfl, if_pos rfl, if_pos (show (35 :: t).head? = some 35 from rfl)]; rfl
  · rw [e, if_neg h]
    by_cases h0 : namedN l = 0
    · rw [if_pos h0, h0, if_neg (show ¬ ((B l, false).2 = true) from fun h => by cases h)]
    · rw [if_neg h0]
/-- Where the document's Ref stops. -/
def Stop (l : List UInt8) (q : Nat) : Prop := q ≤ 12 ∧ q ≤ l.length ∧ (∀ j, j < q → l[j]? ≠ some 59) ∧ (q = l.length ∨ q = 12 ∨ l[q]? = some 59)
/-! Get -/
end Go.Proofs.YtbcjhmeeonhmaaaGreatDoor.H
end

/-
escape.Get, walked.
-/
section
set_option linter.unusedVariables false
set_option maxRecDepth 100000
namespace Go.Proofs.YtbcjhmeeonhmaaaGreatDoor.H
open Go Go.RowKit Go.Proofs.YtbcjhmeeonhmaaaGreatDoorW.PrintWords Go.Proofs.YtbcjhmeeonhmaaaGreatDoorW.PrintMore Go.Proofs.YtbcjhmeeonhmaaaGreatDoor.M
attribute [local go_sem] Oper.semAt_some

theorem parts_mk (X : Nat) (w : World) : Calls Tryz.prog 24 #[.pointer (some ⟨X, 0, none⟩)] w fun e w' =>
    e = .returned (.func (.func 46) #[] #[.pointer (some ⟨w.heap.size, 0, none⟩)]) ∧ w.alloc (.cells #[.pointer (some ⟨X, 0, none⟩)] 36) = w' := by
  have hmf : ∀ (fn : Fn) (first cap : Array Value) (w : World), (Instr.makeFunc fn first cap).run Tryz.prog w = .ok (.func fn first cap) w := fun _ _ _ _ => rfl
  go_enter Tryz.func24, Tryz.ntmps24
  go_wp2
  go_ret
  exact ⟨rfl, rfl⟩
theorem IsWrt.row {B b : Nat} {bs : List Value} {n : Int} {w w' : World} {row : Option Nat} (h : IsWrt B b bs n w) (k : w.grownBy w' row) (hr : ∀ r, row = some r → r < B ∨ ∃ o : Obj, w.heap[r]? = some o ∧ o.isCells = false) : IsWrt B b bs n w' := by
  have one : ∀ {p : Value}, WrtAt B b p bs n w → WrtAt B b p bs n w' := by
    intro p ⟨hB, v, hb, hown, hne⟩
    have h1 : row ≠ some b := by
      intro e
      rcases hr b e with h | ⟨o, ho, hc⟩
      · omega
      · rw [hb] at ho; injection ho with ho; subst ho; cases hc
    have h2 : v.ownBlock = none ∨ v.ownBlock ≠ row := by
      rcases hown.2 with ⟨rfl, _⟩ | ⟨g, cap, cur, fz, rfl, hg1, hg2, _⟩
      · exact .inl rfl
      · right
        intro e
        simp only [Value.ownBlock] at e
        rcases hr g e.symm with h | ⟨o, ho, hc⟩
        · omega
        · rw [hg2] at ho; injection ho with ho; subst ho; cases hc
    exact ⟨hB, v, (k.block b (lt_of_heap hb) (fun e => h1 e.symm)).trans hb, hown.kept (row := row) k h2, hne⟩
  rcases h with h | h
  · exact .inl (one h)
  · exact .inr (one h)
def GetInv (s : ByteArray) (R : Nat) (w0 : World) (pre : List ByteArray) (W : World) : Prop :=
  IsWrt (R + 1) (R + 1) (Lib.strCells (catL pre)) (catL pre).size W ∧ Boxed W (R + 1 + 1) 43 (.pointer (some ⟨R + 1, 0, none⟩)) ∧ Boxed W (R + 1 + 1 + 1) 36 (.pointer (some ⟨R, 0, none⟩)) ∧ Below w0.heap.size w0 W ∧ R + 4 ≤ W.heap.size
theorem GetInv.row {s : ByteArray} {R : Nat} {w0 : World} (hR : w0.heap.size = R) {pre : List ByteArray} {W W' : World} {row : Option Nat} (h : GetInv s R w0 pre W) (k : W.grownBy W' row) (hr : ∀ r, row = some r → r = R ∨ (R + 4 ≤ r ∧ ∃ o : Obj, W.heap[r]? = some o ∧ o.isCells = false)) : GetInv s R w0 pre W' := by
  obtain ⟨h1, h2, h3, h4, h5⟩ := h
  have n1 : ∀ i, R < i → i < R + 4 → row ≠ some i := fun i a b e => by rcases hr i e with h | h <;> omega
  refine ⟨h1.row k (fun r e => ?_), (k.block _ (by omega) (fun e => n1 _ (by omega) (by omega) e.symm)).trans h2, (k.block _ (by omega) (fun e => n1 _ (by omega) (by omega) e.symm)).trans h3, h4.trans ⟨k.os, k.tape, k.output, k.size, fun i hi => k.block i (by have := h4.size; omega) (fun e => ?_)⟩, Nat.le_trans h5 k.size⟩
  · rcases hr r e with h | h
    · left; omega
    · exact .inr h.2
  · rcases hr i e.symm with h | h <;> omega
def GetPost (s : ByteArray) (w : World) (e : Ending) (w' : World) : Prop := e = .returned (.tuple #[.string (egS s).1, .int .i64 (egS s).2.1, .int .i64 (egS s).2.2]) ∧ Below w.heap.size w w'
set_option maxHeartbeats 4000000 in
theorem eGet (s : ByteArray) (w : World) (hG : GW w) (hs : s.size ≤ 1073741824) : Calls Tryz.prog 11 #[.string s] w (GetPost s w) := by
  have HS := Lib.hid hs
  refine (callsIn_wide (n := 0)).1 ?_
  refine callsIn_of_wp_marks Tryz.func11 rfl trivial ?_ rfl
  simp only [Tryz.ntmps11, List.size_toArray, List.length_cons, List.length_nil, Nat.reduceAdd, Nat.reduceSub, Array.replicate_succ, Array.replicate_zero, List.push_toArray, List.append_toArray, List.nil_append, List.cons_append]
  gi_wp2_with (refine ⟨trivial, rfl, ?_⟩; gi_at_call 24; refine callsIn_wide.2 ((parts_mk _ _).mono ?_); rintro e w' ⟨rfl, rfl⟩)
  obtain ⟨W0, hW0⟩ : ∃ W0, (((w.alloc (.cells #[.string s, .int .i64 s.size, .nilIface] 42)).alloc (.cells #[.pointer none, .slice none 0 0, .int .i64 0] 54)).alloc (.cells #[.pointer (some ⟨w.heap.size + 1, 0, none⟩)] 43)).alloc (.cells #[.pointer (some ⟨w.heap.size, 0, none⟩)] 36) = W0 := ⟨_, rfl⟩
  rw [hW0]
  have hz : W0.heap.size = w.heap.size + 4 := by rw [← hW0]; simp
  have hB0 : Below w.heap.size w W0 := by rw [← hW0]; exact ((((Below.refl _ w).alloc (Nat.le_refl _) _).alloc (by simp) _).alloc (by simp; omega) _).alloc (by simp; omega) _
  have hRd : RdE w.heap.size s s.size .nilIface W0 := by rw [← hW0]; exact heap_old (heap_old (heap_old (heap_new _ _) _) _) _
  have hWr : W0.heap[w.heap.size + 1]? = some (.cells #[.pointer none, .slice none 0 0, .int .i64 0] 54) := by
    rw [← hW0]; have := heap_new (w.alloc (.cells #[.string s, .int .i64 s.size, .nilIface] 42)) (.cells #[.pointer none, .slice none 0 0, .int .i64 0] 54); rw [World.size_alloc] at this; exact heap_old (heap_old this _) _
  have hbV : Boxed W0 (w.heap.size + 1 + 1) 43 (.pointer (some ⟨w.heap.size + 1, 0, none⟩)) := by
    rw [← hW0]; have := heap_new ((w.alloc (.cells #[.string s, .int .i64 s.size, .nilIface] 42)).alloc (.cells #[.pointer none, .slice none 0 0, .int .i64 0] 54)) (.cells #[.pointer (some ⟨w.heap.size + 1, 0, none⟩)] 43); rw [World.size_alloc, World.size_alloc] at this; exact heap_old this _
  have hbB : Boxed W0 (w.heap.size + 1 + 1 + 1) 36 (.pointer (some ⟨w.heap.size, 0, none⟩)) := by
    rw [← hW0]; have := heap_new (((w.alloc (.cells #[.string s, .int .i64 s.size, .nilIface] 42)).alloc (.cells #[.pointer none, .slice none 0 0, .int .i64 0] 54)).alloc (.cells #[.pointer (some ⟨w.heap.size + 1, 0, none⟩)] 43)) (.cells #[.pointer (some ⟨w.heap.size, 0, none⟩)] 36); rw [World.size_alloc, World.size_alloc, World.size_alloc] at this; exact this
  have hI0 : GetInv s w.heap.size w [] W0 := ⟨.inl ⟨Nat.le_refl _, _, hWr, ⟨rfl, .inl ⟨rfl, rfl⟩⟩, by simp [Value.ownBlock]⟩, hbV, hbB, hB0, by omega⟩
  clear hW0 hs
  refine wp_rangeFunc_iterG (gf := 46) (lb := #[.pointer (some ⟨w.heap.size + 1 + 1 + 1, 0, none⟩)]) rfl (enters_of Tryz.func46 (by kernel_rfl) rfl)
    (parts_iter w hG w.heap.size (w.heap.size + 1 + 1 + 1) (Nat.le_refl _) s HS.out)
    (fun A B h k o hk h1 h2 h3 => (h.block k (lt_of_heap h1) (by intro e; injection e; omega)).trans h1)
    (fun W h => ⟨celB (h.mono (Nat.le_refl _)) hbB.cell, hRd.below h, hB0.trans (h.mono (by omega)), by omega⟩)
    (fun h k => ⟨k.1.trans h.1, k.2.1.trans h.2.1, fun b => k.2.2 (h.2.2 b)⟩)
    (fun W l o o' hl h h1 h2 => ⟨World.putObj_heap_other (by omega), World.putObj_heap_other (by omega), fun b => b.trans ⟨rfl, rfl, rfl, by rw [World.putObj_size]; exact Nat.le_refl _, fun i hi => World.putObj_heap_other (by have := b.size; omega)⟩⟩) (fun _ => rfl)
    (fun pre W => GetInv s w.heap.size w pre W) (fun _ _ _ => False) ?hI (fun _ _ _ _ _ hs _ _ => hs) ?hIs (fun _ _ _ _ h _ => h) ?hY ?hS ?hSp hI0
    (fun x => { tmps := #[.string s, undef, .string ⟨#[]⟩, .int .i64 0, .int .i64 0, .pointer (some ⟨w.heap.size, 0, none⟩), .pointer (some ⟨w.heap.size + 1 + 1, 0, none⟩), .string x, undef, undef, .string s, .agg #[.string s], .string s, .int .i64 s.size, .agg #[.string s, .int .i64 s.size, .nilIface], .pointer (some ⟨w.heap.size, 0, none⟩), .agg #[.pointer none, .slice none 0 0, .int .i64 0], .pointer (some ⟨w.heap.size + 1, 0, none⟩), .pointer (some ⟨w.heap.size, 0, none⟩), .func (.func 46) #[] #[.pointer (some ⟨w.heap.size + 1 + 1 + 1, 0, none⟩)], .string x, undef, undef, undef, undef, undef, undef, undef, undef, undef, undef, undef, undef, undef, undef, undef, undef, undef, undef, undef, undef, undef, undef, undef], defers := [] })
    ?assign ?body ?done ?stop
  case hI =>
    intro pre A B row h hg hrow
    exact h.row rfl hg (fun r e => .inr ⟨by have := (hrow r e).1; omega, (hrow r e).2⟩)
  case hIs =>
    intro pre A B h hst
    exact h.row rfl hst (fun r e => .inl (by injection e with e; exact e.symm))
  case hY => intro x; exact ownFrom_pure _ _
  case hS =>
    rintro xs A B row ⟨t, h1, h2⟩ hg hrow
    have hk : ∀ {t' : ByteArray} {ev : Value}, RdE w.heap.size t' s.size ev A → RdE w.heap.size t' s.size ev B := fun h => h.same (hg.block _ (lt_of_heap h) (fun e => by have := (hrow _ e.symm).1; omega))
    exact ⟨t, h1, h2.elim (fun ⟨a, b⟩ => .inl ⟨a, hk b⟩) (fun ⟨a, y, b, c⟩ => .inr ⟨a, y, b, hk c⟩)⟩
  case hSp => exact ownFrom_pure _ _
  case assign =>
    intro l x W K hK
    unfold encP
    gi_wp2
    exact hK
  case stop =>
    rintro D c pre W _ _ h _
    exact h.elim
  case body =>
    rintro l pre x W ⟨hW, hV, hBx, hB, hz'⟩ ⟨t, hP⟩
    have hsz := hP.size
    rw [catL_snoc, ByteArray.size_append, List.length_append, List.length_singleton] at hsz
    have hss := HS.out
    have hc := hV.cell
    obtain ⟨W1, hW1⟩ : ∃ W1, W.alloc (.cells #[.string x] 9) = W1 := ⟨_, rfl⟩
    have hb1 : Below W.heap.size W W1 := by rw [← hW1]; exact below_one _ _
    have c1 : W1.cell? ⟨W.heap.size, 0, none⟩ = some (.string x) := by rw [← hW1]; exact cel_new W _ _ 0 rfl
    have hW' := hW.below hb1
    obtain ⟨p5, v5, hh5⟩ := hW'.heap
    have HWr := Lib.hid (write1 (w.heap.size + 1) (w.heap.size + 1) W.heap.size 1 _ _ x W1 hW' c1 (by rw [Lib.strCells_length]; omega) (by omega) (by have := hb1.size; omega))
    have hc1 := celB hb1 hc
    gi_wp2_with fail
    refine ⟨trivial, rfl, CallsIn.inRound l (callsIn_wide.2 (HWr.out.mono ?_))⟩
    rintro e w6 ⟨rfl, hw6, hb6, hk6⟩
    have keep : ∀ (i : Nat) (o : Obj), W.heap[i]? = some o → i ≠ w.heap.size + 1 → (∀ c fz, o ≠ .cells c 5 fz) → w6.heap[i]? = some o := fun i o h1 h2 h3 => hk6 i o (heapB hb1 (lt_of_heap h1) h1) (by intro e; injection e; omega) h3
    have hB6 : Below w.heap.size w w6 := (hB.trans (hb1.mono hB.size)).trans (hb6.mono (by omega))
    have HE : Hid (iterPost W0.heap.size (PKeep w w.heap.size (w.heap.size + 1 + 1 + 1)) (fun pre W => GetInv s w.heap.size w pre W) (fun _ _ _ => False) (pre ++ [x]) W .normal { tmps := #[], defers := [] } w6) := by
      refine Lib.hid ⟨⟨Nat.le_trans hb1.size hb6.size, fun k o hk ho hc => keep k o ho (by omega) (by intro c fz e; rw [e] at hc; cases hc)⟩, ⟨?_, ?_, fun _ => hB6⟩, ?_⟩
      · exact (hb6.block _ (by omega)).trans (hb1.block _ (by omega))
      · exact (keep _ _ hBx (by omega) (fun c fz e => by injection e with _ e _; cases e)).trans hBx.symm
      · refine ⟨.inr ?_, keep _ _ hV (by omega) (fun c fz e => by injection e with _ e _; cases e), keep _ _ hBx (by omega) (fun c fz e => by injection e with _ e _; cases e), hB6, by have := hb1.size; have := hb6.size; omega⟩
        rw [catL_snoc, strCells_app, ByteArray.size_append]
        have : (((catL pre).size + x.size : Nat) : Int) = ((catL pre).size : Int) + (x.size : Int) := by omega
        rw [this]
        exact hw6
    clear hW' hW hb6 hk6 hw6 hb1 hh5 keep
    gi_wp2
    exact HE.out
  case done =>
    rintro D xs W hD ⟨t, hE, hend⟩ ⟨hW, hV, hBx, hB, hz'⟩ hK
    have hc := hV.cell
    have hlt : D < W.heap.size := lt_of_heap hK
    rcases hend with ⟨ht, hR⟩ | ⟨h0, why, hr, hR⟩
    · have HGS := Lib.hid (egS_done hE ht)
      have c2 := hR.c2
      have HT := Lib.hid (wTextK (w.heap.size + 1) (w.heap.size + 1) (catL xs).data.toList _ W hW (by omega))
      obtain ⟨p, v, hh⟩ := hW.heap
      clear ht hE hW
      gi_wp2_with fail
      refine ⟨trivial, rfl, callsIn_wide.2 (HT.out.mono ?_)⟩
      rintro _ W2 ⟨rfl, hb2, hk2⟩
      have hK2 := hk2 D _ hK (by simp) (fun c fz e => by cases e)
      gi_wp2
      refine ⟨by simp, .inl ⟨_, _, rfl, run_takeDeferred hK2, ?_⟩⟩
      refine ⟨_, results_tmp3 rfl _ _ _, ?_⟩
      refine ⟨by rw [HGS.out]; rfl, ?_⟩
      exact (hB.trans (hb2.mono (by omega))).trans (belowK_b (w := w) (Nat.le_refl _) W2 D _ _ (by omega) hK2 rfl rfl)
    · have HGS := Lib.hid (egS_bad hE h0 hr)
      obtain ⟨n, hn⟩ : ∃ n, (s.size : Int) - t.size = n := ⟨_, rfl⟩
      rw [hn] at HGS hR
      have c2 := hR.c2
      have HT := Lib.hid (eTold why n W (hG.below hB))
      unfold wrongV at c2 HT
      clear h0 hr hE hn hW
      gi_wp2_with fail
      refine ⟨trivial, rfl, callsIn_wide.2 (HT.out.mono ?_)⟩
      rintro _ W2 ⟨rfl, hb2⟩
      have hK2 := heapB hb2 (lt_of_heap hK) hK
      gi_wp2
      refine ⟨by simp, .inl ⟨_, _, rfl, run_takeDeferred hK2, ?_⟩⟩
      refine ⟨_, results_tmp3 rfl _ _ _, ?_⟩
      refine ⟨by rw [HGS.out]; rfl, ?_⟩
      exact (hB.trans (hb2.mono hB.size)).trans (belowK_b (w := w) (Nat.le_refl _) W2 D _ _ (by omega) hK2 rfl rfl)
end Go.Proofs.YtbcjhmeeonhmaaaGreatDoor.H
end

/-
The premise on package-level variables, under the name that the printed texts use (seat ZD: with bytealg.MaxLen's cell).
-/
section
namespace Go.Proofs.YtbcjhmeeonhmaaaGreatDoor.M
open Go Go.RowKit
def GW (w : World) : Prop := H.GW w ∧ ∃ m, w.cell? ⟨1, 0, none⟩ = some (.int .i64 m)
theorem GW.g {w : World} (h : GW w) : H.GW w := h.1
theorem GW.below {w w1 : World} (g : GW w) (h : Below w.heap.size w w1) : GW w1 := ⟨H.GW.below g.1 h, g.2.elim fun m hm => ⟨m, H.celB h hm⟩⟩
end Go.Proofs.YtbcjhmeeonhmaaaGreatDoor.M
end

-- Laid by a program of this session for this claim.
section
namespace Go.Proofs.YtbcjhmeeonhmaaaGreatDoor.M
open Go.RowKit Go.Proofs.YtbcjhmeeonhmaaaGreatDoorW.PrintWords Go.Proofs.YtbcjhmeeonhmaaaGreatDoorW.PrintLast Go.Proofs.YtbcjhmeeonhmaaaGreatDoorW.PrintMore
attribute [local go_sem] max2_int min2_int max_two min_two max_three min_three max_four min_four   -- for this text's walks alone
set_option linter.unusedVariables false
set_option linter.unusedSimpArgs false

/-! ### escape_Get: function 11 -/
-- IMPORT Derived.Test.YtbcjhmeeonhmaaaGreatDoorHEGet Derived.Test.YtbcjhmeeonhmaaaGreatDoorHGmZ
def escape_Get.f (a0 : ByteArray) : Option (ByteArray × Int × Int) := if a0.size ≤ 1073741824 then some (H.egS a0) else none
theorem escape_Get.calls (a0 : ByteArray) (r1 : ByteArray) (r2 : Int) (r3 : Int) (w : World) (hG : GW w) (h : escape_Get.f a0 = some (r1, r2, r3)) :
    Calls Tryz.prog 11 #[.string a0] w fun e w' => e = .returned (.tuple #[.string r1, .int .i64 r2, .int .i64 r3]) ∧ Below w.heap.size w w' := by
  unfold escape_Get.f at h
  by_cases hh : a0.size ≤ 1073741824
  · rw [if_pos hh] at h
    have := H.eGet a0 w (GW.g hG) hh
    unfold H.GetPost at this
    rw [Option.some.inj h] at this
    exact this
  · rw [if_neg hh] at h; cases h

end Go.Proofs.YtbcjhmeeonhmaaaGreatDoor.M
end

-- Laid by a program of this session for this claim.
section
namespace Go.Proofs.YtbcjhmeeonhmaaaGreatDoor.M
open Go.RowKit Go.Proofs.YtbcjhmeeonhmaaaGreatDoorW.PrintWords Go.Proofs.YtbcjhmeeonhmaaaGreatDoorW.PrintLast Go.Proofs.YtbcjhmeeonhmaaaGreatDoorW.PrintMore
attribute [local go_sem] max2_int min2_int max_two min_two max_three min_three max_four min_four   -- for this text's walks alone
set_option linter.unusedVariables false
set_option linter.unusedSimpArgs false

/-! ### escape_Put: function 16 -/
-- IMPORT Derived.Test.YtbcjhmeeonhmaaaGreatDoorHESize
def escape_Put.f (a0 : ByteArray) : Option (ByteArray × Int) := if a0.size ≤ 1073741824 then some (H.ePutS a0) else none
theorem escape_Put.calls (a0 : ByteArray) (r1 : ByteArray) (r2 : Int) (w : World) (h : escape_Put.f a0 = some (r1, r2)) :
    Calls Tryz.prog 16 #[.string a0] w fun e w' => e = .returned (.tuple #[.string r1, .int .i64 r2]) ∧ Below w.heap.size w w' := by
  unfold escape_Put.f at h
  by_cases hh : a0.size ≤ 1073741824
  · rw [if_pos hh] at h
    have := H.ePut a0 w hh
    rw [Option.some.inj h] at this
    exact this
  · rw [if_neg hh] at h; cases h

end Go.Proofs.YtbcjhmeeonhmaaaGreatDoor.M
end

-- Laid by a program of this session for this claim.
section
namespace Go.Proofs.YtbcjhmeeonhmaaaGreatDoor.M
open Go.RowKit Go.Proofs.YtbcjhmeeonhmaaaGreatDoorW.PrintWords Go.Proofs.YtbcjhmeeonhmaaaGreatDoorW.PrintLast Go.Proofs.YtbcjhmeeonhmaaaGreatDoorW.PrintMore
attribute [local go_sem] max2_int min2_int max_two min_two max_three min_three max_four min_four   -- for this text's walks alone
set_option linter.unusedVariables false
set_option linter.unusedSimpArgs false

/-! ### pleacherlaw04_shown: function 10 -/
def pleacherlaw04_shown.f  : Option (Bool) := (escape_Put.f (⟨#[97, 60, 34]⟩ : ByteArray)).bind fun bt101 => ((escape_Get.f (⟨#[38, 35, 120, 50, 48, 65, 67, 59, 38, 97, 112, 111, 115, 59]⟩ : ByteArray)).bind fun bt103 => ((escape_Get.f (⟨#[97, 98, 38, 120, 59]⟩ : ByteArray)).bind fun bt106 => (if bt101.1.toList = ([97, 38, 108, 116, 59, 38, 113, 117, 111, 116, 59] : List UInt8) then (if bt101.2 = 0 then (if bt103.1.toList = ([226, 130, 172, 39] : List UInt8) then (if bt103.2.1 = 0 then (if bt103.2.2 = 0 then (if bt106.2.1 = 2 then (some (bt106.2.2 == 40)) else (some false)) else (some false)) else (some false)) else (some false)) else (some false)) else (some false))))
set_option maxHeartbeats 8000000 in
set_option maxRecDepth 100000 in
theorem pleacherlaw04_shown.calls  (r : Bool) (w : World) (hG : GW w) (h : pleacherlaw04_shown.f  = some r) :
    Calls Tryz.prog 10 #[] w fun e w' => e = .returned (.bool r) ∧ Below w.heap.size w w' := by
  have HG := Aside0.mk hG
  clear hG
  have HB := Aside0.mk (Below.refl w.heap.size w)
  have H : ((escape_Put.f (⟨#[97, 60, 34]⟩ : ByteArray)).bind fun bt101 => ((escape_Get.f (⟨#[38, 35, 120, 50, 48, 65, 67, 59, 38, 97, 112, 111, 115, 59]⟩ : ByteArray)).bind fun bt103 => ((escape_Get.f (⟨#[97, 98, 38, 120, 59]⟩ : ByteArray)).bind fun bt106 => (if bt101.1.toList = ([97, 38, 108, 116, 59, 38, 113, 117, 111, 116, 59] : List UInt8) then (if bt101.2 = 0 then (if bt103.1.toList = ([226, 130, 172, 39] : List UInt8) then (if bt103.2.1 = 0 then (if bt103.2.2 = 0 then (if bt106.2.1 = 2 then (some (bt106.2.2 == 40)) else (some false)) else (some false)) else (some false)) else (some false)) else (some false)) else (some false))))) = some r := h
  clear h
  replace H := Option.bind_eq_some_iff.mp H
  obtain ⟨⟨t101, t102⟩, A10, H⟩ := H
  replace H : ((escape_Get.f (⟨#[38, 35, 120, 50, 48, 65, 67, 59, 38, 97, 112, 111, 115, 59]⟩ : ByteArray)).bind fun bt103 => ((escape_Get.f (⟨#[97, 98, 38, 120, 59]⟩ : ByteArray)).bind fun bt106 => (if t101.toList = ([97, 38, 108, 116, 59, 38, 113, 117, 111, 116, 59] : List UInt8) then (if t102 = 0 then (if bt103.1.toList = ([226, 130, 172, 39] : List UInt8) then (if bt103.2.1 = 0 then (if bt103.2.2 = 0 then (if bt106.2.1 = 2 then (some (bt106.2.2 == 40)) else (some false)) else (some false)) else (some false)) else (some false)) else (some false)) else (some false)))) = some r := H
  have A1 := Aside0.mk A10
  clear A10
  replace H := Option.bind_eq_some_iff.mp H
  obtain ⟨⟨t103, t104, t105⟩, A20, H⟩ := H
  replace H : ((escape_Get.f (⟨#[97, 98, 38, 120, 59]⟩ : ByteArray)).bind fun bt106 => (if t101.toList = ([97, 38, 108, 116, 59, 38, 113, 117, 111, 116, 59] : List UInt8) then (if t102 = 0 then (if t103.toList = ([226, 130, 172, 39] : List UInt8) then (if t104 = 0 then (if t105 = 0 then (if bt106.2.1 = 2 then (some (bt106.2.2 == 40)) else (some false)) else (some false)) else (some false)) else (some false)) else (some false)) else (some false))) = some r := H
  have A2 := Aside0.mk A20
  clear A20
  replace H := Option.bind_eq_some_iff.mp H
  obtain ⟨⟨t106, t107, t108⟩, A30, H⟩ := H
  replace H : (if t101.toList = ([97, 38, 108, 116, 59, 38, 113, 117, 111, 116, 59] : List UInt8) then (if t102 = 0 then (if t103.toList = ([226, 130, 172, 39] : List UInt8) then (if t104 = 0 then (if t105 = 0 then (if t107 = 2 then (some (t108 == 40)) else (some false)) else (some false)) else (some false)) else (some false)) else (some false)) else (some false)) = some r := H
  have A3 := Aside0.mk A30
  clear A30
  by_cases c4 : t101.toList = ([97, 38, 108, 116, 59, 38, 113, 117, 111, 116, 59] : List UInt8)
  · rw [if_pos c4] at H
    have c4b0 : (t101.toList == ([97, 38, 108, 116, 59, 38, 113, 117, 111, 116, 59] : List UInt8)) = true := beq_iff_eq.mpr c4
    have c4b1 : (t101.toList != ([97, 38, 108, 116, 59, 38, 113, 117, 111, 116, 59] : List UInt8)) = false := bne_eq_false_iff_eq.mpr c4
    clear c4
    by_cases c5 : t102 = 0
    · rw [if_pos c5] at H
      have c5b0 : (t102 == 0) = true := beq_iff_eq.mpr c5
      have c5b1 : (t102 != 0) = false := bne_eq_false_iff_eq.mpr c5
      clear c5
      by_cases c6 : t103.toList = ([226, 130, 172, 39] : List UInt8)
      · rw [if_pos c6] at H
        have c6b0 : (t103.toList == ([226, 130, 172, 39] : List UInt8)) = true := beq_iff_eq.mpr c6
        have c6b1 : (t103.toList != ([226, 130, 172, 39] : List UInt8)) = false := bne_eq_false_iff_eq.mpr c6
        clear c6
        by_cases c7 : t104 = 0
        · rw [if_pos c7] at H
          have c7b0 : (t104 == 0) = true := beq_iff_eq.mpr c7
          have c7b1 : (t104 != 0) = false := bne_eq_false_iff_eq.mpr c7
          clear c7
          by_cases c8 : t105 = 0
          · rw [if_pos c8] at H
            have c8b0 : (t105 == 0) = true := beq_iff_eq.mpr c8
            have c8b1 : (t105 != 0) = false := bne_eq_false_iff_eq.mpr c8
            clear c8
            by_cases c9 : t107 = 2
            · rw [if_pos c9] at H
              have c9b0 : (t107 == 2) = true := beq_iff_eq.mpr c9
              have c9b1 : (t107 != 2) = false := bne_eq_false_iff_eq.mpr c9
              clear c9
              obtain rfl := Option.some.inj H
              go_enter Tryz.func10, Tryz.ntmps10
              go_wp2_with (first | ((with_reducible refine gate_callee (f := 16) rfl ?_); refine goesL_ (some 10) rfl rfl Tryz.func16 (by kernel_rfl) rfl #[.string (⟨#[97, 60, 34]⟩ : ByteArray)] rfl (by (try simp only [List.map_toArray, List.map_cons, List.map_nil]); first | done | rfl | (simp only [List.length_drop, List.length_take]; rfl)) ?_; (with_reducible refine (escape_Put.calls (⟨#[97, 60, 34]⟩ : ByteArray) t101 t102 _ A1.out).mono ?_); rintro e w10 ⟨rfl, hb⟩; refine ⟨_, rfl, ?_⟩; have n0_ := Aside0.mk (below_step (by repeat (first | (with_reducible first | exact HB.out | apply below_alloc | apply pw_below_drewN | apply below_drew1) | exact HB.out)) hb); clear HB; have HB := n0_; clear n0_; (try clear hb); (try clear hb2); (try clear hk); (try clear hi)) | ((with_reducible refine gate_callee (f := 11) rfl ?_); refine goesL_ (some 14) rfl rfl Tryz.func11 (by kernel_rfl) rfl #[.string (⟨#[38, 35, 120, 50, 48, 65, 67, 59, 38, 97, 112, 111, 115, 59]⟩ : ByteArray)] rfl (by (try simp only [List.map_toArray, List.map_cons, List.map_nil]); first | done | rfl | (simp only [List.length_drop, List.length_take]; rfl)) ?_; (with_reducible refine (escape_Get.calls (⟨#[38, 35, 120, 50, 48, 65, 67, 59, 38, 97, 112, 111, 115, 59]⟩ : ByteArray) t103 t104 t105 _ ?side1 A2.out).mono ?_); (case side1 => exact GW.below HG.out (by repeat (first | (with_reducible first | exact HB.out | apply below_alloc | apply pw_below_drewN | apply below_drew1) | exact HB.out))); rintro e w11 ⟨rfl, hb⟩; refine ⟨_, rfl, ?_⟩; have n0_ := Aside0.mk (below_step (by repeat (first | (with_reducible first | exact HB.out | apply below_alloc | apply pw_below_drewN | apply below_drew1) | exact HB.out)) hb); clear HB; have HB := n0_; clear n0_; (try clear hb); (try clear hb2); (try clear hk); (try clear hi)) | ((with_reducible refine gate_callee (f := 11) rfl ?_); refine goesL_ (some 19) rfl rfl Tryz.func11 (by kernel_rfl) rfl #[.string (⟨#[97, 98, 38, 120, 59]⟩ : ByteArray)] rfl (by (try simp only [List.map_toArray, List.map_cons, List.map_nil]); first | done | rfl | (simp only [List.length_drop, List.length_take]; rfl)) ?_; (with_reducible refine (escape_Get.calls (⟨#[97, 98, 38, 120, 59]⟩ : ByteArray) t106 t107 t108 _ ?side1 A3.out).mono ?_); (case side1 => exact GW.below HG.out (by repeat (first | (with_reducible first | exact HB.out | apply below_alloc | apply pw_below_drewN | apply below_drew1) | exact HB.out))); rintro e w12 ⟨rfl, hb⟩; refine ⟨_, rfl, ?_⟩; have n0_ := Aside0.mk (below_step (by repeat (first | (with_reducible first | exact HB.out | apply below_alloc | apply pw_below_drewN | apply below_drew1) | exact HB.out)) hb); clear HB; have HB := n0_; clear n0_; (try clear hb); (try clear hb2); (try clear hk); (try clear hi)))
              go_ret
              exact ⟨by first | rfl | (simp [errW_none, errW_some] <;> rfl) | (simp [*, errW_none, errW_some] <;> rfl), by repeat (first | (with_reducible first | exact HB.out | apply below_alloc | apply pw_below_drewN | apply below_drew1) | exact HB.out)⟩
            · rw [if_neg c9] at H
              have c9b0 : (t107 == 2) = false := beq_eq_false_iff_ne.mpr c9
              have c9b1 : (t107 != 2) = true := bne_iff_ne.mpr c9
              obtain rfl := Option.some.inj H
              go_enter Tryz.func10, Tryz.ntmps10
              go_wp2_with (first | ((with_reducible refine gate_callee (f := 16) rfl ?_); refine goesL_ (some 10) rfl rfl Tryz.func16 (by kernel_rfl) rfl #[.string (⟨#[97, 60, 34]⟩ : ByteArray)] rfl (by (try simp only [List.map_toArray, List.map_cons, List.map_nil]); first | done | rfl | (simp only [List.length_drop, List.length_take]; rfl)) ?_; (with_reducible refine (escape_Put.calls (⟨#[97, 60, 34]⟩ : ByteArray) t101 t102 _ A1.out).mono ?_); rintro e w13 ⟨rfl, hb⟩; refine ⟨_, rfl, ?_⟩; have n0_ := Aside0.mk (below_step (by repeat (first | (with_reducible first | exact HB.out | apply below_alloc | apply pw_below_drewN | apply below_drew1) | exact HB.out)) hb); clear HB; have HB := n0_; clear n0_; (try clear hb); (try clear hb2); (try clear hk); (try clear hi)) | ((with_reducible refine gate_callee (f := 11) rfl ?_); refine goesL_ (some 14) rfl rfl Tryz.func11 (by kernel_rfl) rfl #[.string (⟨#[38, 35, 120, 50, 48, 65, 67, 59, 38, 97, 112, 111, 115, 59]⟩ : ByteArray)] rfl (by (try simp only [List.map_toArray, List.map_cons, List.map_nil]); first | done | rfl | (simp only [List.length_drop, List.length_take]; rfl)) ?_; (with_reducible refine (escape_Get.calls (⟨#[38, 35, 120, 50, 48, 65, 67, 59, 38, 97, 112, 111, 115, 59]⟩ : ByteArray) t103 t104 t105 _ ?side1 A2.out).mono ?_); (case side1 => exact GW.below HG.out (by repeat (first | (with_reducible first | exact HB.out | apply below_alloc | apply pw_below_drewN | apply below_drew1) | exact HB.out))); rintro e w14 ⟨rfl, hb⟩; refine ⟨_, rfl, ?_⟩; have n0_ := Aside0.mk (below_step (by repeat (first | (with_reducible first | exact HB.out | apply below_alloc | apply pw_below_drewN | apply below_drew1) | exact HB.out)) hb); clear HB; have HB := n0_; clear n0_; (try clear hb); (try clear hb2); (try clear hk); (try clear hi)) | ((with_reducible refine gate_callee (f := 11) rfl ?_); refine goesL_ (some 19) rfl rfl Tryz.func11 (by kernel_rfl) rfl #[.string (⟨#[97, 98, 38, 120, 59]⟩ : ByteArray)] rfl (by (try simp only [List.map_toArray, List.map_cons, List.map_nil]); first | done | rfl | (simp only [List.length_drop, List.length_take]; rfl)) ?_; (with_reducible refine (escape_Get.calls (⟨#[97, 98, 38, 120, 59]⟩ : ByteArray) t106 t107 t108 _ ?side1 A3.out).mono ?_); (case side1 => exact GW.below HG.out (by repeat (first | (with_reducible first | exact HB.out | apply below_alloc | apply pw_below_drewN | apply below_drew1) | exact HB.out))); rintro e w15 ⟨rfl, hb⟩; refine ⟨_, rfl, ?_⟩; have n0_ := Aside0.mk (below_step (by repeat (first | (with_reducible first | exact HB.out | apply below_alloc | apply pw_below_drewN | apply below_drew1) | exact HB.out)) hb); clear HB; have HB := n0_; clear n0_; (try clear hb); (try clear hb2); (try clear hk); (try clear hi)))
              go_ret
              exact ⟨by first | rfl | (simp [errW_none, errW_some] <;> rfl) | (simp [*, errW_none, errW_some] <;> rfl), by repeat (first | (with_reducible first | exact HB.out | apply below_alloc | apply pw_below_drewN | apply below_drew1) | exact HB.out)⟩
          · rw [if_neg c8] at H
            have c8b0 : (t105 == 0) = false := beq_eq_false_iff_ne.mpr c8
            have c8b1 : (t105 != 0) = true := bne_iff_ne.mpr c8
            obtain rfl := Option.some.inj H
            go_enter Tryz.func10, Tryz.ntmps10
            go_wp2_with (first | ((with_reducible refine gate_callee (f := 16) rfl ?_); refine goesL_ (some 10) rfl rfl Tryz.func16 (by kernel_rfl) rfl #[.string (⟨#[97, 60, 34]⟩ : ByteArray)] rfl (by (try simp only [List.map_toArray, List.map_cons, List.map_nil]); first | done | rfl | (simp only [List.length_drop, List.length_take]; rfl)) ?_; (with_reducible refine (escape_Put.calls (⟨#[97, 60, 34]⟩ : ByteArray) t101 t102 _ A1.out).mono ?_); rintro e w16 ⟨rfl, hb⟩; refine ⟨_, rfl, ?_⟩; have n0_ := Aside0.mk (below_step (by repeat (first | (with_reducible first | exact HB.out | apply below_alloc | apply pw_below_drewN | apply below_drew1) | exact HB.out)) hb); clear HB; have HB := n0_; clear n0_; (try clear hb); (try clear hb2); (try clear hk); (try clear hi)) | ((with_reducible refine gate_callee (f := 11) rfl ?_); refine goesL_ (some 14) rfl rfl Tryz.func11 (by kernel_rfl) rfl #[.string (⟨#[38, 35, 120, 50, 48, 65, 67, 59, 38, 97, 112, 111, 115, 59]⟩ : ByteArray)] rfl (by (try simp only [List.map_toArray, List.map_cons, List.map_nil]); first | done | rfl | (simp only [List.length_drop, List.length_take]; rfl)) ?_; (with_reducible refine (escape_Get.calls (⟨#[38, 35, 120, 50, 48, 65, 67, 59, 38, 97, 112, 111, 115, 59]⟩ : ByteArray) t103 t104 t105 _ ?side1 A2.out).mono ?_); (case side1 => exact GW.below HG.out (by repeat (first | (with_reducible first | exact HB.out | apply below_alloc | apply pw_below_drewN | apply below_drew1) | exact HB.out))); rintro e w17 ⟨rfl, hb⟩; refine ⟨_, rfl, ?_⟩; have n0_ := Aside0.mk (below_step (by repeat (first | (with_reducible first | exact HB.out | apply below_alloc | apply pw_below_drewN | apply below_drew1) | exact HB.out)) hb); clear HB; have HB := n0_; clear n0_; (try clear hb); (try clear hb2); (try clear hk); (try clear hi)) | ((with_reducible refine gate_callee (f := 11) rfl ?_); refine goesL_ (some 19) rfl rfl Tryz.func11 (by kernel_rfl) rfl #[.string (⟨#[97, 98, 38, 120, 59]⟩ : ByteArray)] rfl (by (try simp only [List.map_toArray, List.map_cons, List.map_nil]); first | done | rfl | (simp only [List.length_drop, List.length_take]; rfl)) ?_; (with_reducible refine (escape_Get.calls (⟨#[97, 98, 38, 120, 59]⟩ : ByteArray) t106 t107 t108 _ ?side1 A3.out).mono ?_); (case side1 => exact GW.below HG.out (by repeat (first | (with_reducible first | exact HB.out | apply below_alloc | apply pw_below_drewN | apply below_drew1) | exact HB.out))); rintro e w18 ⟨rfl, hb⟩; refine ⟨_, rfl, ?_⟩; have n0_ := Aside0.mk (below_step (by repeat (first | (with_reducible first | exact HB.out | apply below_alloc | apply pw_below_drewN | apply below_drew1) | exact HB.out)) hb); clear HB; have HB := n0_; clear n0_; (try clear hb); (try clear hb2); (try clear hk); (try clear hi)))
            go_ret
            exact ⟨by first | rfl | (simp [errW_none, errW_some] <;> rfl) | (simp [*, errW_none, errW_some] <;> rfl), by repeat (first | (with_reducible first | exact HB.out | apply below_alloc | apply pw_below_drewN | apply below_drew1) | exact HB.out)⟩
        · rw [if_neg c7] at H
          have c7b0 : (t104 == 0) = false := beq_eq_false_iff_ne.mpr c7
          have c7b1 : (t104 != 0) = true := bne_iff_ne.mpr c7
          obtain rfl := Option.some.inj H
          go_enter Tryz.func10, Tryz.ntmps10
          go_wp2_with (first | ((with_reducible refine gate_callee (f := 16) rfl ?_); refine goesL_ (some 10) rfl rfl Tryz.func16 (by kernel_rfl) rfl #[.string (⟨#[97, 60, 34]⟩ : ByteArray)] rfl (by (try simp only [List.map_toArray, List.map_cons, List.map_nil]); first | done | rfl | (simp only [List.length_drop, List.length_take]; rfl)) ?_; (with_reducible refine (escape_Put.calls (⟨#[97, 60, 34]⟩ : ByteArray) t101 t102 _ A1.out).mono ?_); rintro e w19 ⟨rfl, hb⟩; refine ⟨_, rfl, ?_⟩; have n0_ := Aside0.mk (below_step (by repeat (first | (with_reducible first | exact HB.out | apply below_alloc | apply pw_below_drewN | apply below_drew1) | exact HB.out)) hb); clear HB; have HB := n0_; clear n0_; (try clear hb); (try clear hb2); (try clear hk); (try clear hi)) | ((with_reducible refine gate_callee (f := 11) rfl ?_); refine goesL_ (some 14) rfl rfl Tryz.func11 (by kernel_rfl) rfl #[.string (⟨#[38, 35, 120, 50, 48, 65, 67, 59, 38, 97, 112, 111, 115, 59]⟩ : ByteArray)] rfl (by (try simp only [List.map_toArray, List.map_cons, List.map_nil]); first | done | rfl | (simp only [List.length_drop, List.length_take]; rfl)) ?_; (with_reducible refine (escape_Get.calls (⟨#[38, 35, 120, 50, 48, 65, 67, 59, 38, 97, 112, 111, 115, 59]⟩ : ByteArray) t103 t104 t105 _ ?side1 A2.out).mono ?_); (case side1 => exact GW.below HG.out (by repeat (first | (with_reducible first | exact HB.out | apply below_alloc | apply pw_below_drewN | apply below_drew1) | exact HB.out))); rintro e w20 ⟨rfl, hb⟩; refine ⟨_, rfl, ?_⟩; have n0_ := Aside0.mk (below_step (by repeat (first | (with_reducible first | exact HB.out | apply below_alloc | apply pw_below_drewN | apply below_drew1) | exact HB.out)) hb); clear HB; have HB := n0_; clear n0_; (try clear hb); (try clear hb2); (try clear hk); (try clear hi)) | ((with_reducible refine gate_callee (f := 11) rfl ?_); refine goesL_ (some 19) rfl rfl Tryz.func11 (by kernel_rfl) rfl #[.string (⟨#[97, 98, 38, 120, 59]⟩ : ByteArray)] rfl (by (try simp only [List.map_toArray, List.map_cons, List.map_nil]); first | done | rfl | (simp only [List.length_drop, List.length_take]; rfl)) ?_; (with_reducible refine (escape_Get.calls (⟨#[97, 98, 38, 120, 59]⟩ : ByteArray) t106 t107 t108 _ ?side1 A3.out).mono ?_); (case side1 => exact GW.below HG.out (by repeat (first | (with_reducible first | exact HB.out | apply below_alloc | apply pw_below_drewN | apply below_drew1) | exact HB.out))); rintro e w21 ⟨rfl, hb⟩; refine ⟨_, rfl, ?_⟩; have n0_ := Aside0.mk (below_step (by repeat (first | (with_reducible first | exact HB.out | apply below_alloc | apply pw_below_drewN | apply below_drew1) | exact HB.out)) hb); clear HB; have HB := n0_; clear n0_; (try clear hb); (try clear hb2); (try clear hk); (try clear hi)))
          go_ret
          exact ⟨by first | rfl | (simp [errW_none, errW_some] <;> rfl) | (simp [*, errW_none, errW_some] <;> rfl), by repeat (first | (with_reducible first | exact HB.out | apply below_alloc | apply pw_below_drewN | apply below_drew1) | exact HB.out)⟩
      · rw [if_neg c6] at H
        have c6b0 : (t103.toList == ([226, 130, 172, 39] : List UInt8)) = false := beq_eq_false_iff_ne.mpr c6
        have c6b1 : (t103.toList != ([226, 130, 172, 39] : List UInt8)) = true := bne_iff_ne.mpr c6
        obtain rfl := Option.some.inj H
        go_enter Tryz.func10, Tryz.ntmps10
        go_wp2_with (first | ((with_reducible refine gate_callee (f := 16) rfl ?_); refine goesL_ (some 10) rfl rfl Tryz.func16 (by kernel_rfl) rfl #[.string (⟨#[97, 60, 34]⟩ : ByteArray)] rfl (by (try simp only [List.map_toArray, List.map_cons, List.map_nil]); first | done | rfl | (simp only [List.length_drop, List.length_take]; rfl)) ?_; (with_reducible refine (escape_Put.calls (⟨#[97, 60, 34]⟩ : ByteArray) t101 t102 _ A1.out).mono ?_); rintro e w22 ⟨rfl, hb⟩; refine ⟨_, rfl, ?_⟩; have n0_ := Aside0.mk (below_step (by repeat (first | (with_reducible first | exact HB.out | apply below_alloc | apply pw_below_drewN | apply below_drew1) | exact HB.out)) hb); clear HB; have HB := n0_; clear n0_; (try clear hb); (try clear hb2); (try clear hk); (try clear hi)) | ((with_reducible refine gate_callee (f := 11) rfl ?_); refine goesL_ (some 14) rfl rfl Tryz.func11 (by kernel_rfl) rfl #[.string (⟨#[38, 35, 120, 50, 48, 65, 67, 59, 38, 97, 112, 111, 115, 59]⟩ : ByteArray)] rfl (by (try simp only [List.map_toArray, List.map_cons, List.map_nil]); first | done | rfl | (simp only [List.length_drop, List.length_take]; rfl)) ?_; (with_reducible refine (escape_Get.calls (⟨#[38, 35, 120, 50, 48, 65, 67, 59, 38, 97, 112, 111, 115, 59]⟩ : ByteArray) t103 t104 t105 _ ?side1 A2.out).mono ?_); (case side1 => exact GW.below HG.out (by repeat (first | (with_reducible first | exact HB.out | apply below_alloc | apply pw_below_drewN | apply below_drew1) | exact HB.out))); rintro e w23 ⟨rfl, hb⟩; refine ⟨_, rfl, ?_⟩; have n0_ := Aside0.mk (below_step (by repeat (first | (with_reducible first | exact HB.out | apply below_alloc | apply pw_below_drewN | apply below_drew1) | exact HB.out)) hb); clear HB; have HB := n0_; clear n0_; (try clear hb); (try clear hb2); (try clear hk); (try clear hi)) | ((with_reducible refine gate_callee (f := 11) rfl ?_); refine goesL_ (some 19) rfl rfl Tryz.func11 (by kernel_rfl) rfl #[.string (⟨#[97, 98, 38, 120, 59]⟩ : ByteArray)] rfl (by (try simp only [List.map_toArray, List.map_cons, List.map_nil]); first | done | rfl | (simp only [List.length_drop, List.length_take]; rfl)) ?_; (with_reducible refine (escape_Get.calls (⟨#[97, 98, 38, 120, 59]⟩ : ByteArray) t106 t107 t108 _ ?side1 A3.out).mono ?_); (case side1 => exact GW.below HG.out (by repeat (first | (with_reducible first | exact HB.out | apply below_alloc | apply pw_below_drewN | apply below_drew1) | exact HB.out))); rintro e w24 ⟨rfl, hb⟩; refine ⟨_, rfl, ?_⟩; have n0_ := Aside0.mk (below_step (by repeat (first | (with_reducible first | exact HB.out | apply below_alloc | apply pw_below_drewN | apply below_drew1) | exact HB.out)) hb); clear HB; have HB := n0_; clear n0_; (try clear hb); (try clear hb2); (try clear hk); (try clear hi)))
        go_ret
        exact ⟨by first | rfl | (simp [errW_none, errW_some] <;> rfl) | (simp [*, errW_none, errW_some] <;> rfl), by repeat (first | (with_reducible first | exact HB.out | apply below_alloc | apply pw_below_drewN | apply below_drew1) | exact HB.out)⟩
    · rw [if_neg c5] at H
      have c5b0 : (t102 == 0) = false := beq_eq_false_iff_ne.mpr c5
      have c5b1 : (t102 != 0) = true := bne_iff_ne.mpr c5
      obtain rfl := Option.some.inj H
      go_enter Tryz.func10, Tryz.ntmps10
      go_wp2_with (first | ((with_reducible refine gate_callee (f := 16) rfl ?_); refine goesL_ (some 10) rfl rfl Tryz.func16 (by kernel_rfl) rfl #[.string (⟨#[97, 60, 34]⟩ : ByteArray)] rfl (by (try simp only [List.map_toArray, List.map_cons, List.map_nil]); first | done | rfl | (simp only [List.length_drop, List.length_take]; rfl)) ?_; (with_reducible refine (escape_Put.calls (⟨#[97, 60, 34]⟩ : ByteArray) t101 t102 _ A1.out).mono ?_); rintro e w25 ⟨rfl, hb⟩; refine ⟨_, rfl, ?_⟩; have n0_ := Aside0.mk (below_step (by repeat (first | (with_reducible first | exact HB.out | apply below_alloc | apply pw_below_drewN | apply below_drew1) | exact HB.out)) hb); clear HB; have HB := n0_; clear n0_; (try clear hb); (try clear hb2); (try clear hk); (try clear hi)) | ((with_reducible refine gate_callee (f := 11) rfl ?_); refine goesL_ (some 14) rfl rfl Tryz.func11 (by kernel_rfl) rfl #[.string (⟨#[38, 35, 120, 50, 48, 65, 67, 59, 38, 97, 112, 111, 115, 59]⟩ : ByteArray)] rfl (by (try simp only [List.map_toArray, List.map_cons, List.map_nil]); first | done | rfl | (simp only [List.length_drop, List.length_take]; rfl)) ?_; (with_reducible refine (escape_Get.calls (⟨#[38, 35, 120, 50, 48, 65, 67, 59, 38, 97, 112, 111, 115, 59]⟩ : ByteArray) t103 t104 t105 _ ?side1 A2.out).mono ?_); (case side1 => exact GW.below HG.out (by repeat (first | (with_reducible first | exact HB.out | apply below_alloc | apply pw_below_drewN | apply below_drew1) | exact HB.out))); rintro e w26 ⟨rfl, hb⟩; refine ⟨_, rfl, ?_⟩; have n0_ := Aside0.mk (below_step (by repeat (first | (with_reducible first | exact HB.out | apply below_alloc | apply pw_below_drewN | apply below_drew1) | exact HB.out)) hb); clear HB; have HB := n0_; clear n0_; (try clear hb); (try clear hb2); (try clear hk); (try clear hi)) | ((with_reducible refine gate_callee (f := 11) rfl ?_); refine goesL_ (some 19) rfl rfl Tryz.func11 (by kernel_rfl) rfl #[.string (⟨#[97, 98, 38, 120, 59]⟩ : ByteArray)] rfl (by (try simp only [List.map_toArray, List.map_cons, List.map_nil]); first | done | rfl | (simp only [List.length_drop, List.length_take]; rfl)) ?_; (with_reducible refine (escape_Get.calls (⟨#[97, 98, 38, 120, 59]⟩ : ByteArray) t106 t107 t108 _ ?side1 A3.out).mono ?_); (case side1 => exact GW.below HG.out (by repeat (first | (with_reducible first | exact HB.out | apply below_alloc | apply pw_below_drewN | apply below_drew1) | exact HB.out))); rintro e w27 ⟨rfl, hb⟩; refine ⟨_, rfl, ?_⟩; have n0_ := Aside0.mk (below_step (by repeat (first | (with_reducible first | exact HB.out | apply below_alloc | apply pw_below_drewN | apply below_drew1) | exact HB.out)) hb); clear HB; have HB := n0_; clear n0_; (try clear hb); (try clear hb2); (try clear hk); (try clear hi)))
      go_ret
      exact ⟨by first | rfl | (simp [errW_none, errW_some] <;> rfl) | (simp [*, errW_none, errW_some] <;> rfl), by repeat (first | (with_reducible first | exact HB.out | apply below_alloc | apply pw_below_drewN | apply below_drew1) | exact HB.out)⟩
  · rw [if_neg c4] at H
    have c4b0 : (t101.toList == ([97, 38, 108, 116, 59, 38, 113, 117, 111, 116, 59] : List UInt8)) = false := beq_eq_false_iff_ne.mpr c4
    have c4b1 : (t101.toList != ([97, 38, 108, 116, 59, 38, 113, 117, 111, 116, 59] : List UInt8)) = true := bne_iff_ne.mpr c4
    obtain rfl := Option.some.inj H
    go_enter Tryz.func10, Tryz.ntmps10
    go_wp2_with (first | ((with_reducible refine gate_callee (f := 16) rfl ?_); refine goesL_ (some 10) rfl rfl Tryz.func16 (by kernel_rfl) rfl #[.string (⟨#[97, 60, 34]⟩ : ByteArray)] rfl (by (try simp only [List.map_toArray, List.map_cons, List.map_nil]); first | done | rfl | (simp only [List.length_drop, List.length_take]; rfl)) ?_; (with_reducible refine (escape_Put.calls (⟨#[97, 60, 34]⟩ : ByteArray) t101 t102 _ A1.out).mono ?_); rintro e w28 ⟨rfl, hb⟩; refine ⟨_, rfl, ?_⟩; have n0_ := Aside0.mk (below_step (by repeat (first | (with_reducible first | exact HB.out | apply below_alloc | apply pw_below_drewN | apply below_drew1) | exact HB.out)) hb); clear HB; have HB := n0_; clear n0_; (try clear hb); (try clear hb2); (try clear hk); (try clear hi)) | ((with_reducible refine gate_callee (f := 11) rfl ?_); refine goesL_ (some 14) rfl rfl Tryz.func11 (by kernel_rfl) rfl #[.string (⟨#[38, 35, 120, 50, 48, 65, 67, 59, 38, 97, 112, 111, 115, 59]⟩ : ByteArray)] rfl (by (try simp only [List.map_toArray, List.map_cons, List.map_nil]); first | done | rfl | (simp only [List.length_drop, List.length_take]; rfl)) ?_; (with_reducible refine (escape_Get.calls (⟨#[38, 35, 120, 50, 48, 65, 67, 59, 38, 97, 112, 111, 115, 59]⟩ : ByteArray) t103 t104 t105 _ ?side1 A2.out).mono ?_); (case side1 => exact GW.below HG.out (by repeat (first | (with_reducible first | exact HB.out | apply below_alloc | apply pw_below_drewN | apply below_drew1) | exact HB.out))); rintro e w29 ⟨rfl, hb⟩; refine ⟨_, rfl, ?_⟩; have n0_ := Aside0.mk (below_step (by repeat (first | (with_reducible first | exact HB.out | apply below_alloc | apply pw_below_drewN | apply below_drew1) | exact HB.out)) hb); clear HB; have HB := n0_; clear n0_; (try clear hb); (try clear hb2); (try clear hk); (try clear hi)) | ((with_reducible refine gate_callee (f := 11) rfl ?_); refine goesL_ (some 19) rfl rfl Tryz.func11 (by kernel_rfl) rfl #[.string (⟨#[97, 98, 38, 120, 59]⟩ : ByteArray)] rfl (by (try simp only [List.map_toArray, List.map_cons, List.map_nil]); first | done | rfl | (simp only [List.length_drop, List.length_take]; rfl)) ?_; (with_reducible refine (escape_Get.calls (⟨#[97, 98, 38, 120, 59]⟩ : ByteArray) t106 t107 t108 _ ?side1 A3.out).mono ?_); (case side1 => exact GW.below HG.out (by repeat (first | (with_reducible first | exact HB.out | apply below_alloc | apply pw_below_drewN | apply below_drew1) | exact HB.out))); rintro e w30 ⟨rfl, hb⟩; refine ⟨_, rfl, ?_⟩; have n0_ := Aside0.mk (below_step (by repeat (first | (with_reducible first | exact HB.out | apply below_alloc | apply pw_below_drewN | apply below_drew1) | exact HB.out)) hb); clear HB; have HB := n0_; clear n0_; (try clear hb); (try clear hb2); (try clear hk); (try clear hi)))
    go_ret
    exact ⟨by first | rfl | (simp [errW_none, errW_some] <;> rfl) | (simp [*, errW_none, errW_some] <;> rfl), by repeat (first | (with_reducible first | exact HB.out | apply below_alloc | apply pw_below_drewN | apply below_drew1) | exact HB.out)⟩

end Go.Proofs.YtbcjhmeeonhmaaaGreatDoor.M
end

-- Laid by a program of this session for this claim.
section
namespace Go.Proofs.YtbcjhmeeonhmaaaGreatDoor.M
open Go.RowKit Go.Proofs.YtbcjhmeeonhmaaaGreatDoorW.PrintWords Go.Proofs.YtbcjhmeeonhmaaaGreatDoorW.PrintLast Go.Proofs.YtbcjhmeeonhmaaaGreatDoorW.PrintMore
attribute [local go_sem] max2_int min2_int max_two min_two max_three min_three max_four min_four   -- for this text's walks alone
set_option linter.unusedVariables false
set_option linter.unusedSimpArgs false

/-! ### pleacherlaw04_cut: function 12 -/
def pleacherlaw04_cut.f (a0 : ByteArray) : Option (ByteArray) := if 0 ≤ (mn (a0.size : Int) 500) then (if (mn (a0.size : Int) 500) ≤ (a0.size : Int) then (some (a0.extract 0 ((mn (a0.size : Int) 500) : Int).toNat)) else (none)) else (none)
set_option maxHeartbeats 8000000 in
set_option maxRecDepth 100000 in
theorem pleacherlaw04_cut.calls (a0 : ByteArray) (r : ByteArray) (w : World) (h : pleacherlaw04_cut.f a0 = some r) :
    Calls Tryz.prog 12 #[.string a0] w fun e w' => e = .returned (.string r) ∧ Below w.heap.size w w' := by
  have HB := Aside0.mk (Below.refl w.heap.size w)
  have H : (if 0 ≤ (mn (a0.size : Int) 500) then (if (mn (a0.size : Int) 500) ≤ (a0.size : Int) then (some (a0.extract 0 ((mn (a0.size : Int) 500) : Int).toNat)) else (none)) else (none)) = some r := h
  clear h
  obtain ⟨ji2, hji2⟩ : ∃ j_ : Int, (mn (a0.size : Int) 500) = j_ := ⟨_, rfl⟩
  replace H : (if 0 ≤ (ji2) then (if (ji2) ≤ (a0.size : Int) then (some (a0.extract 0 ((ji2) : Int).toNat)) else (none)) else (none)) = some r := by first | (rw [hji2] at H; exact H) | (simp only [hji2] at H ⊢; exact H)
  (try (have hji2h : ji2 ≤ 500 := by (rw [← hji2]; unfold mn; (repeat' split) <;> omega)))
  (try (have hji2g : ji2 ≤ 64 := by omega))
  (try (have hji2l : 0 ≤ ji2 := by (rw [← hji2]; unfold mn; (repeat' split) <;> omega)))
  (try (have hji2m : 0 ≤ ji2 := by omega))
  have hji2_ : (if 500 < (a0.size : Int) then 500 else (a0.size : Int)) = ji2 := hji2
  by_cases c3 : 0 ≤ (ji2)
  · rw [if_pos c3] at H
    have c3b0 := eq_true c3
    have c3b1 : decide (0 ≤ (ji2)) = true := decide_eq_true c3
    clear c3
    by_cases c4 : (ji2) ≤ (a0.size : Int)
    · rw [if_pos c4] at H
      have c4b0 := eq_true c4
      have c4b1 : decide ((ji2) ≤ (a0.size : Int)) = true := decide_eq_true c4
      clear c4
      obtain rfl := Option.some.inj H
      go_enter Tryz.func12, Tryz.ntmps12
      go_wp2
      go_ret
      exact ⟨by first | rfl | (simp [errW_none, errW_some] <;> rfl) | (simp only [← hji2]; first | rfl | (simp [errW_none, errW_some] <;> rfl)) | (simp [*, errW_none, errW_some] <;> rfl), by repeat (first | (with_reducible first | exact HB.out | apply below_alloc | apply pw_below_drewN | apply below_drew1) | exact HB.out)⟩
    · rw [if_neg c4] at H
      exact absurd H (by simp)
  · rw [if_neg c3] at H
    exact absurd H (by simp)

end Go.Proofs.YtbcjhmeeonhmaaaGreatDoor.M
end

/-
What the laws of escape share: the known escapes, the cut.
-/
section
set_option linter.unusedVariables false
set_option maxRecDepth 100000
namespace Go.Proofs.YtbcjhmeeonhmaaaGreatDoor.H
open Go Go.RowKit Go.Proofs.YtbcjhmeeonhmaaaGreatDoorW.PrintWords Go.Proofs.YtbcjhmeeonhmaaaGreatDoorW.PrintMore Go.Proofs.YtbcjhmeeonhmaaaGreatDoor.M

theorem known1 : ePutS (⟨#[97, 60, 34]⟩ : ByteArray) = (⟨#[97, 38, 108, 116, 59, 38, 113, 117, 111, 116, 59]⟩, 0) := by decide +kernel
theorem known2 : egS (⟨#[38, 35, 120, 50, 48, 65, 67, 59, 38, 97, 112, 111, 115, 59]⟩ : ByteArray) = (⟨#[226, 130, 172, 39]⟩, 0, 0) := by decide +kernel
theorem known3 : egS (⟨#[97, 98, 38, 120, 59]⟩ : ByteArray) = (⟨#[]⟩, 2, 40) := by decide +kernel
theorem put_f (s : ByteArray) (h : s.size ≤ 1073741824) : escape_Put.f s = some (ePutS s) := by unfold escape_Put.f; rw [if_pos h]
theorem get_f (s : ByteArray) (h : s.size ≤ 1073741824) : escape_Get.f s = some (egS s) := by unfold escape_Get.f; rw [if_pos h]
theorem shown_f : pleacherlaw04_shown.f = some true := by
  unfold pleacherlaw04_shown.f
  rw [put_f _ (by decide), Option.bind_some, get_f _ (by decide), Option.bind_some, get_f _ (by decide), Option.bind_some, known1, known2, known3]
  simp only [toList_data]
  decide
theorem mn_le (x : Int) (k : Int) : mn x k ≤ k ∧ mn x k ≤ x ∧ (mn x k = x ∨ mn x k = k) := by unfold mn; split <;> omega
/-- A text, cut. -/
def cutT (s : ByteArray) : ByteArray := s.extract 0 (min s.size 500)
theorem cut_f (s : ByteArray) : pleacherlaw04_cut.f s = some (cutT s) := by
  unfold pleacherlaw04_cut.f cutT
  have h0 := mn_le (s.size : Int) 500
  rw [if_pos (by omega), if_pos (by omega)]
  have e0 : (mn (s.size : Int) 500).toNat = min s.size 500 := by omega
  rw [e0]
theorem cut_size (s : ByteArray) : (cutT s).size ≤ 500 := by unfold cutT; rw [ByteArray.size_extract]; omega
end Go.Proofs.YtbcjhmeeonhmaaaGreatDoor.H
end

/-
What the rows of escape share: what 'laid' and the world's shape give a walk, the witness' world.
-/
section
set_option linter.unusedVariables false
set_option linter.unusedSimpArgs false
set_option maxRecDepth 100000
namespace Go.Proofs.YtbcjhmeeonhmaaaGreatDoor.H
open Go Go.ChangeShapes Go.WideShapes Go.ChangeAt Go.RowKit Go.Proofs.YtbcjhmeeonhmaaaGreatDoorW.PrintWords Go.Proofs.YtbcjhmeeonhmaaaGreatDoorW.PrintMore Go.Proofs.YtbcjhmeeonhmaaaGreatDoor.M

theorem own : ownKnob Tryz.prog.godebug = none := by kernel_rfl
theorem gType : Tryz.prog.globalNamed "errors.errorType" = some 0 := by kernel_rfl
theorem gBase : Tryz.prog.globalNamed "pleacher/num.errBase" = some 3 := by kernel_rfl
theorem gNum : Tryz.prog.globalNamed "pleacher/num.errNum" = some 2 := by kernel_rfl
theorem gBaseT : (Tryz.prog.globals[3]?).map (·.type) = some 40 := by kernel_rfl
theorem gNumT : (Tryz.prog.globals[2]?).map (·.type) = some 40 := by kernel_rfl
theorem rtT : (Tryz.prog.cutTypes.find? (·.1 == "internal/reflectlite.rtype")).map (·.2) = some 162 := by kernel_rfl
theorem sizeT : Tryz.prog.types.size = 250 := by kernel_rfl
theorem oneErr : ((List.range 250).filter fun t => Tryz.prog.rowNamed t [101, 114, 114, 111, 114]) = [40] := by kernel_rfl
abbrev TwoLaid (r : List (String × DataW Unit)) (W : World) : Prop := laidMet Tryz.prog (("pleacher/num.errBase", Rows.laid_pleacher_num_errBase) :: ("pleacher/num.errNum", Rows.laid_pleacher_num_errNum) :: r) W ∧ handlesMet Tryz.prog [("errors.errorType", Rows.laid_errors_errorType)] W
theorem laidMet_tail {P : Program} {x : String × DataW Unit} {l : List (String × DataW Unit)} {W : World} (h : laidMet P (x :: l) W) : laidMet P l W := by
  obtain ⟨ps, ⟨g0, t0, cs0, f0, p0, q0, _, _, _, _, hr, e0⟩, hnd, hrows⟩ := h
  subst e0
  exact ⟨q0, hr, (List.nodup_append.1 hnd).2.1, fun b off hm => hrows b off (List.mem_append_right _ hm)⟩
theorem laidA {W : World} (h : laidMetH Tryz.prog Rows.escapeGetsRow.laid W) : TwoLaid [] W := h
theorem laidB {W : World} (h : laidMetH Tryz.prog Rows.escapeLinesRow.laid W) : TwoLaid [("unicode/utf8.first", Rows.laid_unicode_utf8_first)] W := ⟨laidMet_tail (x := ("unicode/utf8.acceptRanges", Rows.laid_unicode_utf8_acceptRanges)) h.1, h.2⟩

theorem cellsE : Tryz.prog.cellsOf 238 = 1 := by kernel_rfl
theorem cellsS : Tryz.prog.cellsOf 9 = 1 := by kernel_rfl
theorem starE : "*" ++ "errors.errorString" = "*errors.errorString" := by decide
theorem rowE (u : TypeId) (h : Tryz.prog.typeName? 3 u = some "*errors.errorString") : u = 219 :=
  typeName_ptr_named (nm := "errors.errorString") (by rw [starE]; kernel_rfl) (by kernel_rfl) (by decide) u (by rw [starE]; exact h)
/-- WHAT 'laid' AND THE SHAPE GIVE: the two sentinels, the type's handle, and a number in bytealg.MaxLen. -/
theorem gw_of_laid {W : World} {r : List (String × DataW Unit)} (h : TwoLaid r W) (hsh : W.ShapedOpen Tryz.prog) : M.GW W := by
  obtain ⟨h1, h2⟩ := h
  obtain ⟨a0, a1, s0, s1, c0, c1, t0, t1, v0, v1, _, _, _, _, _, _, hne, b0, b1⟩ := Go.laid_sentinels2 h1 gBase gBaseT gNum gNumT Tryz.underlying40 rowE Tryz.underlying219 Tryz.underlying238 rfl rfl Tryz.underlying9 cellsE cellsS
  obtain ⟨name, u, ty, e1, e2, e3, e4, e5⟩ := h2 _ (List.mem_singleton.2 rfl)
  have en : name = [101, 114, 114, 111, 114] := (Option.some.inj e1).symm
  subst en
  obtain rfl := Option.some.inj (rtT.symm.trans e2)
  have hm : ty ∈ (List.range 250).filter fun t => Tryz.prog.rowNamed t [101, 114, 114, 111, 114] := List.mem_filter.2 ⟨List.mem_range.2 (by rw [← sizeT]; exact e3), e4⟩
  rw [oneErr] at hm
  obtain rfl := List.mem_singleton.1 hm
  have hh : typeHandle Tryz.prog 40 = .pointer (some ⟨6, 40, none⟩) := by kernel_rfl
  rw [hh] at e5
  exact ⟨⟨a0, a1, c0, c1, t0, t1, by simpa using World.var?_cell gBase v0 0, by simpa using World.var?_cell gNum v1 0, hne, b0, b1, by simpa using World.var?_cell gType e5 0⟩,
    Go.Proofs.cell_of_shapedOpen_int (zero := #[.int .i64 0]) (t := 3) hsh (of_decide_eq_true (by kernel_rfl)) (by kernel_rfl) rfl (by kernel_rfl) (by kernel_rfl) Tryz.underlying3⟩
/-- A WORLD FOR THE WITNESS: as the program's own start lays the variables. -/
theorem doorA (os : Os) (args : Array Value) : laidMetH Tryz.prog Rows.escapeGetsRow.laid ((World.doorLaid Tryz.prog 200 os).forCall (fun _ _ => 0) ⟨#[], args, []⟩).memory :=
  laidMetH_of_parts (laidMet_of_run' 8 (by kernel_rfl) (by kernel_rfl)) (by kernel_rfl)
/-- The same with Go's own table of first bytes laid into it. -/
noncomputable def worldB (os : Os) : World := (World.doorLaid Tryz.prog 200 os).layVars Tryz.prog [("unicode/utf8.first", Rows.laid_unicode_utf8_first)]
noncomputable def oldB (os : Os) : List Nat := (List.range (World.doorLaid Tryz.prog 200 os).heap.size).filter (· != 4)
theorem plainB (os : Os) (args : Array Value) : laidMet Tryz.prog (Rows.escapeLinesRow.laid.filter fun x => x.2.handleName?.isNone) ((worldB os).forCall (fun _ _ => 0) ⟨#[], args, []⟩).memory :=
  laidMet_layVars (w0 := World.doorLaid Tryz.prog 200 os) ["unicode/utf8.first"] (oldB os) (by kernel_rfl) (by kernel_rfl) (by kernel_rfl)
    (LaidIn.of_run (oldB os) 8 (by kernel_rfl) (by kernel_rfl) (by kernel_rfl) (by kernel_rfl))
theorem doorB (os : Os) (args : Array Value) : laidMetH Tryz.prog Rows.escapeLinesRow.laid ((worldB os).forCall (fun _ _ => 0) ⟨#[], args, []⟩).memory :=
  laidMetH_of_parts (plainB os args) (by kernel_rfl)
theorem worldB_os (os : Os) : (worldB os).os = os := World.layVars_os _ _ _
theorem laidOutA : laidOutB Tryz.prog = true := by kernel_rfl
/-- POST where nothing below the old heap's end has turned, and 'true' is handed back. -/
theorem post_true {H : Type} {enc : TypeId × Value → H} {f : Func} {s : ChangeSpec} {apart fresh handsOn : Bool} {W W' : World} {args : Array Value} {ds gs : List (DataW H)} {before pa : List MemPlace}
    (hW : DataW.Whole enc Tryz.prog f.params.toList s.vars apart W args.toList ds gs before) (hvars : s.vars = []) (hr : f.resultTypes = #[4])
    (hfn : (s.fn H (ds ++ gs)).results = [.lit (.bool true)] ∧ (s.fn H (ds ++ gs)).args = ds ∧ (s.fn H (ds ++ gs)).vars = [])
    (hargs : DataW.TrodAll enc Tryz.prog W' 0 (fun b => decide (b < W.heap.size)) true f.params.toList args.toList ds pa) (hb : Below W.heap.size W W') (hpa : before = pa) :
    s.post enc Tryz.prog f apart fresh handsOn false W args (.bool true) W' := by
  refine ⟨ds, gs, before, [], pa, [], hW, ?_, ?_, ?_, hb.frame _, fun h => by cases h⟩
  · rw [hr, hfn.1]
    exact trodAll_cons_mk (shut_bool Tryz.underlying4 _) trodAll_mk0
  · rw [hfn.2.1]; exact hargs
  · rw [hvars, hfn.2.2]; rfl
theorem readS : Tryz.prog.readableRec 9 = true := by kernel_rfl
theorem rowsS : 9 < Tryz.prog.types.size := by rw [sizeT]; decide
theorem readI : Tryz.prog.readableRec 3 = true := by kernel_rfl
theorem rowsI : 3 < Tryz.prog.types.size := by rw [sizeT]; decide
end Go.Proofs.YtbcjhmeeonhmaaaGreatDoor.H
end
