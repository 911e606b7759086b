/-
The card of EscapeGets: what raw texts stand for, and references: the program and the document say the same, for any text (no condition).
-/
import Derived.Test.YtbcjhmeeonhmaaaGreatDoorQG2
import Derived.RangeFuncBox
import Derived.Maps.AppendAt
set_option linter.unusedVariables false
set_option linter.unusedSimpArgs false
/-
What put and Get say, in plain words: bytes and lists.
-/
section
set_option linter.unusedVariables false
set_option maxRecDepth 100000
namespace Go.Proofs.YtbcjhmeeonhmaaaGreatDoor.H
open Go Go.RowKit Go.Proofs.YtbcjhmeeonhmaaaGreatDoorW.PrintWords Go.Proofs.YtbcjhmeeonhmaaaGreatDoorW.PrintMore Go.Proofs.YtbcjhmeeonhmaaaGreatDoor.M

/-- A rune's bytes. -/
theorem enc_bytes {r : Int} (hr : isR r = true) {c : UInt8} (hc : c ∈ (encS r).1.data.toList) : (r < 128 ∧ (c.toNat : Int) = r ∧ (encS r).1 = B [c]) ∨ (128 ≤ r ∧ 128 ≤ c.toNat) := by
  have hb := isR_bd hr
  by_cases h : r < 128
  · left
    obtain ⟨n, rfl⟩ := Int.eq_ofNat_of_zero_le hb.1
    have hn : n < 128 := by omega
    have e : ((UInt8.ofNat n).toNat : Int) = (n : Int) := by rw [UInt8.toNat_ofNat']; omega
    have he := encS_ascii (UInt8.ofNat n) (by omega)
    rw [e] at he
    rw [he, B_list, List.mem_singleton] at hc
    subst hc
    exact ⟨h, e, he⟩
  · right
    refine ⟨by omega, ?_⟩
    unfold encS at hc
    rw [if_pos hr] at hc
    have hbd := encL_bd hr
    have hm : (c.toNat : Int) ∈ bytesOf (strOfNums (encL r)) := by unfold bytesOf; exact List.mem_map_of_mem (f := fun b : UInt8 => (b.toNat : Int)) hc
    rw [bytesOf_nums hbd] at hm
    have hge : ∀ x ∈ encL r, 128 ≤ x := by
      intro x hx
      unfold encL at hx
      rw [if_neg h] at hx
      by_cases a2 : r < 2048
      · rw [if_pos a2] at hx; simp at hx; omega
      · rw [if_neg a2] at hx
        by_cases a3 : r < 65536
        · rw [if_pos a3] at hx; simp at hx; omega
        · rw [if_neg a3] at hx; simp at hx; omega
    have := hge _ hm
    omega
/-! Get -/
def egF : Nat → ByteArray → ByteArray × Option (Int × Nat)
  | 0, _ => (⟨#[]⟩, none)
  | k + 1, t => if t.size = 0 then (⟨#[]⟩, none) else match runeE t with
    | .error why => (⟨#[]⟩, some (why, t.size))
    | .ok (out, n) => (out ++ (egF k (t.extract n t.size)).1, (egF k (t.extract n t.size)).2)
def eg (t : ByteArray) : ByteArray × Option (Int × Nat) := egF t.size t
/-- WHAT GET SAYS. -/
def egS (s : ByteArray) : ByteArray × Int × Int := match (eg s).2 with
  | none => ((eg s).1, 0, 0)
  | some (why, m) => (⟨#[]⟩, (s.size : Int) - m, why)
theorem egF_nil {t : ByteArray} (h : t.size = 0) (k : Nat) : egF k t = (⟨#[]⟩, none) := by
  cases k with
  | zero => rfl
  | succ k => rw [egF, if_pos h]
theorem egF_err {t : ByteArray} {why : Int} (h0 : t.size ≠ 0) (h : runeE t = .error why) (k : Nat) : egF (k + 1) t = (⟨#[]⟩, some (why, t.size)) := by
  rw [egF, if_neg h0, h]
theorem egF_ok {t out : ByteArray} {n : Nat} (h : runeE t = .ok (out, n)) (k : Nat) : egF (k + 1) t = (out ++ (egF k (t.extract n t.size)).1, (egF k (t.extract n t.size)).2) := by
  have hb := runeE_bd h
  rw [egF, if_neg (by omega), h]
theorem egF_fuel : ∀ (p q : Nat) (t : ByteArray), t.size ≤ p → t.size ≤ q → egF p t = egF q t := by
  intro p
  induction p with
  | zero => intro q t hp hq; rw [egF_nil (by omega), egF_nil (by omega)]
  | succ p ih =>
    intro q t hp hq
    by_cases h0 : t.size = 0
    · rw [egF_nil h0, egF_nil h0]
    · obtain ⟨q, rfl⟩ : ∃ j, q = j + 1 := ⟨q - 1, by omega⟩
      cases h : runeE t with
      | error why => rw [egF_err h0 h, egF_err h0 h]
      | ok x =>
        obtain ⟨out, n⟩ := x
        have hb := runeE_bd h
        rw [egF_ok h, egF_ok h, ih q (t.extract n t.size) (by rw [ByteArray.size_extract]; omega) (by rw [ByteArray.size_extract]; omega)]
theorem eg_nil {t : ByteArray} (h : t.size = 0) : eg t = (⟨#[]⟩, none) := egF_nil h _
theorem eg_err {t : ByteArray} {why : Int} (h0 : t.size ≠ 0) (h : runeE t = .error why) : eg t = (⟨#[]⟩, some (why, t.size)) := by
  obtain ⟨k, hk⟩ : ∃ k, t.size = k + 1 := ⟨t.size - 1, by omega⟩
  have := egF_err h0 h k
  unfold eg
  rw [← hk] at this
  exact this
theorem eg_ok {t out : ByteArray} {n : Nat} (h : runeE t = .ok (out, n)) : eg t = (out ++ (eg (t.extract n t.size)).1, (eg (t.extract n t.size)).2) := by
  have hb := runeE_bd h
  obtain ⟨k, hk⟩ : ∃ k, t.size = k + 1 := ⟨t.size - 1, by omega⟩
  have e := egF_ok h k
  have e2 : egF k (t.extract n t.size) = eg (t.extract n t.size) := egF_fuel _ _ _ (by rw [ByteArray.size_extract]; omega) (Nat.le_refl _)
  unfold eg
  rw [e2] at e
  have e3 : egF t.size t = egF (k + 1) t := by rw [hk]
  rw [e3]; exact e
theorem Pts.eg {s t : ByteArray} {pre : List ByteArray} (h : Pts s pre t) : H.eg s = (catL pre ++ (H.eg t).1, (H.eg t).2) := by
  induction h with
  | nil => rw [show catL [] = ⟨#[]⟩ from rfl, nil_app]
  | snoc h h0 hr ih => rw [ih, eg_ok hr, catL_snoc, app_assoc']
theorem egS_done {s t : ByteArray} {xs : List ByteArray} (h : Pts s xs t) (ht : t.size = 0) : egS s = (catL xs, 0, 0) := by
  have := h.eg
  rw [eg_nil ht, app_nil] at this
  unfold egS
  rw [this]
theorem egS_bad {s t : ByteArray} {xs : List ByteArray} {why : Int} (h : Pts s xs t) (h0 : t.size ≠ 0) (hr : runeE t = .error why) : egS s = (⟨#[]⟩, (s.size : Int) - t.size, why) := by
  have := h.eg
  rw [eg_err h0 hr] at this
  unfold egS
  rw [this]

/-! One rune of Get -/
theorem rune_bad {t : ByteArray} (h : (decR t).2.2 ≠ 0) : runeE t = .error 20 := by unfold runeE; rw [if_pos h]
theorem rune_lt {t : ByteArray} {n : Nat} (h : decR t = (60, (n : Int), 0)) : runeE t = .error 40 := by unfold runeE; rw [h]; simp
theorem rune_no {t : ByteArray} {r : Int} {n : Nat} (h : decR t = (r, (n : Int), 0)) (h2 : isCharS r = false) : runeE t = .error 40 := by
  unfold runeE; rw [h]
  simp only [ne_eq, not_true_eq_false, if_false, h2, if_true]
  split <;> rfl
theorem enc_not13 {r : Int} (hr : isR r = true) (h : r ≠ 13) : (encS r).1 ≠ ⟨#[13]⟩ := by
  intro e
  have : (13 : UInt8) ∈ (encS r).1.data.toList := by rw [e]; simp
  rcases enc_bytes hr this with ⟨_, e, _⟩ | ⟨_, e⟩
  · exact h e.symm
  · exact absurd e (by decide)
theorem rune_plain {t : ByteArray} {r : Int} {n : Nat} (h : decR t = (r, (n : Int), 0)) (h1 : r ≠ 60) (h2 : isCharS r = true) (h3 : r ≠ 38) (h4 : r ≠ 13) : runeE t = .ok ((encS r).1, n) := by
  have he := decR_enc h
  have hne := enc_not13 (decR_isR h) h4
  unfold runeE
  rw [h]
  simp only [ne_eq, not_true_eq_false, if_false, if_neg h1, h2, if_neg h3, Int.toNat_natCast]
  rw [if_neg (by decide)]
  unfold outE
  rw [← he, if_neg hne]
theorem enc13 : (encS 13).1 = ⟨#[13]⟩ := by decide +kernel
theorem rune_cr {t : ByteArray} (h : decR t = (13, ((1 : Nat) : Int), 0)) : runeE t = .ok (⟨#[10]⟩, if Lib.hasPrefix t.data.toList [13, 10] = true then 2 else 1) := by
  have he := decR_enc h
  rw [enc13] at he
  have hc : isCharS 13 = true := by decide +kernel
  unfold runeE
  rw [h]
  simp only [ne_eq, not_true_eq_false, if_false, hc, Int.toNat_natCast]
  rw [if_neg (by decide), if_neg (by decide), if_neg (by decide)]
  unfold outE
  rw [← he, if_pos rfl]
theorem enc38 : (encS 38).1 = ⟨#[38]⟩ := by decide +kernel
theorem rune_amp {t : ByteArray} (h : decR t = (38, ((1 : Nat) : Int), 0)) : runeE t = if (refS t).2.2 ≠ 0 then .error (refS t).2.2 else .ok ((encS (refS t).1).1, (refS t).2.1.toNat) := by
  have he := decR_enc h
  rw [enc38] at he
  have hc : isCharS 38 = true := by decide +kernel
  unfold runeE
  rw [h]
  simp only [ne_eq, not_true_eq_false, if_false, hc, Int.toNat_natCast, if_true]
  rw [if_neg (by decide), if_neg (by decide)]
  unfold outE
  rw [← he, if_neg (show ¬ (⟨#[38]⟩ : ByteArray) = ⟨#[13]⟩ by decide)]

/-! References -/
def refG (x : ByteArray) (ok : Bool) (i : Int) : Int × Int × Int :=
  if ok = true ∧ 1 ≤ i ∧ i < 12 then (if bodyR (x.extract 0 i.toNat) = 0 then (0, 0, 40) else (bodyR (x.extract 0 i.toNat), i + 2, 0)) else (0, 0, 40)
theorem refS_G {s x : ByteArray} {ok : Bool} {i : Int} (h : pfxS s 38 = (x, ok)) (hi : Lib.indexByte x.data.toList 59 = i) : refS s = refG x ok i := by
  subst hi
  have : refS s = refG (pfxS s 38).1 (pfxS s 38).2 (Lib.indexByte (pfxS s 38).1.data.toList 59) := rfl
  rw [this, h]
theorem pfx_cons (c : UInt8) (l : List UInt8) : pfxS (B (c :: l)) c = (B l, true) := by
  unfold pfxS Lib.trimPrefix Lib.hasPrefix
  rw [B_list]
  simp [List.isPrefixOf]; rfl
theorem pfx_not (c : UInt8) (l : List UInt8) (h : l.head? ≠ some c) : pfxS (B l) c = (B l, false) := by
  unfold pfxS Lib.trimPrefix Lib.hasPrefix
  rw [B_list]
  cases l with
  | nil => rfl
  | cons a t =>
    have : (c == a) = false := by rw [beq_eq_false_iff_ne]; intro e; exact h (by rw [e]; rfl)
    simp [List.isPrefixOf, this]; rfl
theorem idx_body {body u : List UInt8} (h3 : (59 : UInt8) ∉ body) : Lib.indexByte (body ++ 59 :: u) 59 = (body.length : Int) := by
  refine idx_at ?_ ?_
  · rw [List.getElem?_append_right (Nat.le_refl _), Nat.sub_self]; rfl
  · intro j hj hh
    rw [List.getElem?_append_left hj] at hh
    exact h3 (List.mem_of_getElem? hh)
theorem ref_ok {body u : List UInt8} (h1 : 1 ≤ body.length) (h2 : body.length < 12) (h3 : (59 : UInt8) ∉ body) :
    refS (B (38 :: (body ++ 59 :: u))) = if bodyR (B body) = 0 then (0, 0, 40) else (bodyR (B body), (body.length : Int) + 2, 0) := by
  rw [refS_G (pfx_cons 38 (body ++ 59 :: u)) (idx_body h3)]
  unfold refG
  have : (B (body ++ 59 :: u)).extract 0 ((body.length : Int)).toNat = B body := by rw [Int.toNat_natCast, B_ext, List.drop_zero, Nat.sub_zero, List.take_left]
  rw [if_pos ⟨rfl, by omega, by omega⟩, this]
theorem ref_err (s : ByteArray) (h : (refS s).2.2 ≠ 0) : refS s = (0, 0, 40) := by
  unfold refS at h ⊢
  by_cases hc : (pfxS s 38).2 = true ∧ 1 ≤ Lib.indexByte (pfxS s 38).1.data.toList 59 ∧ Lib.indexByte (pfxS s 38).1.data.toList 59 < 12
  · rw [if_pos hc] at h ⊢
    by_cases hz : bodyR ((pfxS s 38).1.extract 0 (Lib.indexByte (pfxS s 38).1.data.toList 59).toNat) = 0
    · rw [if_pos hz]
    · rw [if_neg hz] at h; exact absurd rfl h
  · rw [if_neg hc]
theorem ref_inv {l : List UInt8} (h : (refS (B l)).2.2 = 0) : ∃ body u, l = 38 :: (body ++ 59 :: u) ∧ 1 ≤ body.length ∧ body.length < 12 ∧ (59 : UInt8) ∉ body ∧ bodyR (B body) ≠ 0 := by
  by_cases hh : l.head? = some 38
  · obtain ⟨t, rfl⟩ : ∃ t, l = 38 :: t := by
      cases l with
      | nil => cases hh
      | cons a t => simp at hh; exact ⟨t, by rw [hh]⟩
    obtain ⟨i, hi⟩ : ∃ i, Lib.indexByte t 59 = i := ⟨_, rfl⟩
    rw [refS_G (pfx_cons 38 t) hi] at h
    unfold refG at h
    by_cases hc : True ∧ 1 ≤ i ∧ i < 12
    · rw [if_pos (by simpa using hc)] at h
      obtain ⟨k, rfl⟩ := Int.eq_ofNat_of_zero_le (by omega : 0 ≤ i)
      rw [Int.toNat_natCast] at h
      obtain ⟨h1, h2⟩ := Lib.indexByte_some hi
      have hlt := (List.getElem?_eq_some_iff.1 h1).1
      have hx : (B t).extract 0 k = B (t.take k) := by rw [B_ext, List.drop_zero, Nat.sub_zero]
      rw [hx] at h
      refine ⟨t.take k, t.drop (k + 1), ?_, by rw [List.length_take]; omega, by rw [List.length_take]; omega, ?_, ?_⟩
      · congr 1
        have e : t.drop k = 59 :: t.drop (k + 1) := by
          rw [List.drop_eq_getElem_cons hlt]
          rw [List.getElem?_eq_getElem hlt] at h1
          rw [Option.some.inj h1]
        rw [← e, List.take_append_drop]
      · intro hm
        obtain ⟨j, hj, e⟩ := List.getElem_of_mem hm
        rw [List.length_take] at hj
        refine h2 j (by omega) ?_
        rw [List.getElem?_eq_getElem (by omega)]
        rw [List.getElem_take] at e
        rw [e]
      · intro hz
        rw [if_pos hz] at h; cases h
    · rw [if_neg (by simpa using hc)] at h; cases h
  · rw [refS_G (pfx_not 38 l hh) rfl] at h
    unfold refG at h
    rw [if_neg (by simp)] at h
    cases h
end Go.Proofs.YtbcjhmeeonhmaaaGreatDoor.H
end

/-
The laws of escapes and raw texts, in plain words: two texts together; what is put is got; plain texts; line ends; digits.
-/
section
set_option linter.unusedVariables false
set_option maxRecDepth 100000
namespace Go.Proofs.YtbcjhmeeonhmaaaGreatDoor.H
open Go Go.RowKit Go.Proofs.YtbcjhmeeonhmaaaGreatDoorW.PrintWords Go.Proofs.YtbcjhmeeonhmaaaGreatDoorW.PrintMore Go.Proofs.YtbcjhmeeonhmaaaGreatDoor.M

theorem dec_small {s : ByteArray} {r : Int} {n : Nat} (h : decR s = (r, (n : Int), 0)) (hr : r < 128) : ∃ (c : UInt8) (u : List UInt8), s = B (c :: u) ∧ (c.toNat : Int) = r ∧ n = 1 := by
  have hR := decR_isR h
  have hb := isR_bd hR
  have hn := decR_n h
  obtain ⟨m, rfl⟩ := Int.eq_ofNat_of_zero_le hb.1
  have e : ((UInt8.ofNat m).toNat : Int) = (m : Int) := by rw [UInt8.toNat_ofNat']; omega
  have he := encS_ascii (UInt8.ofNat m) (by omega)
  rw [e] at he
  have h2 := decR_enc h
  rw [he] at h2
  have hz : (s.extract 0 n).size = n := by rw [ByteArray.size_extract]; omega
  have hn1 : n = 1 := by rw [← hz, ← h2]; rfl
  refine ⟨UInt8.ofNat m, (s.extract n s.size).data.toList, ?_, e, hn1⟩
  have := split_at s n (by omega)
  rw [← h2] at this
  exact this.symm.trans (data_ext (by rw [app_list]; rfl))
/-! Two texts together -/
/-! What is put is got -/
/-! Plain texts -/
/-! Line ends -/
theorem pfx_cases (l : List UInt8) (c : UInt8) : (∃ t, l = c :: t ∧ pfxS (B l) c = (B t, true)) ∨ (l.head? ≠ some c ∧ pfxS (B l) c = (B l, false)) := by
  by_cases h : l.head? = some c
  · left
    cases l with
    | nil => cases h
    | cons a t => simp at h; subst h; exact ⟨t, rfl, pfx_cons a t⟩
  · exact .inr ⟨h, pfx_not c l h⟩
def errW (x : Option (Int × Nat)) : Option Int := x.map (·.1)
/-! Digits -/
end Go.Proofs.YtbcjhmeeonhmaaaGreatDoor.H
end

/-
escape.Lines, walked: strings.ReplaceAll twice is the line ends made one kind.
-/
section
set_option linter.unusedVariables false
set_option maxRecDepth 100000
namespace Go.Proofs.YtbcjhmeeonhmaaaGreatDoor.H
open Go Go.RowKit

end Go.Proofs.YtbcjhmeeonhmaaaGreatDoor.H
end

-- Laid by a program of this session for this claim.
section
namespace Go.Proofs.YtbcjhmeeonhmaaaGreatDoor.M
open Go.RowKit Go.Proofs.YtbcjhmeeonhmaaaGreatDoorW.PrintWords Go.Proofs.YtbcjhmeeonhmaaaGreatDoorW.PrintLast Go.Proofs.YtbcjhmeeonhmaaaGreatDoorW.PrintMore
attribute [local go_sem] max2_int min2_int max_two min_two max_three min_three max_four min_four   -- for this text's walks alone
set_option linter.unusedVariables false
set_option linter.unusedSimpArgs false

/-! ### pleacherref02_IsChar: function 29 -/
def pleacherref02_IsChar.f (a0 : Int) : Option (Bool) := if a0 = 9 then (some true) else (if a0 = 10 then (some true) else (if a0 = 13 then (some true) else ((pleacherref02_in.f a0 32 55295).bind fun t109 => (if t109 = true then (some true) else ((pleacherref02_in.f a0 57344 65533).bind fun t110 => (if t110 = true then (some true) else ((pleacherref02_in.f a0 65536 1114111).bind fun t111 => (some t111))))))))
set_option maxHeartbeats 8000000 in
set_option maxRecDepth 100000 in
theorem pleacherref02_IsChar.calls (a0 : Int) (r : Bool) (w : World) (h : pleacherref02_IsChar.f a0 = some r) :
    Calls Tryz.prog 29 #[.int .i64 a0] w fun e w' => e = .returned (.bool r) ∧ Drawn0 w w' := by
  have H : (if a0 = 9 then (some true) else (if a0 = 10 then (some true) else (if a0 = 13 then (some true) else ((pleacherref02_in.f a0 32 55295).bind fun t109 => (if t109 = true then (some true) else ((pleacherref02_in.f a0 57344 65533).bind fun t110 => (if t110 = true then (some true) else ((pleacherref02_in.f a0 65536 1114111).bind fun t111 => (some t111))))))))) = some r := h
  clear h
  by_cases c2 : a0 = 9
  · rw [if_pos c2] at H
    have c2b0 : (a0 == 9) = true := beq_iff_eq.mpr c2
    have c2b1 : (a0 != 9) = false := bne_eq_false_iff_eq.mpr c2
    clear c2
    obtain rfl := Option.some.inj H
    go_enter Tryz.func29, Tryz.ntmps29
    go_wp2
    go_ret
    exact ⟨by first | rfl | (simp; done) | (simp [*]; done), by repeat (first | exact Drawn0.refl _ | apply Drawn0.step)⟩
  · rw [if_neg c2] at H
    have c2b0 : (a0 == 9) = false := beq_eq_false_iff_ne.mpr c2
    have c2b1 : (a0 != 9) = true := bne_iff_ne.mpr c2
    by_cases c3 : a0 = 10
    · rw [if_pos c3] at H
      have c3b0 : (a0 == 10) = true := beq_iff_eq.mpr c3
      have c3b1 : (a0 != 10) = false := bne_eq_false_iff_eq.mpr c3
      clear c3
      obtain rfl := Option.some.inj H
      go_enter Tryz.func29, Tryz.ntmps29
      go_wp2
      go_ret
      exact ⟨by first | rfl | (simp; done) | (simp [*]; done), by repeat (first | exact Drawn0.refl _ | apply Drawn0.step)⟩
    · rw [if_neg c3] at H
      have c3b0 : (a0 == 10) = false := beq_eq_false_iff_ne.mpr c3
      have c3b1 : (a0 != 10) = true := bne_iff_ne.mpr c3
      by_cases c4 : a0 = 13
      · rw [if_pos c4] at H
        have c4b0 : (a0 == 13) = true := beq_iff_eq.mpr c4
        have c4b1 : (a0 != 13) = false := bne_eq_false_iff_eq.mpr c4
        clear c4
        obtain rfl := Option.some.inj H
        go_enter Tryz.func29, Tryz.ntmps29
        go_wp2
        go_ret
        exact ⟨by first | rfl | (simp; done) | (simp [*]; done), by repeat (first | exact Drawn0.refl _ | apply Drawn0.step)⟩
      · rw [if_neg c4] at H
        have c4b0 : (a0 == 13) = false := beq_eq_false_iff_ne.mpr c4
        have c4b1 : (a0 != 13) = true := bne_iff_ne.mpr c4
        replace H := Option.bind_eq_some_iff.mp H
        obtain ⟨t109, A50, H⟩ := H
        replace H : (if t109 = true then (some true) else ((pleacherref02_in.f a0 57344 65533).bind fun t110 => (if t110 = true then (some true) else ((pleacherref02_in.f a0 65536 1114111).bind fun t111 => (some t111))))) = some r := H
        have A5 := Aside0.mk A50
        clear A50
        by_cases c6 : t109 = true
        · subst c6
          have H1 : (some true) = some r := by rw [if_pos rfl] at H; exact H
          clear H
          have H := H1
          clear H1
          obtain rfl := Option.some.inj H
          go_enter Tryz.func29, Tryz.ntmps29
          go_wp2_with (first | (go_at_call 52; (with_reducible refine (pleacherref02_in.calls a0 32 55295 true _ A5.out).mono ?_); rintro e w' ⟨rfl, ⟨nd, rfl⟩⟩))
          go_ret
          exact ⟨by first | rfl | (simp; done) | (simp [*]; done), by repeat (first | exact Drawn0.refl _ | apply Drawn0.step)⟩
        · replace c6 := Bool.eq_false_iff.mpr c6
          subst c6
          have H1 : ((pleacherref02_in.f a0 57344 65533).bind fun t110 => (if t110 = true then (some true) else ((pleacherref02_in.f a0 65536 1114111).bind fun t111 => (some t111)))) = some r := by rw [if_neg (show ¬ (false = true) by decide)] at H; exact H
          clear H
          have H := H1
          clear H1
          replace H := Option.bind_eq_some_iff.mp H
          obtain ⟨t110, A70, H⟩ := H
          replace H : (if t110 = true then (some true) else ((pleacherref02_in.f a0 65536 1114111).bind fun t111 => (some t111))) = some r := H
          have A7 := Aside0.mk A70
          clear A70
          by_cases c8 : t110 = true
          · subst c8
            have H1 : (some true) = some r := by rw [if_pos rfl] at H; exact H
            clear H
            have H := H1
            clear H1
            obtain rfl := Option.some.inj H
            go_enter Tryz.func29, Tryz.ntmps29
            go_wp2_with (first | (go_at_call 52; (with_reducible refine (pleacherref02_in.calls a0 32 55295 false _ A5.out).mono ?_); rintro e w' ⟨rfl, ⟨nd, rfl⟩⟩) | (go_at_call 52; (with_reducible refine (pleacherref02_in.calls a0 57344 65533 true _ A7.out).mono ?_); rintro e w' ⟨rfl, ⟨nd, rfl⟩⟩))
            go_ret
            exact ⟨by first | rfl | (simp; done) | (simp [*]; done), by repeat (first | exact Drawn0.refl _ | apply Drawn0.step)⟩
          · replace c8 := Bool.eq_false_iff.mpr c8
            subst c8
            have H1 : ((pleacherref02_in.f a0 65536 1114111).bind fun t111 => (some t111)) = some r := by rw [if_neg (show ¬ (false = true) by decide)] at H; exact H
            clear H
            have H := H1
            clear H1
            replace H := Option.bind_eq_some_iff.mp H
            obtain ⟨t111, A90, H⟩ := H
            replace H : (some t111) = some r := H
            have A9 := Aside0.mk A90
            clear A90
            obtain rfl := Option.some.inj H
            go_enter Tryz.func29, Tryz.ntmps29
            go_wp2_with (first | (go_at_call 52; (with_reducible refine (pleacherref02_in.calls a0 32 55295 false _ A5.out).mono ?_); rintro e w' ⟨rfl, ⟨nd, rfl⟩⟩) | (go_at_call 52; (with_reducible refine (pleacherref02_in.calls a0 57344 65533 false _ A7.out).mono ?_); rintro e w' ⟨rfl, ⟨nd, rfl⟩⟩) | (go_at_call 52; (with_reducible refine (pleacherref02_in.calls a0 65536 1114111 t111 _ A9.out).mono ?_); rintro e w' ⟨rfl, ⟨nd, rfl⟩⟩))
            go_ret
            exact ⟨by first | rfl | (simp; done) | (simp [*]; done), by repeat (first | exact Drawn0.refl _ | apply Drawn0.step)⟩

end Go.Proofs.YtbcjhmeeonhmaaaGreatDoor.M
end

-- Laid by a program of this session for this claim.
section
namespace Go.Proofs.YtbcjhmeeonhmaaaGreatDoor.M
open Go.RowKit Go.Proofs.YtbcjhmeeonhmaaaGreatDoorW.PrintWords Go.Proofs.YtbcjhmeeonhmaaaGreatDoorW.PrintLast Go.Proofs.YtbcjhmeeonhmaaaGreatDoorW.PrintMore
attribute [local go_sem] max2_int min2_int max_two min_two max_three min_three max_four min_four   -- for this text's walks alone
set_option linter.unusedVariables false
set_option linter.unusedSimpArgs false

/-! ### pleacherref04_named: function 35 -/
def pleacherref04_named.f (a0 : ByteArray) : Option (Int) := if a0.toList = ([97, 109, 112] : List UInt8) then (some 38) else (if a0.toList = ([108, 116] : List UInt8) then (some 60) else (if a0.toList = ([103, 116] : List UInt8) then (some 62) else (if a0.toList = ([113, 117, 111, 116] : List UInt8) then (some 34) else (if a0.toList = ([97, 112, 111, 115] : List UInt8) then (some 39) else (some 0)))))
set_option maxHeartbeats 8000000 in
set_option maxRecDepth 100000 in
theorem pleacherref04_named.calls (a0 : ByteArray) (r : Int) (w : World) (h : pleacherref04_named.f a0 = some r) :
    Calls Tryz.prog 35 #[.string a0] w fun e w' => e = .returned (.int .i64 r) ∧ Drawn0 w w' := by
  have H : (if a0.toList = ([97, 109, 112] : List UInt8) then (some 38) else (if a0.toList = ([108, 116] : List UInt8) then (some 60) else (if a0.toList = ([103, 116] : List UInt8) then (some 62) else (if a0.toList = ([113, 117, 111, 116] : List UInt8) then (some 34) else (if a0.toList = ([97, 112, 111, 115] : List UInt8) then (some 39) else (some 0)))))) = some r := h
  clear h
  by_cases c2 : a0.toList = ([97, 109, 112] : List UInt8)
  · rw [if_pos c2] at H
    have c2b0 : (a0.toList == ([97, 109, 112] : List UInt8)) = true := beq_iff_eq.mpr c2
    have c2b1 : (a0.toList != ([97, 109, 112] : List UInt8)) = false := bne_eq_false_iff_eq.mpr c2
    clear c2
    obtain rfl := Option.some.inj H
    go_enter Tryz.func35, Tryz.ntmps35
    go_wp2
    go_ret
    exact ⟨by first | rfl | (simp; done) | (simp [*]; done), by repeat (first | exact Drawn0.refl _ | apply Drawn0.step)⟩
  · rw [if_neg c2] at H
    have c2b0 : (a0.toList == ([97, 109, 112] : List UInt8)) = false := beq_eq_false_iff_ne.mpr c2
    have c2b1 : (a0.toList != ([97, 109, 112] : List UInt8)) = true := bne_iff_ne.mpr c2
    by_cases c3 : a0.toList = ([108, 116] : List UInt8)
    · rw [if_pos c3] at H
      have c3b0 : (a0.toList == ([108, 116] : List UInt8)) = true := beq_iff_eq.mpr c3
      have c3b1 : (a0.toList != ([108, 116] : List UInt8)) = false := bne_eq_false_iff_eq.mpr c3
      clear c3
      obtain rfl := Option.some.inj H
      go_enter Tryz.func35, Tryz.ntmps35
      go_wp2
      go_ret
      exact ⟨by first | rfl | (simp; done) | (simp [*]; done), by repeat (first | exact Drawn0.refl _ | apply Drawn0.step)⟩
    · rw [if_neg c3] at H
      have c3b0 : (a0.toList == ([108, 116] : List UInt8)) = false := beq_eq_false_iff_ne.mpr c3
      have c3b1 : (a0.toList != ([108, 116] : List UInt8)) = true := bne_iff_ne.mpr c3
      by_cases c4 : a0.toList = ([103, 116] : List UInt8)
      · rw [if_pos c4] at H
        have c4b0 : (a0.toList == ([103, 116] : List UInt8)) = true := beq_iff_eq.mpr c4
        have c4b1 : (a0.toList != ([103, 116] : List UInt8)) = false := bne_eq_false_iff_eq.mpr c4
        clear c4
        obtain rfl := Option.some.inj H
        go_enter Tryz.func35, Tryz.ntmps35
        go_wp2
        go_ret
        exact ⟨by first | rfl | (simp; done) | (simp [*]; done), by repeat (first | exact Drawn0.refl _ | apply Drawn0.step)⟩
      · rw [if_neg c4] at H
        have c4b0 : (a0.toList == ([103, 116] : List UInt8)) = false := beq_eq_false_iff_ne.mpr c4
        have c4b1 : (a0.toList != ([103, 116] : List UInt8)) = true := bne_iff_ne.mpr c4
        by_cases c5 : a0.toList = ([113, 117, 111, 116] : List UInt8)
        · rw [if_pos c5] at H
          have c5b0 : (a0.toList == ([113, 117, 111, 116] : List UInt8)) = true := beq_iff_eq.mpr c5
          have c5b1 : (a0.toList != ([113, 117, 111, 116] : List UInt8)) = false := bne_eq_false_iff_eq.mpr c5
          clear c5
          obtain rfl := Option.some.inj H
          go_enter Tryz.func35, Tryz.ntmps35
          go_wp2
          go_ret
          exact ⟨by first | rfl | (simp; done) | (simp [*]; done), by repeat (first | exact Drawn0.refl _ | apply Drawn0.step)⟩
        · rw [if_neg c5] at H
          have c5b0 : (a0.toList == ([113, 117, 111, 116] : List UInt8)) = false := beq_eq_false_iff_ne.mpr c5
          have c5b1 : (a0.toList != ([113, 117, 111, 116] : List UInt8)) = true := bne_iff_ne.mpr c5
          by_cases c6 : a0.toList = ([97, 112, 111, 115] : List UInt8)
          · rw [if_pos c6] at H
            have c6b0 : (a0.toList == ([97, 112, 111, 115] : List UInt8)) = true := beq_iff_eq.mpr c6
            have c6b1 : (a0.toList != ([97, 112, 111, 115] : List UInt8)) = false := bne_eq_false_iff_eq.mpr c6
            clear c6
            obtain rfl := Option.some.inj H
            go_enter Tryz.func35, Tryz.ntmps35
            go_wp2
            go_ret
            exact ⟨by first | rfl | (simp; done) | (simp [*]; done), by repeat (first | exact Drawn0.refl _ | apply Drawn0.step)⟩
          · rw [if_neg c6] at H
            have c6b0 : (a0.toList == ([97, 112, 111, 115] : List UInt8)) = false := beq_eq_false_iff_ne.mpr c6
            have c6b1 : (a0.toList != ([97, 112, 111, 115] : List UInt8)) = true := bne_iff_ne.mpr c6
            obtain rfl := Option.some.inj H
            go_enter Tryz.func35, Tryz.ntmps35
            go_wp2
            go_ret
            exact ⟨by first | rfl | (simp; done) | (simp [*]; done), by repeat (first | exact Drawn0.refl _ | apply Drawn0.step)⟩

end Go.Proofs.YtbcjhmeeonhmaaaGreatDoor.M
end

-- Laid by a program of this session for this claim.
section
namespace Go.Proofs.YtbcjhmeeonhmaaaGreatDoor.M
open Go.RowKit Go.Proofs.YtbcjhmeeonhmaaaGreatDoorW.PrintWords Go.Proofs.YtbcjhmeeonhmaaaGreatDoorW.PrintLast Go.Proofs.YtbcjhmeeonhmaaaGreatDoorW.PrintMore
attribute [local go_sem] max2_int min2_int max_two min_two max_three min_three max_four min_four   -- for this text's walks alone
set_option linter.unusedVariables false
set_option linter.unusedSimpArgs false

/-! ### pleacherref04_counted: function 36 -/
mutual
def pleacherref04_counted.j0 : Nat → ByteArray → Int → Bool → Option (Int)
  | 0, _, _, _ => none
  | k + 1, x0, x3, x14 => if x14 = true then (if 1 ≤ (x0.size : Int) then (pleacherref04_counted.j1 k (x0.extract 1 x0.size) 16) else (none)) else (pleacherref04_counted.j1 k x0 x3)
def pleacherref04_counted.j1 : Nat → ByteArray → Int → Option (Int)
  | 0, _, _ => none
  | k + 1, x0, x3 => (pleacherref03_Get.f k x3 x0).bind fun bt114 => (if bt114.2 = 0 then (if (x0.size : Int) > 8 then (some 0) else ((pleacherref02_IsChar.f (wrap64 (bt114.1))).bind fun t116 => (if t116 = true then (some (wrap64 (bt114.1))) else (some 0)))) else (some 0))
end
def pleacherref04_counted.f (k : Nat) (a0 : ByteArray) : Option (Int) := if 1 ≤ (a0.size : Int) then (if (a0.extract 1 a0.size).toList = ([] : List UInt8) then (pleacherref04_counted.j0 k (a0.extract 1 a0.size) 10 false) else (if 0 < ((a0.extract 1 a0.size).size : Int) then (pleacherref04_counted.j0 k (a0.extract 1 a0.size) 10 ((bt (a0.extract 1 a0.size) 0) == 120)) else (none))) else (none)
set_option maxHeartbeats 8000000 in
set_option maxRecDepth 100000 in
theorem pleacherref04_counted.calls (k : Nat) (a0 : ByteArray) (r : Int) (w : World) (h : pleacherref04_counted.f k a0 = some r) :
    Calls Tryz.prog 36 #[.string a0] w fun e w' => e = .returned (.int .i64 r) ∧ Drawn0 w w' := by
  have H : (if 1 ≤ (a0.size : Int) then (if (a0.extract 1 a0.size).toList = ([] : List UInt8) then (pleacherref04_counted.j0 k (a0.extract 1 a0.size) 10 false) else (if 0 < ((a0.extract 1 a0.size).size : Int) then (pleacherref04_counted.j0 k (a0.extract 1 a0.size) 10 ((bt (a0.extract 1 a0.size) 0) == 120)) else (none))) else (none)) = some r := h
  clear h
  by_cases c2 : 1 ≤ (a0.size : Int)
  · rw [if_pos c2] at H
    have c2b0 := eq_true c2
    have c2b1 : decide (1 ≤ (a0.size : Int)) = true := decide_eq_true c2
    clear c2
    have HC3 := Aside0.mk H
    clear H
    go_enter Tryz.func36, Tryz.ntmps36
    go_upto_region 3 with (fail)
    generalize hbd : a0.extract 1 a0.size = bd at HC3 ⊢
    go_cut [14] (fun v14 wc => ∃ (kq : Nat) (x14_2 : Bool), v14 = .bool x14_2 ∧ Aside0 (pleacherref04_counted.j0 kq bd 10 x14_2 = some r) ∧ Aside0 (kq ≤ k) ∧ Drawn0 w wc)
    case first =>
      have H := HC3.out
      clear HC3
      by_cases c4 : bd.toList = ([] : List UInt8)
      · rw [if_pos c4] at H
        have c4b0 : (bd.toList == ([] : List UInt8)) = true := beq_iff_eq.mpr c4
        have c4b1 : (bd.toList != ([] : List UInt8)) = false := bne_eq_false_iff_eq.mpr c4
        clear c4
        (first | rw [c4b0] | (simp only [i64_w, i32_w]; rw [c4b0]) | skip)
        have H' := Aside0.mk H
        clear H
        go_wp2
        go_meet
        case rel => exact ⟨_, (false), (by first | rfl | (simp; done) | (simp [*]; done)), H', ⟨by first | omega | exact Nat.le_refl _⟩, by repeat (first | exact Drawn0.refl _ | apply Drawn0.step)⟩
      · rw [if_neg c4] at H
        have c4b0 : (bd.toList == ([] : List UInt8)) = false := beq_eq_false_iff_ne.mpr c4
        have c4b1 : (bd.toList != ([] : List UInt8)) = true := bne_iff_ne.mpr c4
        (first | rw [c4b0] | (simp only [i64_w, i32_w]; rw [c4b0]) | skip)
        by_cases c5 : 0 < (bd.size : Int)
        · rw [if_pos c5] at H
          have c5b0 : decide (0 < (bd.size : Int)) = true := decide_eq_true c5
          have c5b1 : decide (0 < bd.size) = true := decide_eq_true (by omega)
          clear c5
          have H' := Aside0.mk H
          clear H
          have p6 : 0 ≤ (0 : Int) := (by omega)
          have q6 : 0 < bd.size := (by have : (0 : Int) < (bd.size : Int) := of_decide_eq_true (by first | (with_reducible assumption) | assumption); omega)
          have hx6 : ∀ h : 0 < bd.size, ((bd[0]'h).toNat : Int) = bt bd 0 := bt_at bd 0
          clear p6
          have qi6 : (0 < (bd.size : Int)) = True := eq_true (of_decide_eq_true (by first | (with_reducible assumption) | assumption))
          replace q6 := eq_true q6
          go_wp2
          go_meet
          case rel => exact ⟨_, (((bt bd 0) == 120)), (by first | rfl | (simp; done) | (simp [*]; done)), H', ⟨by first | omega | exact Nat.le_refl _⟩, by repeat (first | exact Drawn0.refl _ | apply Drawn0.step)⟩
        · rw [if_neg c5] at H
          exact absurd H (by simp)
    case rest =>
      clear HC3
      try clear c2
      try clear c2b0
      try clear c2b1
      try clear p2
      try clear c3
      try clear c4
      try clear c4b0
      try clear c4b1
      try clear c5
      try clear c5b0
      try clear c5b1
      try clear p6
      try clear q6
      try clear hx6
      try clear qi6
      try clear p6
      try clear q6
      obtain ⟨kq, x14_2, rfl, HA, HJ2, ⟨mc2, rfl⟩⟩ := hcut
      cases kq with
      | zero => exact absurd HA.out (by simp [pleacherref04_counted.j0])
      | succ kj2 =>
        have H := HA.out
        clear HA
        simp only [pleacherref04_counted.j0] at H
        have HC7 := Aside0.mk H
        clear H
        go_upto_if 14 with (fail)
        go_cut [0, 3] (fun v0 v3 wc => ∃ (kq : Nat) (x0_6 : ByteArray) (x3_6 : Int), v0 = .string x0_6 ∧ v3 = .int .i64 x3_6 ∧ Aside0 (pleacherref04_counted.j1 kq x0_6 x3_6 = some r) ∧ Aside0 (kq ≤ kj2) ∧ Drawn0 w wc)
        case first =>
          have H := HC7.out
          clear HC7
          by_cases c8 : x14_2 = true
          · subst c8
            have H1 : (if 1 ≤ (bd.size : Int) then (pleacherref04_counted.j1 kj2 (bd.extract 1 bd.size) 16) else (none)) = some r := by rw [if_pos rfl] at H; exact H
            clear H
            have H := H1
            clear H1
            by_cases c9 : 1 ≤ (bd.size : Int)
            · rw [if_pos c9] at H
              have c9b0 := eq_true c9
              have c9b1 : decide (1 ≤ (bd.size : Int)) = true := decide_eq_true c9
              clear c9
              have H' := Aside0.mk H
              clear H
              go_wp2
              go_meet
              case rel => exact ⟨_, (bd.extract 1 bd.size), (16), (by first | rfl | (simp; done) | (simp [*]; done)), (by first | rfl | (simp; done) | (simp [*]; done)), H', ⟨by have := HJ2.out; first | omega | exact Nat.le_refl _⟩, by repeat (first | exact Drawn0.refl _ | apply Drawn0.step)⟩
            · rw [if_neg c9] at H
              exact absurd H (by simp)
          · replace c8 := Bool.eq_false_iff.mpr c8
            subst c8
            have H1 : (pleacherref04_counted.j1 kj2 bd 10) = some r := by rw [if_neg (show ¬ (false = true) by decide)] at H; exact H
            clear H
            have H := H1
            clear H1
            have H' := Aside0.mk H
            clear H
            go_wp2
            go_meet
            case rel => exact ⟨_, (bd), (10), (by first | rfl | (simp; done) | (simp [*]; done)), (by first | rfl | (simp; done) | (simp [*]; done)), H', ⟨by have := HJ2.out; first | omega | exact Nat.le_refl _⟩, by repeat (first | exact Drawn0.refl _ | apply Drawn0.step)⟩
        case rest =>
          clear HC7
          try clear c2
          try clear c2b0
          try clear c2b1
          try clear p2
          try clear c3
          try clear c4
          try clear c4b0
          try clear c4b1
          try clear c5
          try clear c5b0
          try clear c5b1
          try clear p6
          try clear q6
          try clear hx6
          try clear qi6
          try clear c8
          try clear c9
          try clear c9b0
          try clear c9b1
          try clear p2
          try clear p6
          try clear q6
          obtain ⟨kq, x0_6, x3_6, rfl, rfl, HA, HJ6, ⟨mc6, rfl⟩⟩ := hcut
          cases kq with
          | zero => exact absurd HA.out (by simp [pleacherref04_counted.j1])
          | succ kj6 =>
            have H := HA.out
            clear HA
            simp only [pleacherref04_counted.j1] at H
            replace H := Option.bind_eq_some_iff.mp H
            obtain ⟨⟨t114, t115⟩, A100, H⟩ := H
            replace H : (if t115 = 0 then (if (x0_6.size : Int) > 8 then (some 0) else ((pleacherref02_IsChar.f (wrap64 (t114))).bind fun t116 => (if t116 = true then (some (wrap64 (t114))) else (some 0)))) else (some 0)) = some r := H
            have A10 := Aside0.mk A100
            clear A100
            by_cases c11 : t115 = 0
            · rw [if_pos c11] at H
              have c11b0 : (t115 == 0) = true := beq_iff_eq.mpr c11
              have c11b1 : (t115 != 0) = false := bne_eq_false_iff_eq.mpr c11
              clear c11
              by_cases c12 : (x0_6.size : Int) > 8
              · rw [if_pos c12] at H
                have c12b0 : decide (8 < (x0_6.size : Int)) = true := decide_eq_true c12
                have c12b1 : decide (8 < x0_6.size) = true := decide_eq_true (by omega)
                clear c12
                obtain rfl := Option.some.inj H
                go_wp2_with (first | ((with_reducible refine gate_callee (f := 59) rfl ?_); refine goesL_ (some 20) rfl rfl Tryz.func59 (by kernel_rfl) rfl #[.int .i64 x3_6, .string x0_6] rfl (by (try simp only [List.map_toArray, List.map_cons, List.map_nil]); first | done | rfl | (simp only [List.length_drop, List.length_take]; rfl)) ?_; (with_reducible refine (pleacherref03_Get.calls kj6 x3_6 x0_6 t114 t115 _ A10.out).mono ?_); rintro e w' ⟨rfl, ⟨nd, rfl⟩⟩; refine ⟨_, rfl, ?_⟩))
                go_ret
                exact ⟨by first | rfl | (simp; done) | (simp [*]; done), by repeat (first | exact Drawn0.refl _ | apply Drawn0.step)⟩
              · rw [if_neg c12] at H
                have c12b0 : decide (8 < (x0_6.size : Int)) = false := decide_eq_false c12
                have c12b1 : decide (8 < x0_6.size) = false := decide_eq_false (by omega)
                clear c12
                replace H := Option.bind_eq_some_iff.mp H
                obtain ⟨t116, A130, H⟩ := H
                replace H : (if t116 = true then (some (wrap64 (t114))) else (some 0)) = some r := H
                have A13 := Aside0.mk A130
                clear A130
                by_cases c14 : t116 = true
                · subst c14
                  have H1 : (some (wrap64 (t114))) = some r := by rw [if_pos rfl] at H; exact H
                  clear H
                  have H := H1
                  clear H1
                  obtain rfl := Option.some.inj H
                  go_wp2_with (first | ((with_reducible refine gate_callee (f := 59) rfl ?_); refine goesL_ (some 20) rfl rfl Tryz.func59 (by kernel_rfl) rfl #[.int .i64 x3_6, .string x0_6] rfl (by (try simp only [List.map_toArray, List.map_cons, List.map_nil]); first | done | rfl | (simp only [List.length_drop, List.length_take]; rfl)) ?_; (with_reducible refine (pleacherref03_Get.calls kj6 x3_6 x0_6 t114 t115 _ A10.out).mono ?_); rintro e w' ⟨rfl, ⟨nd, rfl⟩⟩; refine ⟨_, rfl, ?_⟩) | (go_at_call 29; (with_reducible refine (pleacherref02_IsChar.calls (wrap64 (t114)) true _ A13.out).mono ?_); rintro e w' ⟨rfl, ⟨nd, rfl⟩⟩))
                  go_ret
                  exact ⟨by first | rfl | (simp; done) | (simp [*]; done), by repeat (first | exact Drawn0.refl _ | apply Drawn0.step)⟩
                · replace c14 := Bool.eq_false_iff.mpr c14
                  subst c14
                  have H1 : (some 0) = some r := by rw [if_neg (show ¬ (false = true) by decide)] at H; exact H
                  clear H
                  have H := H1
                  clear H1
                  obtain rfl := Option.some.inj H
                  go_wp2_with (first | ((with_reducible refine gate_callee (f := 59) rfl ?_); refine goesL_ (some 20) rfl rfl Tryz.func59 (by kernel_rfl) rfl #[.int .i64 x3_6, .string x0_6] rfl (by (try simp only [List.map_toArray, List.map_cons, List.map_nil]); first | done | rfl | (simp only [List.length_drop, List.length_take]; rfl)) ?_; (with_reducible refine (pleacherref03_Get.calls kj6 x3_6 x0_6 t114 t115 _ A10.out).mono ?_); rintro e w' ⟨rfl, ⟨nd, rfl⟩⟩; refine ⟨_, rfl, ?_⟩) | (go_at_call 29; (with_reducible refine (pleacherref02_IsChar.calls (wrap64 (t114)) false _ A13.out).mono ?_); rintro e w' ⟨rfl, ⟨nd, rfl⟩⟩))
                  go_ret
                  exact ⟨by first | rfl | (simp; done) | (simp [*]; done), by repeat (first | exact Drawn0.refl _ | apply Drawn0.step)⟩
            · rw [if_neg c11] at H
              have c11b0 : (t115 == 0) = false := beq_eq_false_iff_ne.mpr c11
              have c11b1 : (t115 != 0) = true := bne_iff_ne.mpr c11
              obtain rfl := Option.some.inj H
              go_wp2_with (first | ((with_reducible refine gate_callee (f := 59) rfl ?_); refine goesL_ (some 20) rfl rfl Tryz.func59 (by kernel_rfl) rfl #[.int .i64 x3_6, .string x0_6] rfl (by (try simp only [List.map_toArray, List.map_cons, List.map_nil]); first | done | rfl | (simp only [List.length_drop, List.length_take]; rfl)) ?_; (with_reducible refine (pleacherref03_Get.calls kj6 x3_6 x0_6 t114 t115 _ A10.out).mono ?_); rintro e w' ⟨rfl, ⟨nd, rfl⟩⟩; refine ⟨_, rfl, ?_⟩))
              go_ret
              exact ⟨by first | rfl | (simp; done) | (simp [*]; done), by repeat (first | exact Drawn0.refl _ | apply Drawn0.step)⟩
  · rw [if_neg c2] at H
    exact absurd H (by simp)

end Go.Proofs.YtbcjhmeeonhmaaaGreatDoor.M
end

-- Laid by a program of this session for this claim.
section
namespace Go.Proofs.YtbcjhmeeonhmaaaGreatDoor.M
open Go.RowKit Go.Proofs.YtbcjhmeeonhmaaaGreatDoorW.PrintWords Go.Proofs.YtbcjhmeeonhmaaaGreatDoorW.PrintLast Go.Proofs.YtbcjhmeeonhmaaaGreatDoorW.PrintMore
attribute [local go_sem] max2_int min2_int max_two min_two max_three min_three max_four min_four   -- for this text's walks alone
set_option linter.unusedVariables false
set_option linter.unusedSimpArgs false

/-! ### pleacherref04_Ref: function 15 -/
mutual
def pleacherref04_Ref.j1 : Nat → ByteArray → Int → Option (Int × Int × Int)
  | 0, _, _ => none
  | k + 1, x0, x5 => if x5 < 2 then (pleacherref04_Ref.j2 k x0 x5 true) else (if x5 ≥ (x0.size : Int) then (pleacherref04_Ref.j2 k x0 x5 true) else (if 0 ≤ x5 then (if x5 < (x0.size : Int) then (if (bt x0 x5) = 59 then (if 0 < (x0.size : Int) then (pleacherref04_Ref.j2 k x0 x5 ((bt x0 0) != 38)) else (none)) else (pleacherref04_Ref.j2 k x0 x5 true)) else (none)) else (none)))
def pleacherref04_Ref.j2 : Nat → ByteArray → Int → Bool → Option (Int × Int × Int)
  | 0, _, _, _ => none
  | k + 1, x0, x5, x41 => if x41 = true then (some (0, 0, 40)) else (if 1 ≤ x5 then (if x5 ≤ (x0.size : Int) then ((pleacherref04_named.f (x0.extract 1 (x5 : Int).toNat)).bind fun t117 => (if 1 < (x0.size : Int) then (if (bt x0 1) = 35 then ((pleacherref04_counted.f k (x0.extract 1 (x5 : Int).toNat)).bind fun t118 => (if t118 = 0 then (some (0, 0, 40)) else (some (t118, wrap64 (x5 + 1), 0)))) else (if t117 = 0 then (some (0, 0, 40)) else (some (t117, wrap64 (x5 + 1), 0)))) else (none))) else (none)) else (none))
def pleacherref04_Ref.l0 : Nat → ByteArray → Int → Option (Int × Int × Int)
  | 0, _, _ => none
  | k + 1, x0, x5 => if x5 < (x0.size : Int) then (if x5 < 12 then (if 0 ≤ x5 then (if (bt x0 x5) = 59 then (pleacherref04_Ref.j1 k x0 x5) else (pleacherref04_Ref.l0 k x0 (wrap64 (x5 + 1)))) else (none)) else (pleacherref04_Ref.j1 k x0 x5)) else (pleacherref04_Ref.j1 k x0 x5)
end
def pleacherref04_Ref.f (k : Nat) (a0 : ByteArray) : Option (Int × Int × Int) := pleacherref04_Ref.l0 k a0 0
set_option maxHeartbeats 8000000 in
set_option maxRecDepth 100000 in
theorem pleacherref04_Ref.calls (k : Nat) (a0 : ByteArray) (r1 : Int) (r2 : Int) (r3 : Int) (w : World) (h : pleacherref04_Ref.f k a0 = some (r1, r2, r3)) :
    Calls Tryz.prog 15 #[.string a0] w fun e w' => e = .returned (.tuple #[.int .i64 r1, .int .i64 r2, .int .i64 r3]) ∧ Drawn0 w w' := by
  have H : (pleacherref04_Ref.l0 k a0 0) = some (r1, r2, r3) := h
  clear h
  have HC2 := Aside0.mk H
  clear H
  go_enter Tryz.func15, Tryz.ntmps15
  go_upto_block 0 with (fail)
  go_cut [5] (fun v5 wc => ∃ (kq : Nat) (x5_1 : Int), v5 = .int .i64 x5_1 ∧ Aside0 (pleacherref04_Ref.j1 kq a0 x5_1 = some (r1, r2, r3)) ∧ Aside0 (kq ≤ k) ∧ Drawn0 w wc)
  case first =>
    have H := HC2.out
    clear HC2
    have H' := Aside0.mk H
    clear H
    go_wp2
    go_loopg [5] k (fun kq v5 w' => ∃ (x5_1 : Int), v5 = .int .i64 x5_1 ∧ Aside0 (pleacherref04_Ref.l0 kq a0 x5_1 = some (r1, r2, r3)) ∧ Aside0 (kq ≤ k) ∧ Drawn0 w w')
    case atStart => exact ⟨(0), (by first | rfl | (simp; done) | (simp [*]; done)), H', ⟨Nat.le_refl _⟩, by repeat (first | exact Drawn0.refl _ | apply Drawn0.step)⟩
    case round =>
      clear H'
      try clear c1
      try clear p2
      obtain ⟨x5_1, rfl, HA, HK1, ⟨m1, rfl⟩⟩ := hrel
      cases gk with
      | zero => exact absurd HA.out (by simp [pleacherref04_Ref.l0])
      | succ k1 =>
        have H := HA.out
        clear HA
        simp only [pleacherref04_Ref.l0] at H
        by_cases c3 : x5_1 < (a0.size : Int)
        · rw [if_pos c3] at H
          have c3b0 : decide (x5_1 < (a0.size : Int)) = true := decide_eq_true c3
          clear c3
          (first | rw [c3b0] | (simp only [i64_w, i32_w]; rw [c3b0]) | skip)
          by_cases c4 : x5_1 < 12
          · rw [if_pos c4] at H
            have c4b0 : decide (x5_1 < 12) = true := decide_eq_true c4
            clear c4
            by_cases c5 : 0 ≤ x5_1
            · rw [if_pos c5] at H
              have c5b0 : decide (0 ≤ x5_1) = true := decide_eq_true c5
              clear c5
              by_cases c7 : (bt a0 x5_1) = 59
              · rw [if_pos c7] at H
                have c7b0 : ((bt a0 x5_1) == 59) = true := beq_iff_eq.mpr c7
                have c7b1 : ((bt a0 x5_1) != 59) = false := bne_eq_false_iff_eq.mpr c7
                clear c7
                have H' := Aside0.mk H
                clear H
                have p6 : 0 ≤ (x5_1 : Int) := of_decide_eq_true (by first | (with_reducible assumption) | assumption)
                have q6 : x5_1 < (a0.size : Int) := of_decide_eq_true (by first | (with_reducible assumption) | assumption)
                have hx6 := bt_at a0 x5_1
                replace p6 := eq_true p6
                replace q6 := eq_true q6
                go_wp2
                go_meet
                case rel => exact ⟨_, (x5_1), (by first | rfl | (simp; done) | (simp [*]; done)), H', ⟨by have := HK1.out; first | omega | exact Nat.le_refl _⟩, by repeat (first | exact Drawn0.refl _ | apply Drawn0.step)⟩
              · rw [if_neg c7] at H
                have c7b0 : ((bt a0 x5_1) == 59) = false := beq_eq_false_iff_ne.mpr c7
                have c7b1 : ((bt a0 x5_1) != 59) = true := bne_iff_ne.mpr c7
                have H' := Aside0.mk H
                clear H
                have p6 : 0 ≤ (x5_1 : Int) := of_decide_eq_true (by first | (with_reducible assumption) | assumption)
                have q6 : x5_1 < (a0.size : Int) := of_decide_eq_true (by first | (with_reducible assumption) | assumption)
                have hx6 := bt_at a0 x5_1
                replace p6 := eq_true p6
                replace q6 := eq_true q6
                go_wp2
                go_roundg k1
                case measure => have := HK1.out; omega
                case rel => exact ⟨(wrap64 (x5_1 + 1)), (by first | rfl | (simp; done) | (simp [*]; done)), H', ⟨by have := HK1.out; omega⟩, by repeat (first | exact Drawn0.refl _ | apply Drawn0.step)⟩
            · rw [if_neg c5] at H
              exact absurd H (by simp)
          · rw [if_neg c4] at H
            have c4b0 : decide (x5_1 < 12) = false := decide_eq_false c4
            clear c4
            have H' := Aside0.mk H
            clear H
            go_wp2
            go_meet
            case rel => exact ⟨_, (x5_1), (by first | rfl | (simp; done) | (simp [*]; done)), H', ⟨by have := HK1.out; first | omega | exact Nat.le_refl _⟩, by repeat (first | exact Drawn0.refl _ | apply Drawn0.step)⟩
        · rw [if_neg c3] at H
          have c3b0 : decide (x5_1 < (a0.size : Int)) = false := decide_eq_false c3
          clear c3
          (first | rw [c3b0] | (simp only [i64_w, i32_w]; rw [c3b0]) | skip)
          have H' := Aside0.mk H
          clear H
          go_wp2
          go_meet
          case rel => exact ⟨_, (x5_1), (by first | rfl | (simp; done) | (simp [*]; done)), H', ⟨by have := HK1.out; first | omega | exact Nat.le_refl _⟩, by repeat (first | exact Drawn0.refl _ | apply Drawn0.step)⟩
  case rest =>
    clear HC2
    try clear c1
    try clear p2
    try clear c3
    try clear c3b0
    try clear c4
    try clear c4b0
    try clear c5
    try clear c5b0
    try clear p6
    try clear q6
    try clear hx6
    try clear c7
    try clear c7b0
    try clear c7b1
    try clear p2
    try clear p6
    try clear q6
    obtain ⟨kq, x5_1, rfl, HA, HJ1, ⟨mc1, rfl⟩⟩ := hcut
    cases kq with
    | zero => exact absurd HA.out (by simp [pleacherref04_Ref.j1])
    | succ kj1 =>
      have H := HA.out
      clear HA
      simp only [pleacherref04_Ref.j1] at H
      have HC8 := Aside0.mk H
      clear H
      go_upto_region 4 with (fail)
      go_cut [41] (fun v41 wc => ∃ (kq : Nat) (x41_7 : Bool), v41 = .bool x41_7 ∧ Aside0 (pleacherref04_Ref.j2 kq a0 x5_1 x41_7 = some (r1, r2, r3)) ∧ Aside0 (kq ≤ kj1) ∧ Drawn0 w wc)
      case first =>
        have H := HC8.out
        clear HC8
        by_cases c9 : x5_1 < 2
        · rw [if_pos c9] at H
          have c9b0 : decide (x5_1 < 2) = true := decide_eq_true c9
          clear c9
          (first | rw [c9b0] | (simp only [i64_w, i32_w]; rw [c9b0]) | skip)
          have H' := Aside0.mk H
          clear H
          go_wp2
          go_meet
          case rel => exact ⟨_, (true), (by first | rfl | (simp; done) | (simp [*]; done)), H', ⟨by have := HJ1.out; first | omega | exact Nat.le_refl _⟩, by repeat (first | exact Drawn0.refl _ | apply Drawn0.step)⟩
        · rw [if_neg c9] at H
          have c9b0 : decide (x5_1 < 2) = false := decide_eq_false c9
          clear c9
          (first | rw [c9b0] | (simp only [i64_w, i32_w]; rw [c9b0]) | skip)
          by_cases c10 : x5_1 ≥ (a0.size : Int)
          · rw [if_pos c10] at H
            have c10b0 : decide ((a0.size : Int) ≤ x5_1) = true := decide_eq_true c10
            clear c10
            have H' := Aside0.mk H
            clear H
            go_wp2
            go_meet
            case rel => exact ⟨_, (true), (by first | rfl | (simp; done) | (simp [*]; done)), H', ⟨by have := HJ1.out; first | omega | exact Nat.le_refl _⟩, by repeat (first | exact Drawn0.refl _ | apply Drawn0.step)⟩
          · rw [if_neg c10] at H
            have c10b0 : decide ((a0.size : Int) ≤ x5_1) = false := decide_eq_false c10
            clear c10
            by_cases c11 : 0 ≤ x5_1
            · rw [if_pos c11] at H
              have c11b0 : decide (0 ≤ x5_1) = true := decide_eq_true c11
              clear c11
              by_cases c12 : x5_1 < (a0.size : Int)
              · rw [if_pos c12] at H
                have c12b0 : decide (x5_1 < (a0.size : Int)) = true := decide_eq_true c12
                clear c12
                by_cases c14 : (bt a0 x5_1) = 59
                · rw [if_pos c14] at H
                  have c14b0 : ((bt a0 x5_1) == 59) = true := beq_iff_eq.mpr c14
                  have c14b1 : ((bt a0 x5_1) != 59) = false := bne_eq_false_iff_eq.mpr c14
                  clear c14
                  by_cases c15 : 0 < (a0.size : Int)
                  · rw [if_pos c15] at H
                    have c15b0 : decide (0 < (a0.size : Int)) = true := decide_eq_true c15
                    have c15b1 : decide (0 < a0.size) = true := decide_eq_true (by omega)
                    clear c15
                    have H' := Aside0.mk H
                    clear H
                    have p13 : 0 ≤ (x5_1 : Int) := of_decide_eq_true (by first | (with_reducible assumption) | assumption)
                    have q13 : x5_1 < (a0.size : Int) := of_decide_eq_true (by first | (with_reducible assumption) | assumption)
                    have hx13 := bt_at a0 x5_1
                    replace p13 := eq_true p13
                    replace q13 := eq_true q13
                    have p16 : 0 ≤ (0 : Int) := (by omega)
                    have q16 : 0 < a0.size := (by have : (0 : Int) < (a0.size : Int) := of_decide_eq_true (by first | (with_reducible assumption) | assumption); omega)
                    have hx16 : ∀ h : 0 < a0.size, ((a0[0]'h).toNat : Int) = bt a0 0 := bt_at a0 0
                    clear p16
                    have qi16 : (0 < (a0.size : Int)) = True := eq_true (of_decide_eq_true (by first | (with_reducible assumption) | assumption))
                    replace q16 := eq_true q16
                    go_wp2
                    go_meet
                    case rel => exact ⟨_, (((bt a0 0) != 38)), (by first | rfl | (simp; done) | (simp [*]; done)), H', ⟨by have := HJ1.out; first | omega | exact Nat.le_refl _⟩, by repeat (first | exact Drawn0.refl _ | apply Drawn0.step)⟩
                  · rw [if_neg c15] at H
                    exact absurd H (by simp)
                · rw [if_neg c14] at H
                  have c14b0 : ((bt a0 x5_1) == 59) = false := beq_eq_false_iff_ne.mpr c14
                  have c14b1 : ((bt a0 x5_1) != 59) = true := bne_iff_ne.mpr c14
                  have H' := Aside0.mk H
                  clear H
                  have p13 : 0 ≤ (x5_1 : Int) := of_decide_eq_true (by first | (with_reducible assumption) | assumption)
                  have q13 : x5_1 < (a0.size : Int) := of_decide_eq_true (by first | (with_reducible assumption) | assumption)
                  have hx13 := bt_at a0 x5_1
                  replace p13 := eq_true p13
                  replace q13 := eq_true q13
                  go_wp2
                  go_meet
                  case rel => exact ⟨_, (true), (by first | rfl | (simp; done) | (simp [*]; done)), H', ⟨by have := HJ1.out; first | omega | exact Nat.le_refl _⟩, by repeat (first | exact Drawn0.refl _ | apply Drawn0.step)⟩
              · rw [if_neg c12] at H
                exact absurd H (by simp)
            · rw [if_neg c11] at H
              exact absurd H (by simp)
      case rest =>
        clear HC8
        try clear c1
        try clear p1
        try clear q1
        try clear hx1
        try clear qi1
        try clear p2
        try clear c3
        try clear c3b0
        try clear c4
        try clear c4b0
        try clear c5
        try clear c5b0
        try clear p6
        try clear q6
        try clear hx6
        try clear c7
        try clear c7b0
        try clear c7b1
        try clear c9
        try clear c9b0
        try clear c10
        try clear c10b0
        try clear c11
        try clear c11b0
        try clear c12
        try clear c12b0
        try clear p13
        try clear q13
        try clear hx13
        try clear c14
        try clear c14b0
        try clear c14b1
        try clear c15
        try clear c15b0
        try clear c15b1
        try clear p16
        try clear q16
        try clear hx16
        try clear qi16
        try clear p13
        try clear p16
        try clear p2
        try clear p6
        try clear q13
        try clear q16
        try clear q6
        obtain ⟨kq, x41_7, rfl, HA, HJ7, ⟨mc7, rfl⟩⟩ := hcut
        cases kq with
        | zero => exact absurd HA.out (by simp [pleacherref04_Ref.j2])
        | succ kj7 =>
          have H := HA.out
          clear HA
          simp only [pleacherref04_Ref.j2] at H
          by_cases c17 : x41_7 = true
          · subst c17
            have H1 : (some (0, 0, 40)) = some (r1, r2, r3) := by rw [if_pos rfl] at H; exact H
            clear H
            have H := H1
            clear H1
            simp only [Option.some.injEq, Prod.mk.injEq] at H
            obtain ⟨rfl, rfl, rfl⟩ := H
            go_wp2
            go_ret3
            exact ⟨by first | rfl | (simp; done) | (simp [*]; done), by repeat (first | exact Drawn0.refl _ | apply Drawn0.step)⟩
          · replace c17 := Bool.eq_false_iff.mpr c17
            subst c17
            have H1 : (if 1 ≤ x5_1 then (if x5_1 ≤ (a0.size : Int) then ((pleacherref04_named.f (a0.extract 1 (x5_1 : Int).toNat)).bind fun t117 => (if 1 < (a0.size : Int) then (if (bt a0 1) = 35 then ((pleacherref04_counted.f kj7 (a0.extract 1 (x5_1 : Int).toNat)).bind fun t118 => (if t118 = 0 then (some (0, 0, 40)) else (some (t118, wrap64 (x5_1 + 1), 0)))) else (if t117 = 0 then (some (0, 0, 40)) else (some (t117, wrap64 (x5_1 + 1), 0)))) else (none))) else (none)) else (none)) = some (r1, r2, r3) := by rw [if_neg (show ¬ (false = true) by decide)] at H; exact H
            clear H
            have H := H1
            clear H1
            by_cases c18 : 1 ≤ x5_1
            · rw [if_pos c18] at H
              have c18b0 := eq_true c18
              have c18b1 : decide (1 ≤ x5_1) = true := decide_eq_true c18
              clear c18
              by_cases c19 : x5_1 ≤ (a0.size : Int)
              · rw [if_pos c19] at H
                have c19b0 := eq_true c19
                have c19b1 : decide (x5_1 ≤ (a0.size : Int)) = true := decide_eq_true c19
                clear c19
                replace H := Option.bind_eq_some_iff.mp H
                obtain ⟨t117, A200, H⟩ := H
                replace H : (if 1 < (a0.size : Int) then (if (bt a0 1) = 35 then ((pleacherref04_counted.f kj7 (a0.extract 1 (x5_1 : Int).toNat)).bind fun t118 => (if t118 = 0 then (some (0, 0, 40)) else (some (t118, wrap64 (x5_1 + 1), 0)))) else (if t117 = 0 then (some (0, 0, 40)) else (some (t117, wrap64 (x5_1 + 1), 0)))) else (none)) = some (r1, r2, r3) := H
                have A20 := Aside0.mk A200
                clear A200
                by_cases c21 : 1 < (a0.size : Int)
                · rw [if_pos c21] at H
                  have c21b0 : decide (1 < (a0.size : Int)) = true := decide_eq_true c21
                  have c21b1 : decide (1 < a0.size) = true := decide_eq_true (by omega)
                  clear c21
                  by_cases c23 : (bt a0 1) = 35
                  · rw [if_pos c23] at H
                    have c23b0 : ((bt a0 1) == 35) = true := beq_iff_eq.mpr c23
                    have c23b1 : ((bt a0 1) != 35) = false := bne_eq_false_iff_eq.mpr c23
                    clear c23
                    have c24b0 := eq_true (of_decide_eq_true (by first | (with_reducible assumption) | assumption) : 1 ≤ x5_1)
                    have c25b0 := eq_true (of_decide_eq_true (by first | (with_reducible assumption) | assumption) : x5_1 ≤ (a0.size : Int))
                    replace H := Option.bind_eq_some_iff.mp H
                    obtain ⟨t118, A260, H⟩ := H
                    replace H : (if t118 = 0 then (some (0, 0, 40)) else (some (t118, wrap64 (x5_1 + 1), 0))) = some (r1, r2, r3) := H
                    have A26 := Aside0.mk A260
                    clear A260
                    by_cases c27 : t118 = 0
                    · rw [if_pos c27] at H
                      have c27b0 : (t118 == 0) = true := beq_iff_eq.mpr c27
                      have c27b1 : (t118 != 0) = false := bne_eq_false_iff_eq.mpr c27
                      clear c27
                      simp only [Option.some.injEq, Prod.mk.injEq] at H
                      obtain ⟨rfl, rfl, rfl⟩ := H
                      go_wp2_with (first | ((with_reducible refine gate_callee (f := 35) rfl ?_); refine goesL_ (some 45) rfl rfl Tryz.func35 (by kernel_rfl) rfl #[.string (a0.extract 1 (x5_1 : Int).toNat)] rfl (by (try simp only [List.map_toArray, List.map_cons, List.map_nil]); first | done | rfl | (simp only [List.length_drop, List.length_take]; rfl)) ?_; (with_reducible refine (pleacherref04_named.calls (a0.extract 1 (x5_1 : Int).toNat) t117 _ A20.out).mono ?_); rintro e w' ⟨rfl, ⟨nd, rfl⟩⟩; refine ⟨_, rfl, ?_⟩; have p22 : 0 ≤ (1 : Int) := (by omega); have q22 : 1 < a0.size := (by have : (1 : Int) < (a0.size : Int) := of_decide_eq_true (by first | (with_reducible assumption) | assumption); omega); have hx22 : ∀ h : 1 < a0.size, ((a0[1]'h).toNat : Int) = bt a0 1 := bt_at a0 1; clear p22; have qi22 : (1 < (a0.size : Int)) = True := eq_true (of_decide_eq_true (by first | (with_reducible assumption) | assumption)); replace q22 := eq_true q22) | ((with_reducible refine gate_callee (f := 36) rfl ?_); refine goesL_ (some 52) rfl rfl Tryz.func36 (by kernel_rfl) rfl #[.string (a0.extract 1 (x5_1 : Int).toNat)] rfl (by (try simp only [List.map_toArray, List.map_cons, List.map_nil]); first | done | rfl | (simp only [List.length_drop, List.length_take]; rfl)) ?_; (with_reducible refine (pleacherref04_counted.calls kj7 (a0.extract 1 (x5_1 : Int).toNat) t118 _ A26.out).mono ?_); rintro e w' ⟨rfl, ⟨nd, rfl⟩⟩; refine ⟨_, rfl, ?_⟩))
                      go_ret3
                      exact ⟨by first | rfl | (simp; done) | (simp [*]; done), by repeat (first | exact Drawn0.refl _ | apply Drawn0.step)⟩
                    · rw [if_neg c27] at H
                      have c27b0 : (t118 == 0) = false := beq_eq_false_iff_ne.mpr c27
                      have c27b1 : (t118 != 0) = true := bne_iff_ne.mpr c27
                      simp only [Option.some.injEq, Prod.mk.injEq] at H
                      obtain ⟨rfl, rfl, rfl⟩ := H
                      go_wp2_with (first | ((with_reducible refine gate_callee (f := 35) rfl ?_); refine goesL_ (some 45) rfl rfl Tryz.func35 (by kernel_rfl) rfl #[.string (a0.extract 1 (x5_1 : Int).toNat)] rfl (by (try simp only [List.map_toArray, List.map_cons, List.map_nil]); first | done | rfl | (simp only [List.length_drop, List.length_take]; rfl)) ?_; (with_reducible refine (pleacherref04_named.calls (a0.extract 1 (x5_1 : Int).toNat) t117 _ A20.out).mono ?_); rintro e w' ⟨rfl, ⟨nd, rfl⟩⟩; refine ⟨_, rfl, ?_⟩; have p22 : 0 ≤ (1 : Int) := (by omega); have q22 : 1 < a0.size := (by have : (1 : Int) < (a0.size : Int) := of_decide_eq_true (by first | (with_reducible assumption) | assumption); omega); have hx22 : ∀ h : 1 < a0.size, ((a0[1]'h).toNat : Int) = bt a0 1 := bt_at a0 1; clear p22; have qi22 : (1 < (a0.size : Int)) = True := eq_true (of_decide_eq_true (by first | (with_reducible assumption) | assumption)); replace q22 := eq_true q22) | ((with_reducible refine gate_callee (f := 36) rfl ?_); refine goesL_ (some 52) rfl rfl Tryz.func36 (by kernel_rfl) rfl #[.string (a0.extract 1 (x5_1 : Int).toNat)] rfl (by (try simp only [List.map_toArray, List.map_cons, List.map_nil]); first | done | rfl | (simp only [List.length_drop, List.length_take]; rfl)) ?_; (with_reducible refine (pleacherref04_counted.calls kj7 (a0.extract 1 (x5_1 : Int).toNat) t118 _ A26.out).mono ?_); rintro e w' ⟨rfl, ⟨nd, rfl⟩⟩; refine ⟨_, rfl, ?_⟩))
                      go_ret3
                      exact ⟨by first | rfl | (simp; done) | (simp [*]; done), by repeat (first | exact Drawn0.refl _ | apply Drawn0.step)⟩
                  · rw [if_neg c23] at H
                    have c23b0 : ((bt a0 1) == 35) = false := beq_eq_false_iff_ne.mpr c23
                    have c23b1 : ((bt a0 1) != 35) = true := bne_iff_ne.mpr c23
                    by_cases c28 : t117 = 0
                    · rw [if_pos c28] at H
                      have c28b0 : (t117 == 0) = true := beq_iff_eq.mpr c28
                      have c28b1 : (t117 != 0) = false := bne_eq_false_iff_eq.mpr c28
                      clear c28
                      simp only [Option.some.injEq, Prod.mk.injEq] at H
                      obtain ⟨rfl, rfl, rfl⟩ := H
                      go_wp2_with (first | ((with_reducible refine gate_callee (f := 35) rfl ?_); refine goesL_ (some 45) rfl rfl Tryz.func35 (by kernel_rfl) rfl #[.string (a0.extract 1 (x5_1 : Int).toNat)] rfl (by (try simp only [List.map_toArray, List.map_cons, List.map_nil]); first | done | rfl | (simp only [List.length_drop, List.length_take]; rfl)) ?_; (with_reducible refine (pleacherref04_named.calls (a0.extract 1 (x5_1 : Int).toNat) t117 _ A20.out).mono ?_); rintro e w' ⟨rfl, ⟨nd, rfl⟩⟩; refine ⟨_, rfl, ?_⟩; have p22 : 0 ≤ (1 : Int) := (by omega); have q22 : 1 < a0.size := (by have : (1 : Int) < (a0.size : Int) := of_decide_eq_true (by first | (with_reducible assumption) | assumption); omega); have hx22 : ∀ h : 1 < a0.size, ((a0[1]'h).toNat : Int) = bt a0 1 := bt_at a0 1; clear p22; have qi22 : (1 < (a0.size : Int)) = True := eq_true (of_decide_eq_true (by first | (with_reducible assumption) | assumption)); replace q22 := eq_true q22))
                      go_ret3
                      exact ⟨by first | rfl | (simp; done) | (simp [*]; done), by repeat (first | exact Drawn0.refl _ | apply Drawn0.step)⟩
                    · rw [if_neg c28] at H
                      have c28b0 : (t117 == 0) = false := beq_eq_false_iff_ne.mpr c28
                      have c28b1 : (t117 != 0) = true := bne_iff_ne.mpr c28
                      simp only [Option.some.injEq, Prod.mk.injEq] at H
                      obtain ⟨rfl, rfl, rfl⟩ := H
                      go_wp2_with (first | ((with_reducible refine gate_callee (f := 35) rfl ?_); refine goesL_ (some 45) rfl rfl Tryz.func35 (by kernel_rfl) rfl #[.string (a0.extract 1 (x5_1 : Int).toNat)] rfl (by (try simp only [List.map_toArray, List.map_cons, List.map_nil]); first | done | rfl | (simp only [List.length_drop, List.length_take]; rfl)) ?_; (with_reducible refine (pleacherref04_named.calls (a0.extract 1 (x5_1 : Int).toNat) t117 _ A20.out).mono ?_); rintro e w' ⟨rfl, ⟨nd, rfl⟩⟩; refine ⟨_, rfl, ?_⟩; have p22 : 0 ≤ (1 : Int) := (by omega); have q22 : 1 < a0.size := (by have : (1 : Int) < (a0.size : Int) := of_decide_eq_true (by first | (with_reducible assumption) | assumption); omega); have hx22 : ∀ h : 1 < a0.size, ((a0[1]'h).toNat : Int) = bt a0 1 := bt_at a0 1; clear p22; have qi22 : (1 < (a0.size : Int)) = True := eq_true (of_decide_eq_true (by first | (with_reducible assumption) | assumption)); replace q22 := eq_true q22))
                      go_ret3
                      exact ⟨by first | rfl | (simp; done) | (simp [*]; done), by repeat (first | exact Drawn0.refl _ | apply Drawn0.step)⟩
                · rw [if_neg c21] at H
                  exact absurd H (by simp)
              · rw [if_neg c19] at H
                exact absurd H (by simp)
            · rw [if_neg c18] at H
              exact absurd H (by simp)

end Go.Proofs.YtbcjhmeeonhmaaaGreatDoor.M
end

-- Laid by a program of this session for this claim.
section
namespace Go.Proofs.YtbcjhmeeonhmaaaGreatDoor.M
open Go.RowKit Go.Proofs.YtbcjhmeeonhmaaaGreatDoorW.PrintWords Go.Proofs.YtbcjhmeeonhmaaaGreatDoorW.PrintLast Go.Proofs.YtbcjhmeeonhmaaaGreatDoorW.PrintMore
attribute [local go_sem] max2_int min2_int max_two min_two max_three min_three max_four min_four   -- for this text's walks alone
set_option linter.unusedVariables false
set_option linter.unusedSimpArgs false

/-! ### pleacherref04_Get: function 13 -/
mutual
def pleacherref04_Get.l0 : Nat → ByteArray → ByteArray → Int → Option (ByteArray × Int × Int)
  | 0, _, _, _ => none
  | k + 1, x0, x5, x6 => if x6 < (x0.size : Int) then (if 0 ≤ x6 then (if x6 ≤ (x0.size : Int) then ((pleacherref02_Decode.f k (x0.extract (x6 : Int).toNat x0.size)).bind fun bt146 => (if bt146.2.2 = 0 then (if bt146.1 = 60 then (pleacherref04_Get.j1 k x0 x5 x6 bt146.1 bt146.2.1 true) else ((pleacherref02_IsChar.f bt146.1).bind fun t149 => (pleacherref04_Get.j1 k x0 x5 x6 bt146.1 bt146.2.1 (!t149)))) else (some ((⟨#[]⟩ : ByteArray), x6, 20)))) else (none)) else (none)) else (some (x5, 0, 0))
def pleacherref04_Get.j1 : Nat → ByteArray → ByteArray → Int → Int → Int → Bool → Option (ByteArray × Int × Int)
  | 0, _, _, _, _, _, _ => none
  | k + 1, x0, x5, x6, x7, x8, x35 => if x35 = true then (some ((⟨#[]⟩ : ByteArray), x6, 40)) else (if 0 ≤ x6 then (if x6 ≤ (wrap64 (x6 + x8)) then (if (wrap64 (x6 + x8)) ≤ (x0.size : Int) then (if x7 = 38 then (if x6 ≤ (x0.size : Int) then ((pleacherref04_Ref.f k (x0.extract (x6 : Int).toNat x0.size)).bind fun bt150 => (if bt150.2.2 = 0 then ((pleacherref02_Encode.f bt150.1).bind fun bt153 => (if x5.size + bt153.1.size ≤ 9223372036854775807 then (pleacherref04_Get.l0 k x0 (x5 ++ bt153.1) (wrap64 (x6 + bt150.2.1))) else (none))) else (some ((⟨#[]⟩ : ByteArray), x6, 40)))) else (none)) else (if x7 = 13 then (if (wrap64 (x6 + 1)) = (x0.size : Int) then (if x5.size + 1 ≤ 9223372036854775807 then (pleacherref04_Get.l0 k x0 (x5 ++ (⟨#[10]⟩ : ByteArray)) (wrap64 (x6 + x8))) else (none)) else (if 0 ≤ (wrap64 (x6 + 1)) then (if (wrap64 (x6 + 1)) < (x0.size : Int) then (if (bt x0 (wrap64 (x6 + 1))) = 10 then (if x5.size + 0 ≤ 9223372036854775807 then (pleacherref04_Get.l0 k x0 (x5 ++ (⟨#[]⟩ : ByteArray)) (wrap64 (x6 + x8))) else (none)) else (if x5.size + 1 ≤ 9223372036854775807 then (pleacherref04_Get.l0 k x0 (x5 ++ (⟨#[10]⟩ : ByteArray)) (wrap64 (x6 + x8))) else (none))) else (none)) else (none))) else (if x5.size + (x0.extract (x6 : Int).toNat ((wrap64 (x6 + x8)) : Int).toNat).size ≤ 9223372036854775807 then (pleacherref04_Get.l0 k x0 (x5 ++ (x0.extract (x6 : Int).toNat ((wrap64 (x6 + x8)) : Int).toNat)) (wrap64 (x6 + x8))) else (none)))) else (none)) else (none)) else (none))
end
def pleacherref04_Get.f (k : Nat) (a0 : ByteArray) : Option (ByteArray × Int × Int) := pleacherref04_Get.l0 k a0 (⟨#[]⟩ : ByteArray) 0
set_option maxHeartbeats 8000000 in
set_option maxRecDepth 100000 in
theorem pleacherref04_Get.calls (k : Nat) (a0 : ByteArray) (r1 : ByteArray) (r2 : Int) (r3 : Int) (w : World) (h : pleacherref04_Get.f k a0 = some (r1, r2, r3)) :
    Calls Tryz.prog 13 #[.string a0] w fun e w' => e = .returned (.tuple #[.string r1, .int .i64 r2, .int .i64 r3]) ∧ Below w.heap.size w w' := by
  have HB := Aside0.mk (Below.refl w.heap.size w)
  have H : (pleacherref04_Get.l0 k a0 (⟨#[]⟩ : ByteArray) 0) = some (r1, r2, r3) := h
  clear h
  have H' := Aside0.mk H
  clear H
  go_enter Tryz.func13, Tryz.ntmps13
  go_wp2
  go_loopg [5, 6] k (fun kq v5 v6 w' => ∃ (x5_1 : ByteArray) (x6_1 : Int), v5 = .string x5_1 ∧ v6 = .int .i64 x6_1 ∧ Aside0 (pleacherref04_Get.l0 kq a0 x5_1 x6_1 = some (r1, r2, r3)) ∧ Aside0 (kq ≤ k) ∧ Aside0 (Below w.heap.size w w'))
  case atStart => exact ⟨((⟨#[]⟩ : ByteArray)), (0), (by first | rfl | (simp; done) | (simp [*]; done)), (by first | rfl | (simp; done) | (simp [*]; done)), H', ⟨Nat.le_refl _⟩, ⟨by repeat (first | (with_reducible first | exact HB.out | apply below_alloc | apply pw_below_drewN | apply below_drew1) | exact HB.out)⟩⟩
  case round =>
    clear H'
    try clear c1
    obtain ⟨x5_1, x6_1, rfl, rfl, HA, HK1, HB⟩ := hrel
    cases gk with
    | zero => exact absurd HA.out (by simp [pleacherref04_Get.l0])
    | succ k1 =>
      have H := HA.out
      clear HA
      simp only [pleacherref04_Get.l0] at H
      by_cases c2 : x6_1 < (a0.size : Int)
      · rw [if_pos c2] at H
        have c2b0 : decide (x6_1 < (a0.size : Int)) = true := decide_eq_true c2
        clear c2
        by_cases c3 : 0 ≤ x6_1
        · rw [if_pos c3] at H
          have c3b0 := eq_true c3
          have c3b1 : decide (0 ≤ x6_1) = true := decide_eq_true c3
          clear c3
          by_cases c4 : x6_1 ≤ (a0.size : Int)
          · rw [if_pos c4] at H
            have c4b0 := eq_true c4
            have c4b1 : decide (x6_1 ≤ (a0.size : Int)) = true := decide_eq_true c4
            clear c4
            replace H := Option.bind_eq_some_iff.mp H
            obtain ⟨⟨t146, t147, t148⟩, A50, H⟩ := H
            replace H : (if t148 = 0 then (if t146 = 60 then (pleacherref04_Get.j1 k1 a0 x5_1 x6_1 t146 t147 true) else ((pleacherref02_IsChar.f t146).bind fun t149 => (pleacherref04_Get.j1 k1 a0 x5_1 x6_1 t146 t147 (!t149)))) else (some ((⟨#[]⟩ : ByteArray), x6_1, 20))) = some (r1, r2, r3) := H
            have A5 := Aside0.mk A50
            clear A50
            by_cases c6 : t148 = 0
            · rw [if_pos c6] at H
              have c6b0 : (t148 == 0) = true := beq_iff_eq.mpr c6
              have c6b1 : (t148 != 0) = false := bne_eq_false_iff_eq.mpr c6
              clear c6
              have HC7 := Aside0.mk H
              clear H
              go_upto_region 7 with (first | ((with_reducible refine gate_callee (f := 28) rfl ?_); refine goesL_ (some 22) rfl rfl Tryz.func28 (by kernel_rfl) rfl #[.string (a0.extract (x6_1 : Int).toNat a0.size)] rfl (by (try simp only [List.map_toArray, List.map_cons, List.map_nil]); first | done | rfl | (simp only [List.length_drop, List.length_take]; rfl)) ?_; (with_reducible refine (pleacherref02_Decode.calls k1 (a0.extract (x6_1 : Int).toNat a0.size) t146 t147 t148 _ A5.out).mono ?_); rintro e w8 ⟨rfl, hb⟩; refine ⟨_, rfl, ?_⟩; have n0_ := Aside0.mk (below_step (by repeat (first | (with_reducible first | exact HB.out | apply below_alloc | apply pw_below_drewN | apply below_drew1) | exact HB.out)) hb); clear HB; have HB := n0_; clear n0_; (try clear hb); (try clear hb2); (try clear hk); (try clear hi)))
              (try simp only [Act.put, List.setIfInBounds_toArray, List.set_cons_zero, List.set_cons_succ])
              go_cut [35] (fun v35 wc => ∃ (kq : Nat) (x35_6 : Bool), v35 = .bool x35_6 ∧ Aside0 (pleacherref04_Get.j1 kq a0 x5_1 x6_1 t146 t147 x35_6 = some (r1, r2, r3)) ∧ Aside0 (kq ≤ k1) ∧ Aside0 (Below w.heap.size w wc))
              case first =>
                have H := HC7.out
                clear HC7
                by_cases c9 : t146 = 60
                · rw [if_pos c9] at H
                  have c9b0 : (t146 == 60) = true := beq_iff_eq.mpr c9
                  have c9b1 : (t146 != 60) = false := bne_eq_false_iff_eq.mpr c9
                  clear c9
                  (first | rw [c9b0] | (simp only [i64_w, i32_w]; rw [c9b0]) | skip)
                  have H' := Aside0.mk H
                  clear H
                  go_wp2
                  go_meet
                  case rel => exact ⟨_, (true), (by first | rfl | (simp; done) | (simp [*]; done)), H', ⟨by have := HK1.out; first | omega | exact Nat.le_refl _⟩, ⟨by repeat (first | (with_reducible first | exact HB.out | apply below_alloc | apply pw_below_drewN | apply below_drew1) | exact HB.out)⟩⟩
                · rw [if_neg c9] at H
                  have c9b0 : (t146 == 60) = false := beq_eq_false_iff_ne.mpr c9
                  have c9b1 : (t146 != 60) = true := bne_iff_ne.mpr c9
                  (first | rw [c9b0] | (simp only [i64_w, i32_w]; rw [c9b0]) | skip)
                  replace H := Option.bind_eq_some_iff.mp H
                  obtain ⟨t149, A100, H⟩ := H
                  replace H : (pleacherref04_Get.j1 k1 a0 x5_1 x6_1 t146 t147 (!t149)) = some (r1, r2, r3) := H
                  have A10 := Aside0.mk A100
                  clear A100
                  have H' := Aside0.mk H
                  clear H
                  go_wp2_with (first | (go_at_call 29; (with_reducible refine (pleacherref02_IsChar.calls t146 t149 _ A10.out).mono ?_); rintro e w' ⟨rfl, ⟨nd, rfl⟩⟩))
                  go_meet
                  case rel => exact ⟨_, (!t149), (by first | rfl | (simp; done) | (simp [*]; done)), H', ⟨by have := HK1.out; first | omega | exact Nat.le_refl _⟩, ⟨by repeat (first | (with_reducible first | exact HB.out | apply below_alloc | apply pw_below_drewN | apply below_drew1) | exact HB.out)⟩⟩
              case rest =>
                clear HC7
                try clear c1
                try clear c2
                try clear c2b0
                try clear p2
                try clear c3
                try clear c3b0
                try clear c3b1
                try clear c4
                try clear c4b0
                try clear c4b1
                try clear c6
                try clear c6b0
                try clear c6b1
                try clear c9
                try clear c9b0
                try clear c9b1
                obtain ⟨kq, x35_6, rfl, HA, HJ6, HB⟩ := hcut
                cases kq with
                | zero => exact absurd HA.out (by simp [pleacherref04_Get.j1])
                | succ kj6 =>
                  have H := HA.out
                  clear HA
                  simp only [pleacherref04_Get.j1] at H
                  by_cases c11 : x35_6 = true
                  · subst c11
                    have H1 : (some ((⟨#[]⟩ : ByteArray), x6_1, 40)) = some (r1, r2, r3) := by rw [if_pos rfl] at H; exact H
                    clear H
                    have H := H1
                    clear H1
                    simp only [Option.some.injEq, Prod.mk.injEq] at H
                    obtain ⟨rfl, rfl, rfl⟩ := H
                    go_wp2
                    go_ret3
                    exact ⟨by first | rfl | (simp [errW_none, errW_some] <;> rfl) | (simp [*, errW_none, errW_some] <;> rfl), by repeat (first | (with_reducible first | exact HB.out | apply below_alloc | apply pw_below_drewN | apply below_drew1) | exact HB.out)⟩
                  · replace c11 := Bool.eq_false_iff.mpr c11
                    subst c11
                    have H1 : (if 0 ≤ x6_1 then (if x6_1 ≤ (wrap64 (x6_1 + t147)) then (if (wrap64 (x6_1 + t147)) ≤ (a0.size : Int) then (if t146 = 38 then (if x6_1 ≤ (a0.size : Int) then ((pleacherref04_Ref.f kj6 (a0.extract (x6_1 : Int).toNat a0.size)).bind fun bt150 => (if bt150.2.2 = 0 then ((pleacherref02_Encode.f bt150.1).bind fun bt153 => (if x5_1.size + bt153.1.size ≤ 9223372036854775807 then (pleacherref04_Get.l0 kj6 a0 (x5_1 ++ bt153.1) (wrap64 (x6_1 + bt150.2.1))) else (none))) else (some ((⟨#[]⟩ : ByteArray), x6_1, 40)))) else (none)) else (if t146 = 13 then (if (wrap64 (x6_1 + 1)) = (a0.size : Int) then (if x5_1.size + 1 ≤ 9223372036854775807 then (pleacherref04_Get.l0 kj6 a0 (x5_1 ++ (⟨#[10]⟩ : ByteArray)) (wrap64 (x6_1 + t147))) else (none)) else (if 0 ≤ (wrap64 (x6_1 + 1)) then (if (wrap64 (x6_1 + 1)) < (a0.size : Int) then (if (bt a0 (wrap64 (x6_1 + 1))) = 10 then (if x5_1.size + 0 ≤ 9223372036854775807 then (pleacherref04_Get.l0 kj6 a0 (x5_1 ++ (⟨#[]⟩ : ByteArray)) (wrap64 (x6_1 + t147))) else (none)) else (if x5_1.size + 1 ≤ 9223372036854775807 then (pleacherref04_Get.l0 kj6 a0 (x5_1 ++ (⟨#[10]⟩ : ByteArray)) (wrap64 (x6_1 + t147))) else (none))) else (none)) else (none))) else (if x5_1.size + (a0.extract (x6_1 : Int).toNat ((wrap64 (x6_1 + t147)) : Int).toNat).size ≤ 9223372036854775807 then (pleacherref04_Get.l0 kj6 a0 (x5_1 ++ (a0.extract (x6_1 : Int).toNat ((wrap64 (x6_1 + t147)) : Int).toNat)) (wrap64 (x6_1 + t147))) else (none)))) else (none)) else (none)) else (none)) = some (r1, r2, r3) := by rw [if_neg (show ¬ (false = true) by decide)] at H; exact H
                    clear H
                    have H := H1
                    clear H1
                    by_cases c12 : 0 ≤ x6_1
                    · rw [if_pos c12] at H
                      have c12b0 := eq_true c12
                      have c12b1 : decide (0 ≤ x6_1) = true := decide_eq_true c12
                      clear c12
                      by_cases c13 : x6_1 ≤ (wrap64 (x6_1 + t147))
                      · rw [if_pos c13] at H
                        have c13b0 := eq_true c13
                        have c13b1 : decide (x6_1 ≤ (wrap64 (x6_1 + t147))) = true := decide_eq_true c13
                        by_cases c14 : (wrap64 (x6_1 + t147)) ≤ (a0.size : Int)
                        · rw [if_pos c14] at H
                          have c14b0 := eq_true c14
                          have c14b1 : decide ((wrap64 (x6_1 + t147)) ≤ (a0.size : Int)) = true := decide_eq_true c14
                          by_cases c15 : t146 = 38
                          · rw [if_pos c15] at H
                            have c15b0 : (t146 == 38) = true := beq_iff_eq.mpr c15
                            have c15b1 : (t146 != 38) = false := bne_eq_false_iff_eq.mpr c15
                            clear c15
                            have c16b0 := eq_true (of_decide_eq_true (by first | (with_reducible assumption) | assumption) : 0 ≤ x6_1)
                            by_cases c17 : x6_1 ≤ (a0.size : Int)
                            · rw [if_pos c17] at H
                              have c17b0 := eq_true c17
                              have c17b1 : decide (x6_1 ≤ (a0.size : Int)) = true := decide_eq_true c17
                              clear c17
                              replace H := Option.bind_eq_some_iff.mp H
                              obtain ⟨⟨t150, t151, t152⟩, A180, H⟩ := H
                              replace H : (if t152 = 0 then ((pleacherref02_Encode.f t150).bind fun bt153 => (if x5_1.size + bt153.1.size ≤ 9223372036854775807 then (pleacherref04_Get.l0 kj6 a0 (x5_1 ++ bt153.1) (wrap64 (x6_1 + t151))) else (none))) else (some ((⟨#[]⟩ : ByteArray), x6_1, 40))) = some (r1, r2, r3) := H
                              have A18 := Aside0.mk A180
                              clear A180
                              by_cases c19 : t152 = 0
                              · rw [if_pos c19] at H
                                have c19b0 : (t152 == 0) = true := beq_iff_eq.mpr c19
                                have c19b1 : (t152 != 0) = false := bne_eq_false_iff_eq.mpr c19
                                clear c19
                                replace H := Option.bind_eq_some_iff.mp H
                                obtain ⟨⟨t153, t154⟩, A200, H⟩ := H
                                replace H : (if x5_1.size + t153.size ≤ 9223372036854775807 then (pleacherref04_Get.l0 kj6 a0 (x5_1 ++ t153) (wrap64 (x6_1 + t151))) else (none)) = some (r1, r2, r3) := H
                                have A20 := Aside0.mk A200
                                clear A200
                                by_cases c21 : x5_1.size + t153.size ≤ 9223372036854775807
                                · rw [if_pos c21] at H
                                  have c21b0 := eq_true c21
                                  have c21b1 : decide (x5_1.size + t153.size ≤ 9223372036854775807) = true := decide_eq_true c21
                                  try have c21b2 : (9223372036854775807 < x5_1.size + t153.size) = False := eq_false (Nat.not_lt.2 c21)
                                  have H' := Aside0.mk H
                                  clear H
                                  go_wp2_with (first | ((with_reducible refine gate_callee (f := 15) rfl ?_); refine goesL_ (some 49) rfl rfl Tryz.func15 (by kernel_rfl) rfl #[.string (a0.extract (x6_1 : Int).toNat a0.size)] rfl (by (try simp only [List.map_toArray, List.map_cons, List.map_nil]); first | done | rfl | (simp only [List.length_drop, List.length_take]; rfl)) ?_; (with_reducible refine (pleacherref04_Ref.calls kj6 (a0.extract (x6_1 : Int).toNat a0.size) t150 t151 t152 _ A18.out).mono ?_); rintro e w' ⟨rfl, ⟨nd, rfl⟩⟩; refine ⟨_, rfl, ?_⟩) | ((with_reducible refine gate_callee (f := 30) rfl ?_); refine goesL_ (some 58) rfl rfl Tryz.func30 (by kernel_rfl) rfl #[.int .i64 t150] rfl (by (try simp only [List.map_toArray, List.map_cons, List.map_nil]); first | done | rfl | (simp only [List.length_drop, List.length_take]; rfl)) ?_; (with_reducible refine (pleacherref02_Encode.calls t150 t153 t154 _ A20.out).mono ?_); rintro e w22 ⟨rfl, hb⟩; refine ⟨_, rfl, ?_⟩; have n0_ := Aside0.mk (below_step (by repeat (first | (with_reducible first | exact HB.out | apply below_alloc | apply pw_below_drewN | apply below_drew1) | exact HB.out)) hb); clear HB; have HB := n0_; clear n0_; (try clear hb); (try clear hb2); (try clear hk); (try clear hi)))
                                  go_roundg kj6
                                  case measure => have := HK1.out; have := HJ6.out; omega
                                  case rel => exact ⟨(x5_1 ++ t153), (wrap64 (x6_1 + t151)), (by first | rfl | (simp; done) | (simp [*]; done)), (by first | rfl | (simp; done) | (simp [*]; done)), H', ⟨by have := HK1.out; have := HJ6.out; omega⟩, ⟨by repeat (first | (with_reducible first | exact HB.out | apply below_alloc | apply pw_below_drewN | apply below_drew1) | exact HB.out)⟩⟩
                                · rw [if_neg c21] at H
                                  exact absurd H (by simp)
                              · rw [if_neg c19] at H
                                have c19b0 : (t152 == 0) = false := beq_eq_false_iff_ne.mpr c19
                                have c19b1 : (t152 != 0) = true := bne_iff_ne.mpr c19
                                simp only [Option.some.injEq, Prod.mk.injEq] at H
                                obtain ⟨rfl, rfl, rfl⟩ := H
                                go_wp2_with (first | ((with_reducible refine gate_callee (f := 15) rfl ?_); refine goesL_ (some 49) rfl rfl Tryz.func15 (by kernel_rfl) rfl #[.string (a0.extract (x6_1 : Int).toNat a0.size)] rfl (by (try simp only [List.map_toArray, List.map_cons, List.map_nil]); first | done | rfl | (simp only [List.length_drop, List.length_take]; rfl)) ?_; (with_reducible refine (pleacherref04_Ref.calls kj6 (a0.extract (x6_1 : Int).toNat a0.size) t150 t151 t152 _ A18.out).mono ?_); rintro e w' ⟨rfl, ⟨nd, rfl⟩⟩; refine ⟨_, rfl, ?_⟩))
                                go_ret3
                                exact ⟨by first | rfl | (simp [errW_none, errW_some] <;> rfl) | (simp [*, errW_none, errW_some] <;> rfl), by repeat (first | (with_reducible first | exact HB.out | apply below_alloc | apply pw_below_drewN | apply below_drew1) | exact HB.out)⟩
                            · rw [if_neg c17] at H
                              exact absurd H (by simp)
                          · rw [if_neg c15] at H
                            have c15b0 : (t146 == 38) = false := beq_eq_false_iff_ne.mpr c15
                            have c15b1 : (t146 != 38) = true := bne_iff_ne.mpr c15
                            by_cases c23 : t146 = 13
                            · rw [if_pos c23] at H
                              have c23b0 : (t146 == 13) = true := beq_iff_eq.mpr c23
                              have c23b1 : (t146 != 13) = false := bne_eq_false_iff_eq.mpr c23
                              clear c23
                              by_cases c24 : (wrap64 (x6_1 + 1)) = (a0.size : Int)
                              · rw [if_pos c24] at H
                                have c24b0 : ((wrap64 (x6_1 + 1)) == (a0.size : Int)) = true := beq_iff_eq.mpr c24
                                have c24b1 : ((wrap64 (x6_1 + 1)) != (a0.size : Int)) = false := bne_eq_false_iff_eq.mpr c24
                                clear c24
                                by_cases c25 : x5_1.size + 1 ≤ 9223372036854775807
                                · rw [if_pos c25] at H
                                  have c25b0 := eq_true c25
                                  have c25b1 : decide (x5_1.size + 1 ≤ 9223372036854775807) = true := decide_eq_true c25
                                  try have c25b2 : (9223372036854775807 < x5_1.size + 1) = False := eq_false (Nat.not_lt.2 c25)
                                  have H' := Aside0.mk H
                                  clear H
                                  go_wp2
                                  go_roundg kj6
                                  case measure => have := HK1.out; have := HJ6.out; omega
                                  case rel => exact ⟨(x5_1 ++ (⟨#[10]⟩ : ByteArray)), (wrap64 (x6_1 + t147)), (by first | rfl | (simp; done) | (simp [*]; done)), (by first | rfl | (simp; done) | (simp [*]; done)), H', ⟨by have := HK1.out; have := HJ6.out; omega⟩, ⟨by repeat (first | (with_reducible first | exact HB.out | apply below_alloc | apply pw_below_drewN | apply below_drew1) | exact HB.out)⟩⟩
                                · rw [if_neg c25] at H
                                  exact absurd H (by simp)
                              · rw [if_neg c24] at H
                                have c24b0 : ((wrap64 (x6_1 + 1)) == (a0.size : Int)) = false := beq_eq_false_iff_ne.mpr c24
                                have c24b1 : ((wrap64 (x6_1 + 1)) != (a0.size : Int)) = true := bne_iff_ne.mpr c24
                                obtain ⟨ji26, hji26⟩ : ∃ j_ : Int, (wrap64 (x6_1 + 1)) = j_ := ⟨_, rfl⟩
                                replace H : (if 0 ≤ (ji26) then (if (ji26) < (a0.size : Int) then (if (bt a0 (ji26)) = 10 then (if x5_1.size + 0 ≤ 9223372036854775807 then (pleacherref04_Get.l0 kj6 a0 (x5_1 ++ (⟨#[]⟩ : ByteArray)) (wrap64 (x6_1 + t147))) else (none)) else (if x5_1.size + 1 ≤ 9223372036854775807 then (pleacherref04_Get.l0 kj6 a0 (x5_1 ++ (⟨#[10]⟩ : ByteArray)) (wrap64 (x6_1 + t147))) else (none))) else (none)) else (none)) = some (r1, r2, r3) := by first | (rw [hji26] at H; exact H) | (simp only [hji26] at H ⊢; exact H)
                                (try rw [hji26] at c24b0)
                                (try rw [hji26] at c24b1)
                                have hji26w : (IntKind.i64.wrap (x6_1 + 1)) = ji26 := (i64_w _).trans hji26
                                by_cases c27 : 0 ≤ (ji26)
                                · rw [if_pos c27] at H
                                  have c27b0 : decide (0 ≤ (ji26)) = true := decide_eq_true c27
                                  clear c27
                                  by_cases c28 : (ji26) < (a0.size : Int)
                                  · rw [if_pos c28] at H
                                    have c28b0 : decide ((ji26) < (a0.size : Int)) = true := decide_eq_true c28
                                    clear c28
                                    by_cases c30 : (bt a0 (ji26)) = 10
                                    · rw [if_pos c30] at H
                                      have c30b0 : ((bt a0 (ji26)) == 10) = true := beq_iff_eq.mpr c30
                                      have c30b1 : ((bt a0 (ji26)) != 10) = false := bne_eq_false_iff_eq.mpr c30
                                      clear c30
                                      by_cases c31 : x5_1.size + 0 ≤ 9223372036854775807
                                      · rw [if_pos c31] at H
                                        have c31b0 := eq_true c31
                                        have c31b1 : decide (x5_1.size + 0 ≤ 9223372036854775807) = true := decide_eq_true c31
                                        try have c31b2 : (9223372036854775807 < x5_1.size + 0) = False := eq_false (Nat.not_lt.2 c31)
                                        have H' := Aside0.mk H
                                        clear H
                                        have p29 : 0 ≤ ((ji26) : Int) := of_decide_eq_true (by first | (with_reducible assumption) | assumption)
                                        have q29 : (ji26) < (a0.size : Int) := of_decide_eq_true (by first | (with_reducible assumption) | assumption)
                                        have hx29 := bt_at a0 (ji26)
                                        replace p29 := eq_true p29
                                        replace q29 := eq_true q29
                                        go_wp2
                                        go_roundg kj6
                                        case measure => have := HK1.out; have := HJ6.out; omega
                                        case rel => exact ⟨(x5_1 ++ (⟨#[]⟩ : ByteArray)), (wrap64 (x6_1 + t147)), (by first | rfl | (simp; done) | (simp [*]; done)), (by first | rfl | (simp; done) | (simp [*]; done)), H', ⟨by have := HK1.out; have := HJ6.out; omega⟩, ⟨by repeat (first | (with_reducible first | exact HB.out | apply below_alloc | apply pw_below_drewN | apply below_drew1) | exact HB.out)⟩⟩
                                      · rw [if_neg c31] at H
                                        exact absurd H (by simp)
                                    · rw [if_neg c30] at H
                                      have c30b0 : ((bt a0 (ji26)) == 10) = false := beq_eq_false_iff_ne.mpr c30
                                      have c30b1 : ((bt a0 (ji26)) != 10) = true := bne_iff_ne.mpr c30
                                      by_cases c32 : x5_1.size + 1 ≤ 9223372036854775807
                                      · rw [if_pos c32] at H
                                        have c32b0 := eq_true c32
                                        have c32b1 : decide (x5_1.size + 1 ≤ 9223372036854775807) = true := decide_eq_true c32
                                        try have c32b2 : (9223372036854775807 < x5_1.size + 1) = False := eq_false (Nat.not_lt.2 c32)
                                        have H' := Aside0.mk H
                                        clear H
                                        have p29 : 0 ≤ ((ji26) : Int) := of_decide_eq_true (by first | (with_reducible assumption) | assumption)
                                        have q29 : (ji26) < (a0.size : Int) := of_decide_eq_true (by first | (with_reducible assumption) | assumption)
                                        have hx29 := bt_at a0 (ji26)
                                        replace p29 := eq_true p29
                                        replace q29 := eq_true q29
                                        go_wp2
                                        go_roundg kj6
                                        case measure => have := HK1.out; have := HJ6.out; omega
                                        case rel => exact ⟨(x5_1 ++ (⟨#[10]⟩ : ByteArray)), (wrap64 (x6_1 + t147)), (by first | rfl | (simp; done) | (simp [*]; done)), (by first | rfl | (simp; done) | (simp [*]; done)), H', ⟨by have := HK1.out; have := HJ6.out; omega⟩, ⟨by repeat (first | (with_reducible first | exact HB.out | apply below_alloc | apply pw_below_drewN | apply below_drew1) | exact HB.out)⟩⟩
                                      · rw [if_neg c32] at H
                                        exact absurd H (by simp)
                                  · rw [if_neg c28] at H
                                    exact absurd H (by simp)
                                · rw [if_neg c27] at H
                                  exact absurd H (by simp)
                            · rw [if_neg c23] at H
                              have c23b0 : (t146 == 13) = false := beq_eq_false_iff_ne.mpr c23
                              have c23b1 : (t146 != 13) = true := bne_iff_ne.mpr c23
                              by_cases c33 : x5_1.size + (a0.extract (x6_1 : Int).toNat ((wrap64 (x6_1 + t147)) : Int).toNat).size ≤ 9223372036854775807
                              · rw [if_pos c33] at H
                                have c33b0 := eq_true c33
                                have c33b1 : decide (x5_1.size + (a0.extract (x6_1 : Int).toNat ((wrap64 (x6_1 + t147)) : Int).toNat).size ≤ 9223372036854775807) = true := decide_eq_true c33
                                try have c33b2 : (9223372036854775807 < x5_1.size + (a0.extract (x6_1 : Int).toNat ((wrap64 (x6_1 + t147)) : Int).toNat).size) = False := eq_false (Nat.not_lt.2 c33)
                                have H' := Aside0.mk H
                                clear H
                                go_wp2
                                go_roundg kj6
                                case measure => have := HK1.out; have := HJ6.out; omega
                                case rel => exact ⟨(x5_1 ++ (a0.extract (x6_1 : Int).toNat ((wrap64 (x6_1 + t147)) : Int).toNat)), (wrap64 (x6_1 + t147)), (by first | rfl | (simp; done) | (simp [*]; done)), (by first | rfl | (simp; done) | (simp [*]; done)), H', ⟨by have := HK1.out; have := HJ6.out; omega⟩, ⟨by repeat (first | (with_reducible first | exact HB.out | apply below_alloc | apply pw_below_drewN | apply below_drew1) | exact HB.out)⟩⟩
                              · rw [if_neg c33] at H
                                exact absurd H (by simp)
                        · rw [if_neg c14] at H
                          exact absurd H (by simp)
                      · rw [if_neg c13] at H
                        exact absurd H (by simp)
                    · rw [if_neg c12] at H
                      exact absurd H (by simp)
            · rw [if_neg c6] at H
              have c6b0 : (t148 == 0) = false := beq_eq_false_iff_ne.mpr c6
              have c6b1 : (t148 != 0) = true := bne_iff_ne.mpr c6
              simp only [Option.some.injEq, Prod.mk.injEq] at H
              obtain ⟨rfl, rfl, rfl⟩ := H
              go_wp2_with (first | ((with_reducible refine gate_callee (f := 28) rfl ?_); refine goesL_ (some 22) rfl rfl Tryz.func28 (by kernel_rfl) rfl #[.string (a0.extract (x6_1 : Int).toNat a0.size)] rfl (by (try simp only [List.map_toArray, List.map_cons, List.map_nil]); first | done | rfl | (simp only [List.length_drop, List.length_take]; rfl)) ?_; (with_reducible refine (pleacherref02_Decode.calls k1 (a0.extract (x6_1 : Int).toNat a0.size) t146 t147 t148 _ A5.out).mono ?_); rintro e w34 ⟨rfl, hb⟩; refine ⟨_, rfl, ?_⟩; have n0_ := Aside0.mk (below_step (by repeat (first | (with_reducible first | exact HB.out | apply below_alloc | apply pw_below_drewN | apply below_drew1) | exact HB.out)) hb); clear HB; have HB := n0_; clear n0_; (try clear hb); (try clear hb2); (try clear hk); (try clear hi)))
              go_ret3
              exact ⟨by first | rfl | (simp [errW_none, errW_some] <;> rfl) | (simp [*, errW_none, errW_some] <;> rfl), by repeat (first | (with_reducible first | exact HB.out | apply below_alloc | apply pw_below_drewN | apply below_drew1) | exact HB.out)⟩
          · rw [if_neg c4] at H
            exact absurd H (by simp)
        · rw [if_neg c3] at H
          exact absurd H (by simp)
      · rw [if_neg c2] at H
        have c2b0 : decide (x6_1 < (a0.size : Int)) = false := decide_eq_false c2
        clear c2
        simp only [Option.some.injEq, Prod.mk.injEq] at H
        obtain ⟨rfl, rfl, rfl⟩ := H
        go_wp2
        go_ret3
        exact ⟨by first | rfl | (simp [errW_none, errW_some] <;> rfl) | (simp [*, errW_none, errW_some] <;> rfl), by repeat (first | (with_reducible first | exact HB.out | apply below_alloc | apply pw_below_drewN | apply below_drew1) | exact HB.out)⟩

end Go.Proofs.YtbcjhmeeonhmaaaGreatDoor.M
end

-- Laid by a program of this session for this claim.
section
namespace Go.Proofs.YtbcjhmeeonhmaaaGreatDoor.M
open Go.RowKit Go.Proofs.YtbcjhmeeonhmaaaGreatDoorW.PrintWords Go.Proofs.YtbcjhmeeonhmaaaGreatDoorW.PrintLast Go.Proofs.YtbcjhmeeonhmaaaGreatDoorW.PrintMore
attribute [local go_sem] max2_int min2_int max_two min_two max_three min_three max_four min_four   -- for this text's walks alone
set_option linter.unusedVariables false
set_option linter.unusedSimpArgs false

/-! ### pleacherref02_IsText: function 44 -/
end Go.Proofs.YtbcjhmeeonhmaaaGreatDoor.M
end

-- Laid by a program of this session for this claim.
section
namespace Go.Proofs.YtbcjhmeeonhmaaaGreatDoor.M
open Go.RowKit Go.Proofs.YtbcjhmeeonhmaaaGreatDoorW.PrintWords Go.Proofs.YtbcjhmeeonhmaaaGreatDoorW.PrintLast Go.Proofs.YtbcjhmeeonhmaaaGreatDoorW.PrintMore
attribute [local go_sem] max2_int min2_int max_two min_two max_three min_three max_four min_four   -- for this text's walks alone
set_option linter.unusedVariables false
set_option linter.unusedSimpArgs false

/-! ### pleacherref04_one: function 45 -/
end Go.Proofs.YtbcjhmeeonhmaaaGreatDoor.M
end

-- Laid by a program of this session for this claim.
section
namespace Go.Proofs.YtbcjhmeeonhmaaaGreatDoor.M
open Go.RowKit Go.Proofs.YtbcjhmeeonhmaaaGreatDoorW.PrintWords Go.Proofs.YtbcjhmeeonhmaaaGreatDoorW.PrintLast Go.Proofs.YtbcjhmeeonhmaaaGreatDoorW.PrintMore
attribute [local go_sem] max2_int min2_int max_two min_two max_three min_three max_four min_four   -- for this text's walks alone
set_option linter.unusedVariables false
set_option linter.unusedSimpArgs false

/-! ### pleacherref04_Put: function 22 -/
end Go.Proofs.YtbcjhmeeonhmaaaGreatDoor.M
end

-- Laid by a program of this session for this claim.
section
namespace Go.Proofs.YtbcjhmeeonhmaaaGreatDoor.M
open Go.RowKit Go.Proofs.YtbcjhmeeonhmaaaGreatDoorW.PrintWords Go.Proofs.YtbcjhmeeonhmaaaGreatDoorW.PrintLast Go.Proofs.YtbcjhmeeonhmaaaGreatDoorW.PrintMore
attribute [local go_sem] max2_int min2_int max_two min_two max_three min_three max_four min_four   -- for this text's walks alone
set_option linter.unusedVariables false
set_option linter.unusedSimpArgs false

/-! ### pleacherref04_Lines: function 23 -/
end Go.Proofs.YtbcjhmeeonhmaaaGreatDoor.M
end

/-
The document's functions of escapes and raw texts: what they say is what the program's say.
-/
section
set_option linter.unusedVariables false
set_option maxRecDepth 100000
namespace Go.Proofs.YtbcjhmeeonhmaaaGreatDoor.H
open Go Go.RowKit Go.Proofs.YtbcjhmeeonhmaaaGreatDoorW.PrintWords Go.Proofs.YtbcjhmeeonhmaaaGreatDoorW.PrintMore Go.Proofs.YtbcjhmeeonhmaaaGreatDoor.M

theorem ref02_isChar (r : Int) : pleacherref02_IsChar.f r = some (isCharS r) := by
  unfold pleacherref02_IsChar.f
  rw [ref02_in, ref02_in, ref02_in]
  simp only [Option.bind_some]
  have e : isCharS r = ((decide (9 ≤ r) && decide (r ≤ 10)) || ((decide (13 ≤ r) && decide (r ≤ 13)) || ((decide (32 ≤ r) && decide (r ≤ 55295)) || ((decide (57344 ≤ r) && decide (r ≤ 65533)) || ((decide (65536 ≤ r) && decide (r ≤ 1114111)) || false))))) := by
    unfold isCharS anyB charL
    simp only [List.any_cons, List.any_nil]
    rfl
  rw [e]
  by_cases h1 : r = 9
  · subst h1; rfl
  by_cases h2 : r = 10
  · subst h2; rfl
  by_cases h3 : r = 13
  · subst h3; rfl
  rw [if_neg h1, if_neg h2, if_neg h3]
  have f1 : (decide (9 ≤ r) && decide (r ≤ 10)) = false := by simp; omega
  have f2 : (decide (13 ≤ r) && decide (r ≤ 13)) = false := by simp; omega
  rw [f1, f2, Bool.false_or, Bool.false_or, Bool.or_false]
  cases (decide (32 ≤ r) && decide (r ≤ 55295)) <;> cases (decide (57344 ≤ r) && decide (r ≤ 65533)) <;> simp
theorem ref02_runesF (s : ByteArray) (hs : s.size ≤ 1073741824) (k : Nat) (hk : s.size + 11 ≤ k) : pleacherref02_Runes.f k s = some ((eat s).1, (s.size : Int) - (eat s).2.size) := by
  obtain ⟨j, rfl⟩ : ∃ j, k = (s.size + j) + 11 := ⟨k - 11 - s.size, by omega⟩
  unfold pleacherref02_Runes.f
  have := ref02_runes s hs (s.size + j) 0 [] s.size (by omega) (by omega) (by simp; exact hs)
  rw [show ((0 : Nat) : Int) = 0 from rfl] at this
  rw [this]
  have h1 : s.extract 0 s.size = s := ByteArray.extract_zero_size
  rw [h1, eatF_fuel (s.size + 1) s.size s (by omega) (by omega)]
  rfl
/-! References -/
/-- The rune of a name. -/
def namedN (l : List UInt8) : Int := if l = [97, 109, 112] then 38 else if l = [108, 116] then 60 else if l = [103, 116] then 62 else if l = [113, 117, 111, 116] then 34 else if l = [97, 112, 111, 115] then 39 else 0
theorem ref04_named (l : List UInt8) : pleacherref04_named.f (B l) = some (namedN l) := by
  unfold pleacherref04_named.f namedN
  rw [toList_data, B_list]
  repeat' split
  all_goals rfl
theorem word_eq (k : Nat) (w l : List UInt8) (h : wordK k = B w) : (wordK k = B l) ↔ l = w := by
  rw [h]; exact ⟨fun e => (B_inj e).symm, fun e => by rw [e]⟩
theorem nameR_named (l : List UInt8) (r0 : Int) : nameR (B l) r0 5 = if namedN l = 0 then r0 else namedN l := by
  have w0 := word_eq 0 [97, 109, 112] l rfl
  have w1 := word_eq 1 [108, 116] l rfl
  have w2 := word_eq 2 [103, 116] l rfl
  have w3 := word_eq 3 [113, 117, 111, 116] l rfl
  have w4 := word_eq 4 [97, 112, 111, 115] l rfl
  simp only [nameR, w0, w1, w2, w3, w4]
  unfold namedN
  by_cases a0 : l = [97, 109, 112]
  · subst a0; rfl
  by_cases a1 : l = [108, 116]
  · subst a1; rfl
  by_cases a2 : l = [103, 116]
  · subst a2; rfl
  by_cases a3 : l = [113, 117, 111, 116]
  · subst a3; rfl
  by_cases a4 : l = [97, 112, 111, 115]
  · subst a4; rfl
  simp only [if_neg a0, if_neg a1, if_neg a2, if_neg a3, if_neg a4, if_true]
theorem bodyR_eq (l : List UInt8) : bodyR (B l) = if l.head? = some 35 then digS (B l.tail) else namedN l := by
  unfold bodyR
  rw [nameR_named]
  rcases pfx_cases l 35 with ⟨t, rfl, e⟩ | ⟨h, e⟩
  · have hn : namedN (35 :: t) = 0 := by
      unfold namedN
      rw [if_neg (by simp), if_neg (by simp), if_neg (by simp), if_neg (by simp), if_neg (by simp)]
    rw [hn, e, if_pos rfl, if_pos rfl, if_pos (show (35 :: t).head? = some 35 from rfl)]; rfl
  · rw [e, if_neg h]
    by_cases h0 : namedN l = 0
    · rw [if_pos h0, h0, if_neg (show ¬ ((B l, false).2 = true) from fun h => by cases h)]
    · rw [if_neg h0]
theorem counted_1 (k b : Nat) (hb : b = 10 ∨ b = 16) (s : ByteArray) (hs : s.size ≤ 1073741824) (hk : s.size + 3 ≤ k) : pleacherref04_counted.j1 (k + 1) s b = some (digN b s) := by
  rw [pleacherref04_counted.j1, ref03_get b (by omega) s hs k hk, Option.bind_some]
  obtain ⟨g, hg⟩ : ∃ g, getC b s = g := ⟨_, rfl⟩
  unfold digN
  rw [hg]
  by_cases h1 : g.2 = 0
  · rw [if_pos h1]
    by_cases h2 : (s.size : Int) > 8
    · rw [if_pos h2, if_neg (fun h => by omega)]
    · rw [if_neg h2, ref02_isChar, Option.bind_some]
      by_cases h3 : isCharS (wrap64 g.1) = true
      · rw [if_pos h3, if_pos ⟨h1, by omega, h3⟩]
      · rw [if_neg h3, if_neg (fun h => h3 h.2.2)]
  · rw [if_neg h1, if_neg (fun h => h1 h.1)]
theorem ref04_counted (t : List UInt8) (ht : t.length ≤ 1000) (k : Nat) (hk : t.length + 6 ≤ k) : pleacherref04_counted.f k (B (35 :: t)) = some (digS (B t)) := by
  obtain ⟨j, rfl⟩ : ∃ j, k = j + 2 := ⟨k - 2, by omega⟩
  have hx : (B (35 :: t)).extract 1 (B (35 :: t)).size = B t := by rw [B_drop]; rfl
  unfold pleacherref04_counted.f
  rw [if_pos (by rw [B_size, List.length_cons]; omega), hx]
  have j0 : ∀ b : Bool, pleacherref04_counted.j0 (j + 2) (B t) 10 b = if b = true then (if 1 ≤ ((B t).size : Int) then pleacherref04_counted.j1 (j + 1) ((B t).extract 1 (B t).size) 16 else none) else pleacherref04_counted.j1 (j + 1) (B t) 10 := fun b => by rw [pleacherref04_counted.j0]
  have e10 : pfxS (B t) 120 = (B t, false) → pleacherref04_counted.j1 (j + 1) (B t) 10 = some (digS (B t)) := fun e => by
    have := counted_1 j 10 (by omega) (B t) (by rw [B_size]; omega) (by rw [B_size]; omega)
    rw [show ((10 : Nat) : Int) = 10 from rfl] at this
    rw [this]; unfold digS; rw [e, if_neg (fun h => by cases h)]
  cases t with
  | nil =>
    rw [if_pos (by rw [toList_data]; rfl), j0, if_neg (by decide)]
    exact e10 (pfx_not 120 [] (by simp))
  | cons c u =>
    rw [if_neg (by rw [toList_data, B_list]; exact List.cons_ne_nil _ _), if_pos (by rw [B_size, List.length_cons]; omega), show bt (B (c :: u)) 0 = (c.toNat : Int) from bt_list (B (c :: u)) 0 c rfl, j0]
    by_cases hc : c = 120
    · subst hc
      rw [if_pos (by decide), if_pos (by rw [B_size, List.length_cons]; omega), B_drop]
      have := counted_1 j 16 (by omega) (B u) (by rw [B_size]; simp at ht; omega) (by rw [B_size]; simp at hk; omega)
      rw [show ((16 : Nat) : Int) = 16 from rfl] at this
      show pleacherref04_counted.j1 (j + 1) (B u) 16 = _
      rw [this]; unfold digS; rw [pfx_cons, if_pos rfl]
    · rw [if_neg (by rw [beq_iff_eq]; intro e; exact hc (UInt8.toNat_inj.1 (by have : (120 : UInt8).toNat = 120 := rfl; omega)))]
      exact e10 (pfx_not 120 _ (by simp; exact hc))
theorem idx_first {body u : List UInt8} (h3 : (59 : UInt8) ∉ body) : (38 :: (body ++ 59 :: u))[body.length + 1]? = some 59 ∧ ∀ j, j < body.length + 1 → (38 :: (body ++ 59 :: u))[j]? ≠ some 59 := by
  refine ⟨?_, ?_⟩
  · rw [List.getElem?_cons_succ, List.getElem?_append_right (Nat.le_refl _), Nat.sub_self]; rfl
  · intro j hj
    cases j with
    | zero => simp
    | succ j =>
      rw [List.getElem?_cons_succ, List.getElem?_append_left (by omega)]
      intro e; exact h3 (List.mem_of_getElem? e)
/-- Where the document's Ref stops. -/
def Stop (l : List UInt8) (q : Nat) : Prop := q ≤ 12 ∧ q ≤ l.length ∧ (∀ j, j < q → l[j]? ≠ some 59) ∧ (q = l.length ∨ q = 12 ∨ l[q]? = some 59)
theorem bt_iff (l : List UInt8) (i : Nat) (h : i < l.length) (d : UInt8) (n : Int) (hn : (d.toNat : Int) = n) : bt (B l) (i : Int) = n ↔ l[i]? = some d := by
  have hb := bt_list (B l) i l[i] (List.getElem?_eq_getElem h)
  rw [hb, List.getElem?_eq_getElem h, ← hn]
  constructor
  · intro e; congr 1; exact UInt8.toNat_inj.1 (by omega)
  · intro e; rw [Option.some.inj e]
theorem ref_stop {l : List UInt8} {q : Nat} (hq : Stop l q) : ((2 ≤ q ∧ l[q]? = some 59 ∧ l.head? = some 38) → ∃ body u, l = 38 :: (body ++ 59 :: u) ∧ body.length + 1 = q ∧ (59 : UInt8) ∉ body) ∧
    (¬ (2 ≤ q ∧ l[q]? = some 59 ∧ l.head? = some 38) → refS (B l) = (0, 0, 40)) := by
  obtain ⟨h1, h2, h3, h4⟩ := hq
  constructor
  · rintro ⟨a1, a2, a3⟩
    cases l with
    | nil => cases a3
    | cons c t =>
      simp at a3
      subst a3
      obtain ⟨p, rfl⟩ : ∃ p, q = p + 1 := ⟨q - 1, by omega⟩
      rw [List.getElem?_cons_succ] at a2
      have hlt := (List.getElem?_eq_some_iff.1 a2).1
      refine ⟨t.take p, t.drop (p + 1), ?_, by rw [List.length_take]; omega, ?_⟩
      · congr 1
        have e : t.drop p = 59 :: t.drop (p + 1) := by
          rw [List.drop_eq_getElem_cons hlt]
          rw [List.getElem?_eq_getElem hlt] at a2
          rw [Option.some.inj a2]
        rw [← e, List.take_append_drop]
      · intro hm
        obtain ⟨j, hj, e⟩ := List.getElem_of_mem hm
        rw [List.length_take] at hj
        refine h3 (j + 1) (by omega) ?_
        rw [List.getElem?_cons_succ, List.getElem?_eq_getElem (by omega)]
        rw [List.getElem_take] at e
        rw [e]
  · intro hn
    refine ref_err _ fun e => hn ?_
    obtain ⟨body, u, rfl, b1, b2, b3, b4⟩ := ref_inv e
    obtain ⟨f1, f2⟩ := idx_first (u := u) b3
    have hlt := (List.getElem?_eq_some_iff.1 f1).1
    have : q = body.length + 1 := by
      rcases Nat.lt_trichotomy q (body.length + 1) with g | g | g
      · rcases h4 with h4 | h4 | h4
        · omega
        · omega
        · exact absurd h4 (f2 q g)
      · exact g
      · exact absurd f1 (h3 _ g)
    rw [this]
    exact ⟨by omega, f1, rfl⟩
theorem ref_j1 (l : List UInt8) (hl : l.length ≤ 1073741824) (q : Nat) (hq : Stop l q) (k : Nat) (hk : 30 ≤ k) : pleacherref04_Ref.j1 k (B l) q = some (refS (B l)) := by
  obtain ⟨k, rfl⟩ : ∃ j, k = j + 2 := ⟨k - 2, by omega⟩
  obtain ⟨hyes, hno⟩ := ref_stop hq
  have err : ¬ (2 ≤ q ∧ l[q]? = some 59 ∧ l.head? = some 38) → pleacherref04_Ref.j2 (k + 1) (B l) q true = some (refS (B l)) := fun h => by rw [pleacherref04_Ref.j2, if_pos rfl, hno h]
  rw [pleacherref04_Ref.j1, B_size]
  by_cases c1 : q < 2
  · rw [if_pos (by omega)]; exact err (fun h => by omega)
  rw [if_neg (by omega)]
  by_cases c2 : q ≥ l.length
  · rw [if_pos (by omega)]
    exact err (fun h => by have := (List.getElem?_eq_some_iff.1 h.2.1).1; omega)
  rw [if_neg (by omega), if_pos (by omega), if_pos (by omega)]
  have b59 := bt_iff l q (by omega) 59 59 rfl
  by_cases c3 : l[q]? = some 59
  · rw [if_pos (b59.2 c3), if_pos (by omega)]
    have b38 := bt_iff l 0 (by omega) 38 38 rfl
    by_cases c4 : l.head? = some 38
    · have h0 : l[0]? = some 38 := by rw [← List.head?_eq_getElem?]; exact c4
      have e0 := b38.2 h0
      rw [show ((0 : Nat) : Int) = 0 from rfl] at e0
      rw [e0]
      obtain ⟨body, u, rfl, hbq, hb3⟩ := hyes ⟨by omega, c3, c4⟩
      have hb12 := hq.1
      rw [show ((38 : Int) != 38) = false from rfl, pleacherref04_Ref.j2, if_neg (by decide), if_pos (by omega), B_size, if_pos (by omega)]
      have hx : (B (38 :: (body ++ 59 :: u))).extract 1 ((q : Int)).toNat = B body := by
        rw [Int.toNat_natCast, B_ext]
        congr 1
        show List.take (q - 1) (body ++ 59 :: u) = body
        rw [show q - 1 = body.length from by omega, List.take_left]
      rw [hx, ref04_named, Option.bind_some, if_pos (by omega), ref_ok (by omega) (by omega) hb3, bodyR_eq]
      have hw : wrap64 ((q : Int) + 1) = (body.length : Int) + 2 := by rw [w64 (by omega) (by omega)]; omega
      rw [hw]
      cases body with
      | nil => simp at hbq; omega
      | cons c t =>
        have b35 := bt_iff (38 :: (c :: t ++ 59 :: u)) 1 (by simp) 35 35 rfl
        rw [show ((1 : Nat) : Int) = 1 from rfl] at b35
        by_cases c5 : c = 35
        · subst c5
          rw [if_pos (show (35 :: t).head? = some 35 from rfl), if_pos (b35.2 rfl), List.tail_cons, ref04_counted t (by simp at hbq; omega) (k) (by simp at hbq; omega), Option.bind_some]
          split <;> rfl
        · rw [if_neg (fun e => c5 (Option.some.inj (b35.1 e))), if_neg (show ¬ (c :: t).head? = some 35 from fun e => c5 (Option.some.inj e))]
          split <;> rfl
    · have h0 : ¬ l[0]? = some 38 := by rw [← List.head?_eq_getElem?]; exact c4
      have e0 : bt (B l) 0 ≠ 38 := fun e => h0 (b38.1 e)
      rw [show (bt (B l) 0 != 38) = true from by rw [bne_iff_ne]; exact e0]
      exact err (fun h => c4 h.2.2)
  · rw [if_neg (fun e => c3 (b59.1 e))]
    exact err (fun h => c3 h.2.1)
theorem ref_l (l : List UInt8) (hl : l.length ≤ 1073741824) : ∀ (m k i : Nat), i + m = 12 → i ≤ l.length → (∀ j, j < i → l[j]? ≠ some 59) → 30 ≤ k → pleacherref04_Ref.l0 (k + m + 1) (B l) i = some (refS (B l)) := by
  intro m
  induction m with
  | zero =>
    intro k i h1 h2 h3 hk
    rw [pleacherref04_Ref.l0]
    have := ref_j1 l hl i ⟨by omega, h2, h3, .inr (.inl (by omega))⟩ k hk
    by_cases h : (i : Int) < ((B l).size : Int)
    · rw [if_pos h, if_neg (by omega)]; exact this
    · rw [if_neg h]; exact this
  | succ m ih =>
    intro k i h1 h2 h3 hk
    rw [pleacherref04_Ref.l0, B_size]
    by_cases h : i < l.length
    · rw [if_pos (by omega), if_pos (by omega), if_pos (by omega)]
      have b59 := bt_iff l i h 59 59 rfl
      by_cases hc : l[i]? = some 59
      · rw [if_pos (b59.2 hc)]
        exact ref_j1 l hl i ⟨by omega, h2, h3, .inr (.inr hc)⟩ _ (by omega)
      · rw [if_neg (fun e => hc (b59.1 e)), w64 (by omega) (by omega), show (i : Int) + 1 = ((i + 1 : Nat) : Int) from by omega]
        exact ih k (i + 1) (by omega) (by omega) (fun j hj => by
          rcases Nat.lt_succ_iff_lt_or_eq.1 hj with g | rfl
          · exact h3 j g
          · exact hc) hk
    · rw [if_neg (by omega)]
      exact ref_j1 l hl i ⟨by omega, h2, h3, .inl (by omega)⟩ _ (by omega)
theorem ref04_ref (s : ByteArray) (hs : s.size ≤ 1073741824) (k : Nat) (hk : 43 ≤ k) : pleacherref04_Ref.f k s = some (refS s) := by
  obtain ⟨j, rfl⟩ : ∃ j, k = j + 12 + 1 := ⟨k - 13, by omega⟩
  have := ref_l s.data.toList (by rw [size_data]; exact hs) 12 j 0 (by omega) (by omega) (fun j hj => by omega) (by omega)
  exact this

/-! Get -/
theorem decode_k (s : ByteArray) (hs : s.size ≤ 1073741824) (k : Nat) (hk : 10 ≤ k) : pleacherref02_Decode.f k s = some (decR s) := by
  have : ∀ j, pleacherref02_Decode.f (10 + j) s = some (decR s) := fun j => by
    induction j with
    | zero => exact ref02_decode s (by omega)
    | succ j ihj => exact pleacherref02_Decode.mono _ _ _ ihj
  rw [show k = 10 + (k - 10) from by omega]; exact this _
theorem eg_crlf (u : List UInt8) : eg (B (13 :: 10 :: u)) = eg (B (10 :: u)) := by
  have hd := decR_ascii 13 (10 :: u) (by decide)
  have hcr := rune_cr hd
  rw [B_list, if_pos (by unfold Lib.hasPrefix; simp [List.isPrefixOf])] at hcr
  have h10 := rune_plain (decR_ascii 10 u (by decide)) (by decide) (by decide +kernel) (by decide) (by decide)
  have e : (encS ((10 : UInt8).toNat : Int)).1 = ⟨#[10]⟩ := by decide +kernel
  rw [e] at h10
  rw [eg_ok hcr, eg_ok h10, B_drop, B_drop]; rfl
/-- What Get's loop hands back. -/
def outG (s : ByteArray) (acc : ByteArray) (x : ByteArray × Option (Int × Nat)) : ByteArray × Int × Int := match x with
  | (y, none) => (acc ++ y, 0, 0)
  | (_, some (why, m)) => (⟨#[]⟩, (s.size : Int) - m, why)
theorem outG_app (s acc p : ByteArray) (x : ByteArray × Option (Int × Nat)) : outG s acc (p ++ x.1, x.2) = outG s (acc ++ p) x := by
  obtain ⟨y, o⟩ := x
  cases o with
  | none => unfold outG; simp only [app_assoc']
  | some z => rfl
set_option maxHeartbeats 1000000 in
theorem get_l (s : ByteArray) (hs : s.size ≤ 1073741824) : ∀ (k at_ m : Nat) (acc : ByteArray), at_ + m = s.size → 2 * m ≤ k → acc.size ≤ 4 * at_ →
    pleacherref04_Get.l0 (k + 60) s acc at_ = some (outG s acc (eg (B (s.data.toList.drop at_)))) := by
  have hl := size_data s
  intro k
  induction k using Nat.strongRecOn with
  | ind k ih =>
    intro at_ m acc h1 h2 h3
    obtain ⟨l, hlist⟩ : ∃ l, s.data.toList.drop at_ = l := ⟨_, rfl⟩
    have hll : l.length = m := by rw [← hlist, List.length_drop]; omega
    have hex : s.extract ((at_ : Int)).toNat s.size = B l := by
      rw [Int.toNat_natCast]; refine data_ext ?_
      rw [ext_list, hlist, B_list, List.take_of_length_le (by omega)]
    rw [hlist, show k + 60 = (k + 59) + 1 from rfl, pleacherref04_Get.l0]
    by_cases hm : m = 0
    · obtain rfl : l = [] := List.eq_nil_of_length_eq_zero (by omega)
      rw [if_neg (by omega), eg_nil (by rw [B_size]; rfl)]
      unfold outG; simp only [app_nil]
    rw [if_pos (by omega), if_pos (by omega), if_pos (by omega), hex, decode_k _ (by rw [B_size]; omega) _ (by omega), Option.bind_some]
    have z0 : (B l).size ≠ 0 := by rw [B_size]; omega
    have herr : ∀ why : Int, runeE (B l) = .error why → some (outG s acc (eg (B l))) = some ((⟨#[]⟩ : ByteArray), (at_ : Int), why) := fun why he => by
      rw [eg_err z0 he]
      unfold outG
      simp only []
      rw [B_size, hll, show (s.size : Int) - (m : Int) = (at_ : Int) from by omega]
    by_cases h0 : (decR (B l)).2.2 = 0
    · obtain ⟨r, n, e, hd⟩ : ∃ r n e, decR (B l) = (r, n, e) := ⟨_, _, _, rfl⟩
      rw [hd] at h0 ⊢
      obtain rfl : e = 0 := h0
      have hb := decR_n hd
      rw [B_size, hll] at hb
      obtain ⟨n, rfl⟩ := Int.eq_ofNat_of_zero_le (by omega : 0 ≤ n)
      simp only []
      rw [if_pos trivial]
      have nx : ∀ (p : ByteArray) (q : Nat), runeE (B l) = .ok (p, q) → p.size ≤ 4 → 1 ≤ q → q ≤ m → 2 ≤ k → pleacherref04_Get.l0 ((k - 2) + 60) s (acc ++ p) ((at_ + q : Nat) : Int) = some (outG s acc (eg (B l))) := by
        intro p q hr hp hq1 hq2 hk2
        rw [ih (k - 2) (by omega) (at_ + q) (m - q) (acc ++ p) (by omega) (by omega) (by rw [ByteArray.size_append]; omega), eg_ok hr, B_drop, outG_app, ← hlist, List.drop_drop]
      by_cases h60 : r = 60
      · rw [if_pos h60, show k + 59 = (k + 58) + 1 from rfl, pleacherref04_Get.j1, if_pos rfl]
        subst h60
        exact (herr 40 (rune_lt hd)).symm
      rw [if_neg h60, ref02_isChar, Option.bind_some]
      by_cases hc : isCharS r = true
      · rw [hc, show k + 59 = (k + 58) + 1 from rfl, pleacherref04_Get.j1, if_neg (by decide), if_pos (by omega), w64 (x := (at_ : Int) + (n : Int)) (by omega) (by omega), if_pos (by omega), if_pos (by omega)]
        have hk58 : k + 58 = (k - 2) + 60 := by omega
        by_cases h38 : r = 38
        · subst h38
          obtain ⟨c, u, hcu, _, rfl⟩ := dec_small hd (by decide)
          have ha := rune_amp hd
          rw [if_pos rfl, if_pos (by omega), hex, ref04_ref _ (by rw [B_size]; omega) _ (by omega), Option.bind_some]
          by_cases hre : (refS (B l)).2.2 = 0
          · rw [if_neg (by rw [hre]; decide)] at ha
            have hrb := refS_ok _ hre
            rw [B_size, hll] at hrb
            obtain ⟨q, hq⟩ := Int.eq_ofNat_of_zero_le (by omega : 0 ≤ (refS (B l)).2.1)
            rw [hq, Int.toNat_natCast] at ha
            rw [hq] at hrb
            have he4 := encS_size (refS (B l)).1
            rw [if_pos hre, ref02_encode, Option.bind_some, if_pos (by omega), hq, w64 (by omega) (by omega), show (at_ : Int) + (q : Int) = ((at_ + q : Nat) : Int) from by omega, hk58]
            exact nx _ q ha he4 (by omega) (by omega) (by omega)
          · rw [if_pos hre, ref_err _ hre] at ha
            rw [if_neg hre]
            exact (herr 40 ha).symm
        · rw [if_neg h38]
          by_cases h13 : r = 13
          · subst h13
            obtain ⟨c, u, hcu, hcv, rfl⟩ := dec_small hd (by decide)
            obtain rfl : l = c :: u := B_inj hcu
            obtain rfl : c = 13 := UInt8.toNat_inj.1 (by have : (13 : UInt8).toNat = 13 := rfl; omega)
            have hcr := rune_cr hd
            rw [B_list] at hcr
            rw [List.length_cons] at hll
            rw [if_pos rfl, w64 (x := (at_ : Int) + 1) (by omega) (by omega)]
            have e1 : (at_ : Int) + ((1 : Nat) : Int) = ((at_ + 1 : Nat) : Int) := by omega
            rw [e1, hk58]
            cases u with
            | nil =>
              rw [if_pos (by simp at hll; omega), if_pos (by omega)]
              rw [if_neg (by unfold Lib.hasPrefix; simp [List.isPrefixOf])] at hcr
              exact nx _ 1 hcr (by decide) (by omega) (by omega) (by omega)
            | cons d v =>
              have hat : (at_ + 1) < s.data.toList.length := by simp at hll; omega
              have hdd : s.data.toList[at_ + 1]? = some d := by
                have : (s.data.toList.drop at_)[1]? = some d := by rw [hlist]; rfl
                rw [List.getElem?_drop] at this; exact this
              have hbd := bt_list s (at_ + 1) d hdd
              have e2 : (at_ : Int) + 1 = ((at_ + 1 : Nat) : Int) := by omega
              rw [if_neg (by simp at hll; omega), if_pos (by omega), if_pos (by simp at hll; omega), e2, hbd]
              by_cases h10 : d = 10
              · subst h10
                rw [if_pos (show ((10 : UInt8).toNat : Int) = 10 from rfl), if_pos (by omega), app_nil, ih (k - 2) (by omega) (at_ + 1) (m - 1) acc (by omega) (by omega) (by omega), eg_crlf]
                have : s.data.toList.drop (at_ + 1) = 10 :: v := by rw [← List.drop_drop, hlist]; rfl
                rw [this]
              · rw [if_neg (fun e => h10 (UInt8.toNat_inj.1 (by have : (10 : UInt8).toNat = 10 := rfl; omega))), if_pos (by omega)]
                have hd10 : ((10 : UInt8) == d) = false := by rw [beq_eq_false_iff_ne]; exact fun e => h10 e.symm
                rw [if_neg (by unfold Lib.hasPrefix; simp [List.isPrefixOf, hd10])] at hcr
                exact nx _ 1 hcr (by decide) (by omega) (by omega) (by omega)
          · rw [if_neg h13]
            have hr := rune_plain hd h60 hc h38 h13
            have hen := decR_enc hd
            have he4 := encS_size r
            have hx : s.extract ((at_ : Int)).toNat (((at_ : Int) + (n : Int))).toNat = (encS r).1 := by
              rw [hen]
              refine data_ext ?_
              rw [ext_list, ext_list, B_list, Int.toNat_natCast, show ((at_ : Int) + (n : Int)).toNat = at_ + n from by omega, hlist, List.drop_zero]
              congr 1; omega
            rw [hx, if_pos (by omega), show (at_ : Int) + (n : Int) = ((at_ + n : Nat) : Int) from by omega, hk58]
            exact nx _ n hr he4 (by omega) (by omega) (by omega)
      · have hc : isCharS r = false := by simpa using hc
        rw [hc, show k + 59 = (k + 58) + 1 from rfl, pleacherref04_Get.j1, if_pos (show (!false) = true from rfl)]
        exact (herr 40 (rune_no hd hc)).symm
    · rw [if_neg h0]
      exact (herr 20 (rune_bad h0)).symm
theorem ref04_get (s : ByteArray) (hs : s.size ≤ 1073741824) (k : Nat) (hk : 2 * s.size + 60 ≤ k) : pleacherref04_Get.f k s = some (egS s) := by
  obtain ⟨j, rfl⟩ : ∃ j, k = j + 60 := ⟨k - 60, by omega⟩
  unfold pleacherref04_Get.f
  have := get_l s hs j 0 s.size ⟨#[]⟩ (by omega) (by omega) (by decide)
  refine this.trans ?_
  rw [List.drop_zero, list_B]
  unfold egS outG
  obtain ⟨x, o⟩ := eg s
  cases o with
  | none => simp only [nil_app]
  | some z => rfl
end Go.Proofs.YtbcjhmeeonhmaaaGreatDoor.H
end

/-
escape.Get, walked.
-/
section
set_option linter.unusedVariables false
set_option maxRecDepth 100000
namespace Go.Proofs.YtbcjhmeeonhmaaaGreatDoor.H
open Go Go.RowKit Go.Proofs.YtbcjhmeeonhmaaaGreatDoorW.PrintWords Go.Proofs.YtbcjhmeeonhmaaaGreatDoorW.PrintMore Go.Proofs.YtbcjhmeeonhmaaaGreatDoor.M
attribute [local go_sem] Oper.semAt_some

theorem parts_mk (X : Nat) (w : World) : Calls Tryz.prog 24 #[.pointer (some ⟨X, 0, none⟩)] w fun e w' =>
    e = .returned (.func (.func 46) #[] #[.pointer (some ⟨w.heap.size, 0, none⟩)]) ∧ w.alloc (.cells #[.pointer (some ⟨X, 0, none⟩)] 36) = w' := by
  have hmf : ∀ (fn : Fn) (first cap : Array Value) (w : World), (Instr.makeFunc fn first cap).run Tryz.prog w = .ok (.func fn first cap) w := fun _ _ _ _ => rfl
  go_enter Tryz.func24, Tryz.ntmps24
  go_wp2
  go_ret
  exact ⟨rfl, rfl⟩
theorem IsWrt.row {B b : Nat} {bs : List Value} {n : Int} {w w' : World} {row : Option Nat} (h : IsWrt B b bs n w) (k : w.grownBy w' row) (hr : ∀ r, row = some r → r < B ∨ ∃ o : Obj, w.heap[r]? = some o ∧ o.isCells = false) : IsWrt B b bs n w' := by
  have one : ∀ {p : Value}, WrtAt B b p bs n w → WrtAt B b p bs n w' := by
    intro p ⟨hB, v, hb, hown, hne⟩
    have h1 : row ≠ some b := by
      intro e
      rcases hr b e with h | ⟨o, ho, hc⟩
      · omega
      · rw [hb] at ho; injection ho with ho; subst ho; cases hc
    have h2 : v.ownBlock = none ∨ v.ownBlock ≠ row := by
      rcases hown.2 with ⟨rfl, _⟩ | ⟨g, cap, cur, fz, rfl, hg1, hg2, _⟩
      · exact .inl rfl
      · right
        intro e
        simp only [Value.ownBlock] at e
        rcases hr g e.symm with h | ⟨o, ho, hc⟩
        · omega
        · rw [hg2] at ho; injection ho with ho; subst ho; cases hc
    exact ⟨hB, v, (k.block b (lt_of_heap hb) (fun e => h1 e.symm)).trans hb, hown.kept (row := row) k h2, hne⟩
  rcases h with h | h
  · exact .inl (one h)
  · exact .inr (one h)
def GetInv (s : ByteArray) (R : Nat) (w0 : World) (pre : List ByteArray) (W : World) : Prop :=
  IsWrt (R + 1) (R + 1) (Lib.strCells (catL pre)) (catL pre).size W ∧ Boxed W (R + 1 + 1) 43 (.pointer (some ⟨R + 1, 0, none⟩)) ∧ Boxed W (R + 1 + 1 + 1) 36 (.pointer (some ⟨R, 0, none⟩)) ∧ Below w0.heap.size w0 W ∧ R + 4 ≤ W.heap.size
theorem GetInv.row {s : ByteArray} {R : Nat} {w0 : World} (hR : w0.heap.size = R) {pre : List ByteArray} {W W' : World} {row : Option Nat} (h : GetInv s R w0 pre W) (k : W.grownBy W' row) (hr : ∀ r, row = some r → r = R ∨ (R + 4 ≤ r ∧ ∃ o : Obj, W.heap[r]? = some o ∧ o.isCells = false)) : GetInv s R w0 pre W' := by
  obtain ⟨h1, h2, h3, h4, h5⟩ := h
  have n1 : ∀ i, R < i → i < R + 4 → row ≠ some i := fun i a b e => by rcases hr i e with h | h <;> omega
  refine ⟨h1.row k (fun r e => ?_), (k.block _ (by omega) (fun e => n1 _ (by omega) (by omega) e.symm)).trans h2, (k.block _ (by omega) (fun e => n1 _ (by omega) (by omega) e.symm)).trans h3, h4.trans ⟨k.os, k.tape, k.output, k.size, fun i hi => k.block i (by have := h4.size; omega) (fun e => ?_)⟩, Nat.le_trans h5 k.size⟩
  · rcases hr r e with h | h
    · left; omega
    · exact .inr h.2
  · rcases hr i e.symm with h | h <;> omega
def GetPost (s : ByteArray) (w : World) (e : Ending) (w' : World) : Prop := e = .returned (.tuple #[.string (egS s).1, .int .i64 (egS s).2.1, .int .i64 (egS s).2.2]) ∧ Below w.heap.size w w'
set_option maxHeartbeats 4000000 in
theorem eGet (s : ByteArray) (w : World) (hG : GW w) (hs : s.size ≤ 1073741824) : Calls Tryz.prog 11 #[.string s] w (GetPost s w) := by
  have HS := Lib.hid hs
  refine (callsIn_wide (n := 0)).1 ?_
  refine callsIn_of_wp_marks Tryz.func11 rfl trivial ?_ rfl
  simp only [Tryz.ntmps11, List.size_toArray, List.length_cons, List.length_nil, Nat.reduceAdd, Nat.reduceSub, Array.replicate_succ, Array.replicate_zero, List.push_toArray, List.append_toArray, List.nil_append, List.cons_append]
  gi_wp2_with (refine ⟨trivial, rfl, ?_⟩; gi_at_call 24; refine callsIn_wide.2 ((parts_mk _ _).mono ?_); rintro e w' ⟨rfl, rfl⟩)
  obtain ⟨W0, hW0⟩ : ∃ W0, (((w.alloc (.cells #[.string s, .int .i64 s.size, .nilIface] 42)).alloc (.cells #[.pointer none, .slice none 0 0, .int .i64 0] 54)).alloc (.cells #[.pointer (some ⟨w.heap.size + 1, 0, none⟩)] 43)).alloc (.cells #[.pointer (some ⟨w.heap.size, 0, none⟩)] 36) = W0 := ⟨_, rfl⟩
  rw [hW0]
  have hz : W0.heap.size = w.heap.size + 4 := by rw [← hW0]; simp
  have hB0 : Below w.heap.size w W0 := by rw [← hW0]; exact ((((Below.refl _ w).alloc (Nat.le_refl _) _).alloc (by simp) _).alloc (by simp; omega) _).alloc (by simp; omega) _
  have hRd : RdE w.heap.size s s.size .nilIface W0 := by rw [← hW0]; exact heap_old (heap_old (heap_old (heap_new _ _) _) _) _
  have hWr : W0.heap[w.heap.size + 1]? = some (.cells #[.pointer none, .slice none 0 0, .int .i64 0] 54) := by
    rw [← hW0]; have := heap_new (w.alloc (.cells #[.string s, .int .i64 s.size, .nilIface] 42)) (.cells #[.pointer none, .slice none 0 0, .int .i64 0] 54); rw [World.size_alloc] at this; exact heap_old (heap_old this _) _
  have hbV : Boxed W0 (w.heap.size + 1 + 1) 43 (.pointer (some ⟨w.heap.size + 1, 0, none⟩)) := by
    rw [← hW0]; have := heap_new ((w.alloc (.cells #[.string s, .int .i64 s.size, .nilIface] 42)).alloc (.cells #[.pointer none, .slice none 0 0, .int .i64 0] 54)) (.cells #[.pointer (some ⟨w.heap.size + 1, 0, none⟩)] 43); rw [World.size_alloc, World.size_alloc] at this; exact heap_old this _
  have hbB : Boxed W0 (w.heap.size + 1 + 1 + 1) 36 (.pointer (some ⟨w.heap.size, 0, none⟩)) := by
    rw [← hW0]; have := heap_new (((w.alloc (.cells #[.string s, .int .i64 s.size, .nilIface] 42)).alloc (.cells #[.pointer none, .slice none 0 0, .int .i64 0] 54)).alloc (.cells #[.pointer (some ⟨w.heap.size + 1, 0, none⟩)] 43)) (.cells #[.pointer (some ⟨w.heap.size, 0, none⟩)] 36); rw [World.size_alloc, World.size_alloc, World.size_alloc] at this; exact this
  have hI0 : GetInv s w.heap.size w [] W0 := ⟨.inl ⟨Nat.le_refl _, _, hWr, ⟨rfl, .inl ⟨rfl, rfl⟩⟩, by simp [Value.ownBlock]⟩, hbV, hbB, hB0, by omega⟩
  clear hW0 hs
  refine wp_rangeFunc_iterG (gf := 46) (lb := #[.pointer (some ⟨w.heap.size + 1 + 1 + 1, 0, none⟩)]) rfl (enters_of Tryz.func46 (by kernel_rfl) rfl)
    (parts_iter w hG w.heap.size (w.heap.size + 1 + 1 + 1) (Nat.le_refl _) s HS.out)
    (fun A B h k o hk h1 h2 h3 => (h.block k (lt_of_heap h1) (by intro e; injection e; omega)).trans h1)
    (fun W h => ⟨celB (h.mono (Nat.le_refl _)) hbB.cell, hRd.below h, hB0.trans (h.mono (by omega)), by omega⟩)
    (fun h k => ⟨k.1.trans h.1, k.2.1.trans h.2.1, fun b => k.2.2 (h.2.2 b)⟩)
    (fun W l o o' hl h h1 h2 => ⟨World.putObj_heap_other (by omega), World.putObj_heap_other (by omega), fun b => b.trans ⟨rfl, rfl, rfl, by rw [World.putObj_size]; exact Nat.le_refl _, fun i hi => World.putObj_heap_other (by have := b.size; omega)⟩⟩) (fun _ => rfl)
    (fun pre W => GetInv s w.heap.size w pre W) (fun _ _ _ => False) ?hI (fun _ _ _ _ _ hs _ _ => hs) ?hIs (fun _ _ _ _ h _ => h) ?hY ?hS ?hSp hI0
    (fun x => { tmps := #[.string s, undef, .string ⟨#[]⟩, .int .i64 0, .int .i64 0, .pointer (some ⟨w.heap.size, 0, none⟩), .pointer (some ⟨w.heap.size + 1 + 1, 0, none⟩), .string x, undef, undef, .string s, .agg #[.string s], .string s, .int .i64 s.size, .agg #[.string s, .int .i64 s.size, .nilIface], .pointer (some ⟨w.heap.size, 0, none⟩), .agg #[.pointer none, .slice none 0 0, .int .i64 0], .pointer (some ⟨w.heap.size + 1, 0, none⟩), .pointer (some ⟨w.heap.size, 0, none⟩), .func (.func 46) #[] #[.pointer (some ⟨w.heap.size + 1 + 1 + 1, 0, none⟩)], .string x, undef, undef, undef, undef, undef, undef, undef, undef, undef, undef, undef, undef, undef, undef, undef, undef, undef, undef, undef, undef, undef, undef, undef], defers := [] })
    ?assign ?body ?done ?stop
  case hI =>
    intro pre A B row h hg hrow
    exact h.row rfl hg (fun r e => .inr ⟨by have := (hrow r e).1; omega, (hrow r e).2⟩)
  case hIs =>
    intro pre A B h hst
    exact h.row rfl hst (fun r e => .inl (by injection e with e; exact e.symm))
  case hY => intro x; exact ownFrom_pure _ _
  case hS =>
    rintro xs A B row ⟨t, h1, h2⟩ hg hrow
    have hk : ∀ {t' : ByteArray} {ev : Value}, RdE w.heap.size t' s.size ev A → RdE w.heap.size t' s.size ev B := fun h => h.same (hg.block _ (lt_of_heap h) (fun e => by have := (hrow _ e.symm).1; omega))
    exact ⟨t, h1, h2.elim (fun ⟨a, b⟩ => .inl ⟨a, hk b⟩) (fun ⟨a, y, b, c⟩ => .inr ⟨a, y, b, hk c⟩)⟩
  case hSp => exact ownFrom_pure _ _
  case assign =>
    intro l x W K hK
    unfold encP
    gi_wp2
    exact hK
  case stop =>
    rintro D c pre W _ _ h _
    exact h.elim
  case body =>
    rintro l pre x W ⟨hW, hV, hBx, hB, hz'⟩ ⟨t, hP⟩
    have hsz := hP.size
    rw [catL_snoc, ByteArray.size_append, List.length_append, List.length_singleton] at hsz
    have hss := HS.out
    have hc := hV.cell
    obtain ⟨W1, hW1⟩ : ∃ W1, W.alloc (.cells #[.string x] 9) = W1 := ⟨_, rfl⟩
    have hb1 : Below W.heap.size W W1 := by rw [← hW1]; exact below_one _ _
    have c1 : W1.cell? ⟨W.heap.size, 0, none⟩ = some (.string x) := by rw [← hW1]; exact cel_new W _ _ 0 rfl
    have hW' := hW.below hb1
    obtain ⟨p5, v5, hh5⟩ := hW'.heap
    have HWr := Lib.hid (write1 (w.heap.size + 1) (w.heap.size + 1) W.heap.size 1 _ _ x W1 hW' c1 (by rw [Lib.strCells_length]; omega) (by omega) (by have := hb1.size; omega))
    have hc1 := celB hb1 hc
    gi_wp2_with fail
    refine ⟨trivial, rfl, CallsIn.inRound l (callsIn_wide.2 (HWr.out.mono ?_))⟩
    rintro e w6 ⟨rfl, hw6, hb6, hk6⟩
    have keep : ∀ (i : Nat) (o : Obj), W.heap[i]? = some o → i ≠ w.heap.size + 1 → (∀ c fz, o ≠ .cells c 5 fz) → w6.heap[i]? = some o := fun i o h1 h2 h3 => hk6 i o (heapB hb1 (lt_of_heap h1) h1) (by intro e; injection e; omega) h3
    have hB6 : Below w.heap.size w w6 := (hB.trans (hb1.mono hB.size)).trans (hb6.mono (by omega))
    have HE : Hid (iterPost W0.heap.size (PKeep w w.heap.size (w.heap.size + 1 + 1 + 1)) (fun pre W => GetInv s w.heap.size w pre W) (fun _ _ _ => False) (pre ++ [x]) W .normal { tmps := #[], defers := [] } w6) := by
      refine Lib.hid ⟨⟨Nat.le_trans hb1.size hb6.size, fun k o hk ho hc => keep k o ho (by omega) (by intro c fz e; rw [e] at hc; cases hc)⟩, ⟨?_, ?_, fun _ => hB6⟩, ?_⟩
      · exact (hb6.block _ (by omega)).trans (hb1.block _ (by omega))
      · exact (keep _ _ hBx (by omega) (fun c fz e => by injection e with _ e _; cases e)).trans hBx.symm
      · refine ⟨.inr ?_, keep _ _ hV (by omega) (fun c fz e => by injection e with _ e _; cases e), keep _ _ hBx (by omega) (fun c fz e => by injection e with _ e _; cases e), hB6, by have := hb1.size; have := hb6.size; omega⟩
        rw [catL_snoc, strCells_app, ByteArray.size_append]
        have : (((catL pre).size + x.size : Nat) : Int) = ((catL pre).size : Int) + (x.size : Int) := by omega
        rw [this]
        exact hw6
    clear hW' hW hb6 hk6 hw6 hb1 hh5 keep
    gi_wp2
    exact HE.out
  case done =>
    rintro D xs W hD ⟨t, hE, hend⟩ ⟨hW, hV, hBx, hB, hz'⟩ hK
    have hc := hV.cell
    have hlt : D < W.heap.size := lt_of_heap hK
    rcases hend with ⟨ht, hR⟩ | ⟨h0, why, hr, hR⟩
    · have HGS := Lib.hid (egS_done hE ht)
      have c2 := hR.c2
      have HT := Lib.hid (wTextK (w.heap.size + 1) (w.heap.size + 1) (catL xs).data.toList _ W hW (by omega))
      obtain ⟨p, v, hh⟩ := hW.heap
      clear ht hE hW
      gi_wp2_with fail
      refine ⟨trivial, rfl, callsIn_wide.2 (HT.out.mono ?_)⟩
      rintro _ W2 ⟨rfl, hb2, hk2⟩
      have hK2 := hk2 D _ hK (by simp) (fun c fz e => by cases e)
      gi_wp2
      refine ⟨by simp, .inl ⟨_, _, rfl, run_takeDeferred hK2, ?_⟩⟩
      refine ⟨_, results_tmp3 rfl _ _ _, ?_⟩
      refine ⟨by rw [HGS.out]; rfl, ?_⟩
      exact (hB.trans (hb2.mono (by omega))).trans (belowK_b (w := w) (Nat.le_refl _) W2 D _ _ (by omega) hK2 rfl rfl)
    · have HGS := Lib.hid (egS_bad hE h0 hr)
      obtain ⟨n, hn⟩ : ∃ n, (s.size : Int) - t.size = n := ⟨_, rfl⟩
      rw [hn] at HGS hR
      have c2 := hR.c2
      have HT := Lib.hid (eTold why n W (hG.below hB))
      unfold wrongV at c2 HT
      clear h0 hr hE hn hW
      gi_wp2_with fail
      refine ⟨trivial, rfl, callsIn_wide.2 (HT.out.mono ?_)⟩
      rintro _ W2 ⟨rfl, hb2⟩
      have hK2 := heapB hb2 (lt_of_heap hK) hK
      gi_wp2
      refine ⟨by simp, .inl ⟨_, _, rfl, run_takeDeferred hK2, ?_⟩⟩
      refine ⟨_, results_tmp3 rfl _ _ _, ?_⟩
      refine ⟨by rw [HGS.out]; rfl, ?_⟩
      exact (hB.trans (hb2.mono hB.size)).trans (belowK_b (w := w) (Nat.le_refl _) W2 D _ _ (by omega) hK2 rfl rfl)
end Go.Proofs.YtbcjhmeeonhmaaaGreatDoor.H
end

-- Laid by a program of this session for this claim.
section
namespace Go.Proofs.YtbcjhmeeonhmaaaGreatDoor.M
open Go.RowKit Go.Proofs.YtbcjhmeeonhmaaaGreatDoorW.PrintWords Go.Proofs.YtbcjhmeeonhmaaaGreatDoorW.PrintLast Go.Proofs.YtbcjhmeeonhmaaaGreatDoorW.PrintMore
attribute [local go_sem] max2_int min2_int max_two min_two max_three min_three max_four min_four   -- for this text's walks alone
set_option linter.unusedVariables false
set_option linter.unusedSimpArgs false

/-! ### escape_Get: function 11 -/
-- IMPORT Derived.Test.YtbcjhmeeonhmaaaGreatDoorHEGet Derived.Test.YtbcjhmeeonhmaaaGreatDoorHGmZ
def escape_Get.f (a0 : ByteArray) : Option (ByteArray × Int × Int) := if a0.size ≤ 1073741824 then some (H.egS a0) else none
theorem escape_Get.calls (a0 : ByteArray) (r1 : ByteArray) (r2 : Int) (r3 : Int) (w : World) (hG : GW w) (h : escape_Get.f a0 = some (r1, r2, r3)) :
    Calls Tryz.prog 11 #[.string a0] w fun e w' => e = .returned (.tuple #[.string r1, .int .i64 r2, .int .i64 r3]) ∧ Below w.heap.size w w' := by
  unfold escape_Get.f at h
  by_cases hh : a0.size ≤ 1073741824
  · rw [if_pos hh] at h
    have := H.eGet a0 w (GW.g hG) hh
    unfold H.GetPost at this
    rw [Option.some.inj h] at this
    exact this
  · rw [if_neg hh] at h; cases h

end Go.Proofs.YtbcjhmeeonhmaaaGreatDoor.M
end

-- Laid by a program of this session for this claim.
section
namespace Go.Proofs.YtbcjhmeeonhmaaaGreatDoor.M
open Go.RowKit Go.Proofs.YtbcjhmeeonhmaaaGreatDoorW.PrintWords Go.Proofs.YtbcjhmeeonhmaaaGreatDoorW.PrintLast Go.Proofs.YtbcjhmeeonhmaaaGreatDoorW.PrintMore
attribute [local go_sem] max2_int min2_int max_two min_two max_three min_three max_four min_four   -- for this text's walks alone
set_option linter.unusedVariables false
set_option linter.unusedSimpArgs false

/-! ### escape_Put: function 16 -/
-- IMPORT Derived.Test.YtbcjhmeeonhmaaaGreatDoorHESize
def escape_Put.f (a0 : ByteArray) : Option (ByteArray × Int) := if a0.size ≤ 1073741824 then some (H.ePutS a0) else none
theorem escape_Put.calls (a0 : ByteArray) (r1 : ByteArray) (r2 : Int) (w : World) (h : escape_Put.f a0 = some (r1, r2)) :
    Calls Tryz.prog 16 #[.string a0] w fun e w' => e = .returned (.tuple #[.string r1, .int .i64 r2]) ∧ Below w.heap.size w w' := by
  unfold escape_Put.f at h
  by_cases hh : a0.size ≤ 1073741824
  · rw [if_pos hh] at h
    have := H.ePut a0 w hh
    rw [Option.some.inj h] at this
    exact this
  · rw [if_neg hh] at h; cases h

end Go.Proofs.YtbcjhmeeonhmaaaGreatDoor.M
end

-- Laid by a program of this session for this claim.
section
namespace Go.Proofs.YtbcjhmeeonhmaaaGreatDoor.M
open Go.RowKit Go.Proofs.YtbcjhmeeonhmaaaGreatDoorW.PrintWords Go.Proofs.YtbcjhmeeonhmaaaGreatDoorW.PrintLast Go.Proofs.YtbcjhmeeonhmaaaGreatDoorW.PrintMore
attribute [local go_sem] max2_int min2_int max_two min_two max_three min_three max_four min_four   -- for this text's walks alone
set_option linter.unusedVariables false
set_option linter.unusedSimpArgs false

/-! ### pleacherlaw04_shown: function 10 -/
def pleacherlaw04_shown.f  : Option (Bool) := (escape_Put.f (⟨#[97, 60, 34]⟩ : ByteArray)).bind fun bt101 => ((escape_Get.f (⟨#[38, 35, 120, 50, 48, 65, 67, 59, 38, 97, 112, 111, 115, 59]⟩ : ByteArray)).bind fun bt103 => ((escape_Get.f (⟨#[97, 98, 38, 120, 59]⟩ : ByteArray)).bind fun bt106 => (if bt101.1.toList = ([97, 38, 108, 116, 59, 38, 113, 117, 111, 116, 59] : List UInt8) then (if bt101.2 = 0 then (if bt103.1.toList = ([226, 130, 172, 39] : List UInt8) then (if bt103.2.1 = 0 then (if bt103.2.2 = 0 then (if bt106.2.1 = 2 then (some (bt106.2.2 == 40)) else (some false)) else (some false)) else (some false)) else (some false)) else (some false)) else (some false))))
set_option maxHeartbeats 8000000 in
set_option maxRecDepth 100000 in
theorem pleacherlaw04_shown.calls  (r : Bool) (w : World) (hG : GW w) (h : pleacherlaw04_shown.f  = some r) :
    Calls Tryz.prog 10 #[] w fun e w' => e = .returned (.bool r) ∧ Below w.heap.size w w' := by
  have HG := Aside0.mk hG
  clear hG
  have HB := Aside0.mk (Below.refl w.heap.size w)
  have H : ((escape_Put.f (⟨#[97, 60, 34]⟩ : ByteArray)).bind fun bt101 => ((escape_Get.f (⟨#[38, 35, 120, 50, 48, 65, 67, 59, 38, 97, 112, 111, 115, 59]⟩ : ByteArray)).bind fun bt103 => ((escape_Get.f (⟨#[97, 98, 38, 120, 59]⟩ : ByteArray)).bind fun bt106 => (if bt101.1.toList = ([97, 38, 108, 116, 59, 38, 113, 117, 111, 116, 59] : List UInt8) then (if bt101.2 = 0 then (if bt103.1.toList = ([226, 130, 172, 39] : List UInt8) then (if bt103.2.1 = 0 then (if bt103.2.2 = 0 then (if bt106.2.1 = 2 then (some (bt106.2.2 == 40)) else (some false)) else (some false)) else (some false)) else (some false)) else (some false)) else (some false))))) = some r := h
  clear h
  replace H := Option.bind_eq_some_iff.mp H
  obtain ⟨⟨t101, t102⟩, A10, H⟩ := H
  replace H : ((escape_Get.f (⟨#[38, 35, 120, 50, 48, 65, 67, 59, 38, 97, 112, 111, 115, 59]⟩ : ByteArray)).bind fun bt103 => ((escape_Get.f (⟨#[97, 98, 38, 120, 59]⟩ : ByteArray)).bind fun bt106 => (if t101.toList = ([97, 38, 108, 116, 59, 38, 113, 117, 111, 116, 59] : List UInt8) then (if t102 = 0 then (if bt103.1.toList = ([226, 130, 172, 39] : List UInt8) then (if bt103.2.1 = 0 then (if bt103.2.2 = 0 then (if bt106.2.1 = 2 then (some (bt106.2.2 == 40)) else (some false)) else (some false)) else (some false)) else (some false)) else (some false)) else (some false)))) = some r := H
  have A1 := Aside0.mk A10
  clear A10
  replace H := Option.bind_eq_some_iff.mp H
  obtain ⟨⟨t103, t104, t105⟩, A20, H⟩ := H
  replace H : ((escape_Get.f (⟨#[97, 98, 38, 120, 59]⟩ : ByteArray)).bind fun bt106 => (if t101.toList = ([97, 38, 108, 116, 59, 38, 113, 117, 111, 116, 59] : List UInt8) then (if t102 = 0 then (if t103.toList = ([226, 130, 172, 39] : List UInt8) then (if t104 = 0 then (if t105 = 0 then (if bt106.2.1 = 2 then (some (bt106.2.2 == 40)) else (some false)) else (some false)) else (some false)) else (some false)) else (some false)) else (some false))) = some r := H
  have A2 := Aside0.mk A20
  clear A20
  replace H := Option.bind_eq_some_iff.mp H
  obtain ⟨⟨t106, t107, t108⟩, A30, H⟩ := H
  replace H : (if t101.toList = ([97, 38, 108, 116, 59, 38, 113, 117, 111, 116, 59] : List UInt8) then (if t102 = 0 then (if t103.toList = ([226, 130, 172, 39] : List UInt8) then (if t104 = 0 then (if t105 = 0 then (if t107 = 2 then (some (t108 == 40)) else (some false)) else (some false)) else (some false)) else (some false)) else (some false)) else (some false)) = some r := H
  have A3 := Aside0.mk A30
  clear A30
  by_cases c4 : t101.toList = ([97, 38, 108, 116, 59, 38, 113, 117, 111, 116, 59] : List UInt8)
  · rw [if_pos c4] at H
    have c4b0 : (t101.toList == ([97, 38, 108, 116, 59, 38, 113, 117, 111, 116, 59] : List UInt8)) = true := beq_iff_eq.mpr c4
    have c4b1 : (t101.toList != ([97, 38, 108, 116, 59, 38, 113, 117, 111, 116, 59] : List UInt8)) = false := bne_eq_false_iff_eq.mpr c4
    clear c4
    by_cases c5 : t102 = 0
    · rw [if_pos c5] at H
      have c5b0 : (t102 == 0) = true := beq_iff_eq.mpr c5
      have c5b1 : (t102 != 0) = false := bne_eq_false_iff_eq.mpr c5
      clear c5
      by_cases c6 : t103.toList = ([226, 130, 172, 39] : List UInt8)
      · rw [if_pos c6] at H
        have c6b0 : (t103.toList == ([226, 130, 172, 39] : List UInt8)) = true := beq_iff_eq.mpr c6
        have c6b1 : (t103.toList != ([226, 130, 172, 39] : List UInt8)) = false := bne_eq_false_iff_eq.mpr c6
        clear c6
        by_cases c7 : t104 = 0
        · rw [if_pos c7] at H
          have c7b0 : (t104 == 0) = true := beq_iff_eq.mpr c7
          have c7b1 : (t104 != 0) = false := bne_eq_false_iff_eq.mpr c7
          clear c7
          by_cases c8 : t105 = 0
          · rw [if_pos c8] at H
            have c8b0 : (t105 == 0) = true := beq_iff_eq.mpr c8
            have c8b1 : (t105 != 0) = false := bne_eq_false_iff_eq.mpr c8
            clear c8
            by_cases c9 : t107 = 2
            · rw [if_pos c9] at H
              have c9b0 : (t107 == 2) = true := beq_iff_eq.mpr c9
              have c9b1 : (t107 != 2) = false := bne_eq_false_iff_eq.mpr c9
              clear c9
              obtain rfl := Option.some.inj H
              go_enter Tryz.func10, Tryz.ntmps10
              go_wp2_with (first | ((with_reducible refine gate_callee (f := 16) rfl ?_); refine goesL_ (some 10) rfl rfl Tryz.func16 (by kernel_rfl) rfl #[.string (⟨#[97, 60, 34]⟩ : ByteArray)] rfl (by (try simp only [List.map_toArray, List.map_cons, List.map_nil]); first | done | rfl | (simp only [List.length_drop, List.length_take]; rfl)) ?_; (with_reducible refine (escape_Put.calls (⟨#[97, 60, 34]⟩ : ByteArray) t101 t102 _ A1.out).mono ?_); rintro e w10 ⟨rfl, hb⟩; refine ⟨_, rfl, ?_⟩; have n0_ := Aside0.mk (below_step (by repeat (first | (with_reducible first | exact HB.out | apply below_alloc | apply pw_below_drewN | apply below_drew1) | exact HB.out)) hb); clear HB; have HB := n0_; clear n0_; (try clear hb); (try clear hb2); (try clear hk); (try clear hi)) | ((with_reducible refine gate_callee (f := 11) rfl ?_); refine goesL_ (some 14) rfl rfl Tryz.func11 (by kernel_rfl) rfl #[.string (⟨#[38, 35, 120, 50, 48, 65, 67, 59, 38, 97, 112, 111, 115, 59]⟩ : ByteArray)] rfl (by (try simp only [List.map_toArray, List.map_cons, List.map_nil]); first | done | rfl | (simp only [List.length_drop, List.length_take]; rfl)) ?_; (with_reducible refine (escape_Get.calls (⟨#[38, 35, 120, 50, 48, 65, 67, 59, 38, 97, 112, 111, 115, 59]⟩ : ByteArray) t103 t104 t105 _ ?side1 A2.out).mono ?_); (case side1 => exact GW.below HG.out (by repeat (first | (with_reducible first | exact HB.out | apply below_alloc | apply pw_below_drewN | apply below_drew1) | exact HB.out))); rintro e w11 ⟨rfl, hb⟩; refine ⟨_, rfl, ?_⟩; have n0_ := Aside0.mk (below_step (by repeat (first | (with_reducible first | exact HB.out | apply below_alloc | apply pw_below_drewN | apply below_drew1) | exact HB.out)) hb); clear HB; have HB := n0_; clear n0_; (try clear hb); (try clear hb2); (try clear hk); (try clear hi)) | ((with_reducible refine gate_callee (f := 11) rfl ?_); refine goesL_ (some 19) rfl rfl Tryz.func11 (by kernel_rfl) rfl #[.string (⟨#[97, 98, 38, 120, 59]⟩ : ByteArray)] rfl (by (try simp only [List.map_toArray, List.map_cons, List.map_nil]); first | done | rfl | (simp only [List.length_drop, List.length_take]; rfl)) ?_; (with_reducible refine (escape_Get.calls (⟨#[97, 98, 38, 120, 59]⟩ : ByteArray) t106 t107 t108 _ ?side1 A3.out).mono ?_); (case side1 => exact GW.below HG.out (by repeat (first | (with_reducible first | exact HB.out | apply below_alloc | apply pw_below_drewN | apply below_drew1) | exact HB.out))); rintro e w12 ⟨rfl, hb⟩; refine ⟨_, rfl, ?_⟩; have n0_ := Aside0.mk (below_step (by repeat (first | (with_reducible first | exact HB.out | apply below_alloc | apply pw_below_drewN | apply below_drew1) | exact HB.out)) hb); clear HB; have HB := n0_; clear n0_; (try clear hb); (try clear hb2); (try clear hk); (try clear hi)))
              go_ret
              exact ⟨by first | rfl | (simp [errW_none, errW_some] <;> rfl) | (simp [*, errW_none, errW_some] <;> rfl), by repeat (first | (with_reducible first | exact HB.out | apply below_alloc | apply pw_below_drewN | apply below_drew1) | exact HB.out)⟩
            · rw [if_neg c9] at H
              have c9b0 : (t107 == 2) = false := beq_eq_false_iff_ne.mpr c9
              have c9b1 : (t107 != 2) = true := bne_iff_ne.mpr c9
              obtain rfl := Option.some.inj H
              go_enter Tryz.func10, Tryz.ntmps10
              go_wp2_with (first | ((with_reducible refine gate_callee (f := 16) rfl ?_); refine goesL_ (some 10) rfl rfl Tryz.func16 (by kernel_rfl) rfl #[.string (⟨#[97, 60, 34]⟩ : ByteArray)] rfl (by (try simp only [List.map_toArray, List.map_cons, List.map_nil]); first | done | rfl | (simp only [List.length_drop, List.length_take]; rfl)) ?_; (with_reducible refine (escape_Put.calls (⟨#[97, 60, 34]⟩ : ByteArray) t101 t102 _ A1.out).mono ?_); rintro e w13 ⟨rfl, hb⟩; refine ⟨_, rfl, ?_⟩; have n0_ := Aside0.mk (below_step (by repeat (first | (with_reducible first | exact HB.out | apply below_alloc | apply pw_below_drewN | apply below_drew1) | exact HB.out)) hb); clear HB; have HB := n0_; clear n0_; (try clear hb); (try clear hb2); (try clear hk); (try clear hi)) | ((with_reducible refine gate_callee (f := 11) rfl ?_); refine goesL_ (some 14) rfl rfl Tryz.func11 (by kernel_rfl) rfl #[.string (⟨#[38, 35, 120, 50, 48, 65, 67, 59, 38, 97, 112, 111, 115, 59]⟩ : ByteArray)] rfl (by (try simp only [List.map_toArray, List.map_cons, List.map_nil]); first | done | rfl | (simp only [List.length_drop, List.length_take]; rfl)) ?_; (with_reducible refine (escape_Get.calls (⟨#[38, 35, 120, 50, 48, 65, 67, 59, 38, 97, 112, 111, 115, 59]⟩ : ByteArray) t103 t104 t105 _ ?side1 A2.out).mono ?_); (case side1 => exact GW.below HG.out (by repeat (first | (with_reducible first | exact HB.out | apply below_alloc | apply pw_below_drewN | apply below_drew1) | exact HB.out))); rintro e w14 ⟨rfl, hb⟩; refine ⟨_, rfl, ?_⟩; have n0_ := Aside0.mk (below_step (by repeat (first | (with_reducible first | exact HB.out | apply below_alloc | apply pw_below_drewN | apply below_drew1) | exact HB.out)) hb); clear HB; have HB := n0_; clear n0_; (try clear hb); (try clear hb2); (try clear hk); (try clear hi)) | ((with_reducible refine gate_callee (f := 11) rfl ?_); refine goesL_ (some 19) rfl rfl Tryz.func11 (by kernel_rfl) rfl #[.string (⟨#[97, 98, 38, 120, 59]⟩ : ByteArray)] rfl (by (try simp only [List.map_toArray, List.map_cons, List.map_nil]); first | done | rfl | (simp only [List.length_drop, List.length_take]; rfl)) ?_; (with_reducible refine (escape_Get.calls (⟨#[97, 98, 38, 120, 59]⟩ : ByteArray) t106 t107 t108 _ ?side1 A3.out).mono ?_); (case side1 => exact GW.below HG.out (by repeat (first | (with_reducible first | exact HB.out | apply below_alloc | apply pw_below_drewN | apply below_drew1) | exact HB.out))); rintro e w15 ⟨rfl, hb⟩; refine ⟨_, rfl, ?_⟩; have n0_ := Aside0.mk (below_step (by repeat (first | (with_reducible first | exact HB.out | apply below_alloc | apply pw_below_drewN | apply below_drew1) | exact HB.out)) hb); clear HB; have HB := n0_; clear n0_; (try clear hb); (try clear hb2); (try clear hk); (try clear hi)))
              go_ret
              exact ⟨by first | rfl | (simp [errW_none, errW_some] <;> rfl) | (simp [*, errW_none, errW_some] <;> rfl), by repeat (first | (with_reducible first | exact HB.out | apply below_alloc | apply pw_below_drewN | apply below_drew1) | exact HB.out)⟩
          · rw [if_neg c8] at H
            have c8b0 : (t105 == 0) = false := beq_eq_false_iff_ne.mpr c8
            have c8b1 : (t105 != 0) = true := bne_iff_ne.mpr c8
            obtain rfl := Option.some.inj H
            go_enter Tryz.func10, Tryz.ntmps10
            go_wp2_with (first | ((with_reducible refine gate_callee (f := 16) rfl ?_); refine goesL_ (some 10) rfl rfl Tryz.func16 (by kernel_rfl) rfl #[.string (⟨#[97, 60, 34]⟩ : ByteArray)] rfl (by (try simp only [List.map_toArray, List.map_cons, List.map_nil]); first | done | rfl | (simp only [List.length_drop, List.length_take]; rfl)) ?_; (with_reducible refine (escape_Put.calls (⟨#[97, 60, 34]⟩ : ByteArray) t101 t102 _ A1.out).mono ?_); rintro e w16 ⟨rfl, hb⟩; refine ⟨_, rfl, ?_⟩; have n0_ := Aside0.mk (below_step (by repeat (first | (with_reducible first | exact HB.out | apply below_alloc | apply pw_below_drewN | apply below_drew1) | exact HB.out)) hb); clear HB; have HB := n0_; clear n0_; (try clear hb); (try clear hb2); (try clear hk); (try clear hi)) | ((with_reducible refine gate_callee (f := 11) rfl ?_); refine goesL_ (some 14) rfl rfl Tryz.func11 (by kernel_rfl) rfl #[.string (⟨#[38, 35, 120, 50, 48, 65, 67, 59, 38, 97, 112, 111, 115, 59]⟩ : ByteArray)] rfl (by (try simp only [List.map_toArray, List.map_cons, List.map_nil]); first | done | rfl | (simp only [List.length_drop, List.length_take]; rfl)) ?_; (with_reducible refine (escape_Get.calls (⟨#[38, 35, 120, 50, 48, 65, 67, 59, 38, 97, 112, 111, 115, 59]⟩ : ByteArray) t103 t104 t105 _ ?side1 A2.out).mono ?_); (case side1 => exact GW.below HG.out (by repeat (first | (with_reducible first | exact HB.out | apply below_alloc | apply pw_below_drewN | apply below_drew1) | exact HB.out))); rintro e w17 ⟨rfl, hb⟩; refine ⟨_, rfl, ?_⟩; have n0_ := Aside0.mk (below_step (by repeat (first | (with_reducible first | exact HB.out | apply below_alloc | apply pw_below_drewN | apply below_drew1) | exact HB.out)) hb); clear HB; have HB := n0_; clear n0_; (try clear hb); (try clear hb2); (try clear hk); (try clear hi)) | ((with_reducible refine gate_callee (f := 11) rfl ?_); refine goesL_ (some 19) rfl rfl Tryz.func11 (by kernel_rfl) rfl #[.string (⟨#[97, 98, 38, 120, 59]⟩ : ByteArray)] rfl (by (try simp only [List.map_toArray, List.map_cons, List.map_nil]); first | done | rfl | (simp only [List.length_drop, List.length_take]; rfl)) ?_; (with_reducible refine (escape_Get.calls (⟨#[97, 98, 38, 120, 59]⟩ : ByteArray) t106 t107 t108 _ ?side1 A3.out).mono ?_); (case side1 => exact GW.below HG.out (by repeat (first | (with_reducible first | exact HB.out | apply below_alloc | apply pw_below_drewN | apply below_drew1) | exact HB.out))); rintro e w18 ⟨rfl, hb⟩; refine ⟨_, rfl, ?_⟩; have n0_ := Aside0.mk (below_step (by repeat (first | (with_reducible first | exact HB.out | apply below_alloc | apply pw_below_drewN | apply below_drew1) | exact HB.out)) hb); clear HB; have HB := n0_; clear n0_; (try clear hb); (try clear hb2); (try clear hk); (try clear hi)))
            go_ret
            exact ⟨by first | rfl | (simp [errW_none, errW_some] <;> rfl) | (simp [*, errW_none, errW_some] <;> rfl), by repeat (first | (with_reducible first | exact HB.out | apply below_alloc | apply pw_below_drewN | apply below_drew1) | exact HB.out)⟩
        · rw [if_neg c7] at H
          have c7b0 : (t104 == 0) = false := beq_eq_false_iff_ne.mpr c7
          have c7b1 : (t104 != 0) = true := bne_iff_ne.mpr c7
          obtain rfl := Option.some.inj H
          go_enter Tryz.func10, Tryz.ntmps10
          go_wp2_with (first | ((with_reducible refine gate_callee (f := 16) rfl ?_); refine goesL_ (some 10) rfl rfl Tryz.func16 (by kernel_rfl) rfl #[.string (⟨#[97, 60, 34]⟩ : ByteArray)] rfl (by (try simp only [List.map_toArray, List.map_cons, List.map_nil]); first | done | rfl | (simp only [List.length_drop, List.length_take]; rfl)) ?_; (with_reducible refine (escape_Put.calls (⟨#[97, 60, 34]⟩ : ByteArray) t101 t102 _ A1.out).mono ?_); rintro e w19 ⟨rfl, hb⟩; refine ⟨_, rfl, ?_⟩; have n0_ := Aside0.mk (below_step (by repeat (first | (with_reducible first | exact HB.out | apply below_alloc | apply pw_below_drewN | apply below_drew1) | exact HB.out)) hb); clear HB; have HB := n0_; clear n0_; (try clear hb); (try clear hb2); (try clear hk); (try clear hi)) | ((with_reducible refine gate_callee (f := 11) rfl ?_); refine goesL_ (some 14) rfl rfl Tryz.func11 (by kernel_rfl) rfl #[.string (⟨#[38, 35, 120, 50, 48, 65, 67, 59, 38, 97, 112, 111, 115, 59]⟩ : ByteArray)] rfl (by (try simp only [List.map_toArray, List.map_cons, List.map_nil]); first | done | rfl | (simp only [List.length_drop, List.length_take]; rfl)) ?_; (with_reducible refine (escape_Get.calls (⟨#[38, 35, 120, 50, 48, 65, 67, 59, 38, 97, 112, 111, 115, 59]⟩ : ByteArray) t103 t104 t105 _ ?side1 A2.out).mono ?_); (case side1 => exact GW.below HG.out (by repeat (first | (with_reducible first | exact HB.out | apply below_alloc | apply pw_below_drewN | apply below_drew1) | exact HB.out))); rintro e w20 ⟨rfl, hb⟩; refine ⟨_, rfl, ?_⟩; have n0_ := Aside0.mk (below_step (by repeat (first | (with_reducible first | exact HB.out | apply below_alloc | apply pw_below_drewN | apply below_drew1) | exact HB.out)) hb); clear HB; have HB := n0_; clear n0_; (try clear hb); (try clear hb2); (try clear hk); (try clear hi)) | ((with_reducible refine gate_callee (f := 11) rfl ?_); refine goesL_ (some 19) rfl rfl Tryz.func11 (by kernel_rfl) rfl #[.string (⟨#[97, 98, 38, 120, 59]⟩ : ByteArray)] rfl (by (try simp only [List.map_toArray, List.map_cons, List.map_nil]); first | done | rfl | (simp only [List.length_drop, List.length_take]; rfl)) ?_; (with_reducible refine (escape_Get.calls (⟨#[97, 98, 38, 120, 59]⟩ : ByteArray) t106 t107 t108 _ ?side1 A3.out).mono ?_); (case side1 => exact GW.below HG.out (by repeat (first | (with_reducible first | exact HB.out | apply below_alloc | apply pw_below_drewN | apply below_drew1) | exact HB.out))); rintro e w21 ⟨rfl, hb⟩; refine ⟨_, rfl, ?_⟩; have n0_ := Aside0.mk (below_step (by repeat (first | (with_reducible first | exact HB.out | apply below_alloc | apply pw_below_drewN | apply below_drew1) | exact HB.out)) hb); clear HB; have HB := n0_; clear n0_; (try clear hb); (try clear hb2); (try clear hk); (try clear hi)))
          go_ret
          exact ⟨by first | rfl | (simp [errW_none, errW_some] <;> rfl) | (simp [*, errW_none, errW_some] <;> rfl), by repeat (first | (with_reducible first | exact HB.out | apply below_alloc | apply pw_below_drewN | apply below_drew1) | exact HB.out)⟩
      · rw [if_neg c6] at H
        have c6b0 : (t103.toList == ([226, 130, 172, 39] : List UInt8)) = false := beq_eq_false_iff_ne.mpr c6
        have c6b1 : (t103.toList != ([226, 130, 172, 39] : List UInt8)) = true := bne_iff_ne.mpr c6
        obtain rfl := Option.some.inj H
        go_enter Tryz.func10, Tryz.ntmps10
        go_wp2_with (first | ((with_reducible refine gate_callee (f := 16) rfl ?_); refine goesL_ (some 10) rfl rfl Tryz.func16 (by kernel_rfl) rfl #[.string (⟨#[97, 60, 34]⟩ : ByteArray)] rfl (by (try simp only [List.map_toArray, List.map_cons, List.map_nil]); first | done | rfl | (simp only [List.length_drop, List.length_take]; rfl)) ?_; (with_reducible refine (escape_Put.calls (⟨#[97, 60, 34]⟩ : ByteArray) t101 t102 _ A1.out).mono ?_); rintro e w22 ⟨rfl, hb⟩; refine ⟨_, rfl, ?_⟩; have n0_ := Aside0.mk (below_step (by repeat (first | (with_reducible first | exact HB.out | apply below_alloc | apply pw_below_drewN | apply below_drew1) | exact HB.out)) hb); clear HB; have HB := n0_; clear n0_; (try clear hb); (try clear hb2); (try clear hk); (try clear hi)) | ((with_reducible refine gate_callee (f := 11) rfl ?_); refine goesL_ (some 14) rfl rfl Tryz.func11 (by kernel_rfl) rfl #[.string (⟨#[38, 35, 120, 50, 48, 65, 67, 59, 38, 97, 112, 111, 115, 59]⟩ : ByteArray)] rfl (by (try simp only [List.map_toArray, List.map_cons, List.map_nil]); first | done | rfl | (simp only [List.length_drop, List.length_take]; rfl)) ?_; (with_reducible refine (escape_Get.calls (⟨#[38, 35, 120, 50, 48, 65, 67, 59, 38, 97, 112, 111, 115, 59]⟩ : ByteArray) t103 t104 t105 _ ?side1 A2.out).mono ?_); (case side1 => exact GW.below HG.out (by repeat (first | (with_reducible first | exact HB.out | apply below_alloc | apply pw_below_drewN | apply below_drew1) | exact HB.out))); rintro e w23 ⟨rfl, hb⟩; refine ⟨_, rfl, ?_⟩; have n0_ := Aside0.mk (below_step (by repeat (first | (with_reducible first | exact HB.out | apply below_alloc | apply pw_below_drewN | apply below_drew1) | exact HB.out)) hb); clear HB; have HB := n0_; clear n0_; (try clear hb); (try clear hb2); (try clear hk); (try clear hi)) | ((with_reducible refine gate_callee (f := 11) rfl ?_); refine goesL_ (some 19) rfl rfl Tryz.func11 (by kernel_rfl) rfl #[.string (⟨#[97, 98, 38, 120, 59]⟩ : ByteArray)] rfl (by (try simp only [List.map_toArray, List.map_cons, List.map_nil]); first | done | rfl | (simp only [List.length_drop, List.length_take]; rfl)) ?_; (with_reducible refine (escape_Get.calls (⟨#[97, 98, 38, 120, 59]⟩ : ByteArray) t106 t107 t108 _ ?side1 A3.out).mono ?_); (case side1 => exact GW.below HG.out (by repeat (first | (with_reducible first | exact HB.out | apply below_alloc | apply pw_below_drewN | apply below_drew1) | exact HB.out))); rintro e w24 ⟨rfl, hb⟩; refine ⟨_, rfl, ?_⟩; have n0_ := Aside0.mk (below_step (by repeat (first | (with_reducible first | exact HB.out | apply below_alloc | apply pw_below_drewN | apply below_drew1) | exact HB.out)) hb); clear HB; have HB := n0_; clear n0_; (try clear hb); (try clear hb2); (try clear hk); (try clear hi)))
        go_ret
        exact ⟨by first | rfl | (simp [errW_none, errW_some] <;> rfl) | (simp [*, errW_none, errW_some] <;> rfl), by repeat (first | (with_reducible first | exact HB.out | apply below_alloc | apply pw_below_drewN | apply below_drew1) | exact HB.out)⟩
    · rw [if_neg c5] at H
      have c5b0 : (t102 == 0) = false := beq_eq_false_iff_ne.mpr c5
      have c5b1 : (t102 != 0) = true := bne_iff_ne.mpr c5
      obtain rfl := Option.some.inj H
      go_enter Tryz.func10, Tryz.ntmps10
      go_wp2_with (first | ((with_reducible refine gate_callee (f := 16) rfl ?_); refine goesL_ (some 10) rfl rfl Tryz.func16 (by kernel_rfl) rfl #[.string (⟨#[97, 60, 34]⟩ : ByteArray)] rfl (by (try simp only [List.map_toArray, List.map_cons, List.map_nil]); first | done | rfl | (simp only [List.length_drop, List.length_take]; rfl)) ?_; (with_reducible refine (escape_Put.calls (⟨#[97, 60, 34]⟩ : ByteArray) t101 t102 _ A1.out).mono ?_); rintro e w25 ⟨rfl, hb⟩; refine ⟨_, rfl, ?_⟩; have n0_ := Aside0.mk (below_step (by repeat (first | (with_reducible first | exact HB.out | apply below_alloc | apply pw_below_drewN | apply below_drew1) | exact HB.out)) hb); clear HB; have HB := n0_; clear n0_; (try clear hb); (try clear hb2); (try clear hk); (try clear hi)) | ((with_reducible refine gate_callee (f := 11) rfl ?_); refine goesL_ (some 14) rfl rfl Tryz.func11 (by kernel_rfl) rfl #[.string (⟨#[38, 35, 120, 50, 48, 65, 67, 59, 38, 97, 112, 111, 115, 59]⟩ : ByteArray)] rfl (by (try simp only [List.map_toArray, List.map_cons, List.map_nil]); first | done | rfl | (simp only [List.length_drop, List.length_take]; rfl)) ?_; (with_reducible refine (escape_Get.calls (⟨#[38, 35, 120, 50, 48, 65, 67, 59, 38, 97, 112, 111, 115, 59]⟩ : ByteArray) t103 t104 t105 _ ?side1 A2.out).mono ?_); (case side1 => exact GW.below HG.out (by repeat (first | (with_reducible first | exact HB.out | apply below_alloc | apply pw_below_drewN | apply below_drew1) | exact HB.out))); rintro e w26 ⟨rfl, hb⟩; refine ⟨_, rfl, ?_⟩; have n0_ := Aside0.mk (below_step (by repeat (first | (with_reducible first | exact HB.out | apply below_alloc | apply pw_below_drewN | apply below_drew1) | exact HB.out)) hb); clear HB; have HB := n0_; clear n0_; (try clear hb); (try clear hb2); (try clear hk); (try clear hi)) | ((with_reducible refine gate_callee (f := 11) rfl ?_); refine goesL_ (some 19) rfl rfl Tryz.func11 (by kernel_rfl) rfl #[.string (⟨#[97, 98, 38, 120, 59]⟩ : ByteArray)] rfl (by (try simp only [List.map_toArray, List.map_cons, List.map_nil]); first | done | rfl | (simp only [List.length_drop, List.length_take]; rfl)) ?_; (with_reducible refine (escape_Get.calls (⟨#[97, 98, 38, 120, 59]⟩ : ByteArray) t106 t107 t108 _ ?side1 A3.out).mono ?_); (case side1 => exact GW.below HG.out (by repeat (first | (with_reducible first | exact HB.out | apply below_alloc | apply pw_below_drewN | apply below_drew1) | exact HB.out))); rintro e w27 ⟨rfl, hb⟩; refine ⟨_, rfl, ?_⟩; have n0_ := Aside0.mk (below_step (by repeat (first | (with_reducible first | exact HB.out | apply below_alloc | apply pw_below_drewN | apply below_drew1) | exact HB.out)) hb); clear HB; have HB := n0_; clear n0_; (try clear hb); (try clear hb2); (try clear hk); (try clear hi)))
      go_ret
      exact ⟨by first | rfl | (simp [errW_none, errW_some] <;> rfl) | (simp [*, errW_none, errW_some] <;> rfl), by repeat (first | (with_reducible first | exact HB.out | apply below_alloc | apply pw_below_drewN | apply below_drew1) | exact HB.out)⟩
  · rw [if_neg c4] at H
    have c4b0 : (t101.toList == ([97, 38, 108, 116, 59, 38, 113, 117, 111, 116, 59] : List UInt8)) = false := beq_eq_false_iff_ne.mpr c4
    have c4b1 : (t101.toList != ([97, 38, 108, 116, 59, 38, 113, 117, 111, 116, 59] : List UInt8)) = true := bne_iff_ne.mpr c4
    obtain rfl := Option.some.inj H
    go_enter Tryz.func10, Tryz.ntmps10
    go_wp2_with (first | ((with_reducible refine gate_callee (f := 16) rfl ?_); refine goesL_ (some 10) rfl rfl Tryz.func16 (by kernel_rfl) rfl #[.string (⟨#[97, 60, 34]⟩ : ByteArray)] rfl (by (try simp only [List.map_toArray, List.map_cons, List.map_nil]); first | done | rfl | (simp only [List.length_drop, List.length_take]; rfl)) ?_; (with_reducible refine (escape_Put.calls (⟨#[97, 60, 34]⟩ : ByteArray) t101 t102 _ A1.out).mono ?_); rintro e w28 ⟨rfl, hb⟩; refine ⟨_, rfl, ?_⟩; have n0_ := Aside0.mk (below_step (by repeat (first | (with_reducible first | exact HB.out | apply below_alloc | apply pw_below_drewN | apply below_drew1) | exact HB.out)) hb); clear HB; have HB := n0_; clear n0_; (try clear hb); (try clear hb2); (try clear hk); (try clear hi)) | ((with_reducible refine gate_callee (f := 11) rfl ?_); refine goesL_ (some 14) rfl rfl Tryz.func11 (by kernel_rfl) rfl #[.string (⟨#[38, 35, 120, 50, 48, 65, 67, 59, 38, 97, 112, 111, 115, 59]⟩ : ByteArray)] rfl (by (try simp only [List.map_toArray, List.map_cons, List.map_nil]); first | done | rfl | (simp only [List.length_drop, List.length_take]; rfl)) ?_; (with_reducible refine (escape_Get.calls (⟨#[38, 35, 120, 50, 48, 65, 67, 59, 38, 97, 112, 111, 115, 59]⟩ : ByteArray) t103 t104 t105 _ ?side1 A2.out).mono ?_); (case side1 => exact GW.below HG.out (by repeat (first | (with_reducible first | exact HB.out | apply below_alloc | apply pw_below_drewN | apply below_drew1) | exact HB.out))); rintro e w29 ⟨rfl, hb⟩; refine ⟨_, rfl, ?_⟩; have n0_ := Aside0.mk (below_step (by repeat (first | (with_reducible first | exact HB.out | apply below_alloc | apply pw_below_drewN | apply below_drew1) | exact HB.out)) hb); clear HB; have HB := n0_; clear n0_; (try clear hb); (try clear hb2); (try clear hk); (try clear hi)) | ((with_reducible refine gate_callee (f := 11) rfl ?_); refine goesL_ (some 19) rfl rfl Tryz.func11 (by kernel_rfl) rfl #[.string (⟨#[97, 98, 38, 120, 59]⟩ : ByteArray)] rfl (by (try simp only [List.map_toArray, List.map_cons, List.map_nil]); first | done | rfl | (simp only [List.length_drop, List.length_take]; rfl)) ?_; (with_reducible refine (escape_Get.calls (⟨#[97, 98, 38, 120, 59]⟩ : ByteArray) t106 t107 t108 _ ?side1 A3.out).mono ?_); (case side1 => exact GW.below HG.out (by repeat (first | (with_reducible first | exact HB.out | apply below_alloc | apply pw_below_drewN | apply below_drew1) | exact HB.out))); rintro e w30 ⟨rfl, hb⟩; refine ⟨_, rfl, ?_⟩; have n0_ := Aside0.mk (below_step (by repeat (first | (with_reducible first | exact HB.out | apply below_alloc | apply pw_below_drewN | apply below_drew1) | exact HB.out)) hb); clear HB; have HB := n0_; clear n0_; (try clear hb); (try clear hb2); (try clear hk); (try clear hi)))
    go_ret
    exact ⟨by first | rfl | (simp [errW_none, errW_some] <;> rfl) | (simp [*, errW_none, errW_some] <;> rfl), by repeat (first | (with_reducible first | exact HB.out | apply below_alloc | apply pw_below_drewN | apply below_drew1) | exact HB.out)⟩

end Go.Proofs.YtbcjhmeeonhmaaaGreatDoor.M
end

-- Laid by a program of this session for this claim.
section
namespace Go.Proofs.YtbcjhmeeonhmaaaGreatDoor.M
open Go.RowKit Go.Proofs.YtbcjhmeeonhmaaaGreatDoorW.PrintWords Go.Proofs.YtbcjhmeeonhmaaaGreatDoorW.PrintLast Go.Proofs.YtbcjhmeeonhmaaaGreatDoorW.PrintMore
attribute [local go_sem] max2_int min2_int max_two min_two max_three min_three max_four min_four   -- for this text's walks alone
set_option linter.unusedVariables false
set_option linter.unusedSimpArgs false

/-! ### pleacherlaw04_cut: function 12 -/
def pleacherlaw04_cut.f (a0 : ByteArray) : Option (ByteArray) := if 0 ≤ (mn (a0.size : Int) 500) then (if (mn (a0.size : Int) 500) ≤ (a0.size : Int) then (some (a0.extract 0 ((mn (a0.size : Int) 500) : Int).toNat)) else (none)) else (none)
set_option maxHeartbeats 8000000 in
set_option maxRecDepth 100000 in
theorem pleacherlaw04_cut.calls (a0 : ByteArray) (r : ByteArray) (w : World) (h : pleacherlaw04_cut.f a0 = some r) :
    Calls Tryz.prog 12 #[.string a0] w fun e w' => e = .returned (.string r) ∧ Below w.heap.size w w' := by
  have HB := Aside0.mk (Below.refl w.heap.size w)
  have H : (if 0 ≤ (mn (a0.size : Int) 500) then (if (mn (a0.size : Int) 500) ≤ (a0.size : Int) then (some (a0.extract 0 ((mn (a0.size : Int) 500) : Int).toNat)) else (none)) else (none)) = some r := h
  clear h
  obtain ⟨ji2, hji2⟩ : ∃ j_ : Int, (mn (a0.size : Int) 500) = j_ := ⟨_, rfl⟩
  replace H : (if 0 ≤ (ji2) then (if (ji2) ≤ (a0.size : Int) then (some (a0.extract 0 ((ji2) : Int).toNat)) else (none)) else (none)) = some r := by first | (rw [hji2] at H; exact H) | (simp only [hji2] at H ⊢; exact H)
  (try (have hji2h : ji2 ≤ 500 := by (rw [← hji2]; unfold mn; (repeat' split) <;> omega)))
  (try (have hji2g : ji2 ≤ 64 := by omega))
  (try (have hji2l : 0 ≤ ji2 := by (rw [← hji2]; unfold mn; (repeat' split) <;> omega)))
  (try (have hji2m : 0 ≤ ji2 := by omega))
  have hji2_ : (if 500 < (a0.size : Int) then 500 else (a0.size : Int)) = ji2 := hji2
  by_cases c3 : 0 ≤ (ji2)
  · rw [if_pos c3] at H
    have c3b0 := eq_true c3
    have c3b1 : decide (0 ≤ (ji2)) = true := decide_eq_true c3
    clear c3
    by_cases c4 : (ji2) ≤ (a0.size : Int)
    · rw [if_pos c4] at H
      have c4b0 := eq_true c4
      have c4b1 : decide ((ji2) ≤ (a0.size : Int)) = true := decide_eq_true c4
      clear c4
      obtain rfl := Option.some.inj H
      go_enter Tryz.func12, Tryz.ntmps12
      go_wp2
      go_ret
      exact ⟨by first | rfl | (simp [errW_none, errW_some] <;> rfl) | (simp only [← hji2]; first | rfl | (simp [errW_none, errW_some] <;> rfl)) | (simp [*, errW_none, errW_some] <;> rfl), by repeat (first | (with_reducible first | exact HB.out | apply below_alloc | apply pw_below_drewN | apply below_drew1) | exact HB.out)⟩
    · rw [if_neg c4] at H
      exact absurd H (by simp)
  · rw [if_neg c3] at H
    exact absurd H (by simp)

end Go.Proofs.YtbcjhmeeonhmaaaGreatDoor.M
end

/-
What the laws of escape share: the known escapes, the cut.
-/
section
set_option linter.unusedVariables false
set_option maxRecDepth 100000
namespace Go.Proofs.YtbcjhmeeonhmaaaGreatDoor.H
open Go Go.RowKit Go.Proofs.YtbcjhmeeonhmaaaGreatDoorW.PrintWords Go.Proofs.YtbcjhmeeonhmaaaGreatDoorW.PrintMore Go.Proofs.YtbcjhmeeonhmaaaGreatDoor.M

theorem known1 : ePutS (⟨#[97, 60, 34]⟩ : ByteArray) = (⟨#[97, 38, 108, 116, 59, 38, 113, 117, 111, 116, 59]⟩, 0) := by decide +kernel
theorem known2 : egS (⟨#[38, 35, 120, 50, 48, 65, 67, 59, 38, 97, 112, 111, 115, 59]⟩ : ByteArray) = (⟨#[226, 130, 172, 39]⟩, 0, 0) := by decide +kernel
theorem known3 : egS (⟨#[97, 98, 38, 120, 59]⟩ : ByteArray) = (⟨#[]⟩, 2, 40) := by decide +kernel
theorem put_f (s : ByteArray) (h : s.size ≤ 1073741824) : escape_Put.f s = some (ePutS s) := by unfold escape_Put.f; rw [if_pos h]
theorem get_f (s : ByteArray) (h : s.size ≤ 1073741824) : escape_Get.f s = some (egS s) := by unfold escape_Get.f; rw [if_pos h]
theorem shown_f : pleacherlaw04_shown.f = some true := by
  unfold pleacherlaw04_shown.f
  rw [put_f _ (by decide), Option.bind_some, get_f _ (by decide), Option.bind_some, get_f _ (by decide), Option.bind_some, known1, known2, known3]
  simp only [toList_data]
  decide
theorem mn_le (x : Int) (k : Int) : mn x k ≤ k ∧ mn x k ≤ x ∧ (mn x k = x ∨ mn x k = k) := by unfold mn; split <;> omega
/-- A text, cut. -/
def cutT (s : ByteArray) : ByteArray := s.extract 0 (min s.size 500)
theorem cut_f (s : ByteArray) : pleacherlaw04_cut.f s = some (cutT s) := by
  unfold pleacherlaw04_cut.f cutT
  have h0 := mn_le (s.size : Int) 500
  rw [if_pos (by omega), if_pos (by omega)]
  have e0 : (mn (s.size : Int) 500).toNat = min s.size 500 := by omega
  rw [e0]
theorem cut_size (s : ByteArray) : (cutT s).size ≤ 500 := by unfold cutT; rw [ByteArray.size_extract]; omega
end Go.Proofs.YtbcjhmeeonhmaaaGreatDoor.H
end

-- Laid by a program of this session for this claim.
section
namespace Go.Proofs.YtbcjhmeeonhmaaaGreatDoor.M
open Go.RowKit Go.Proofs.YtbcjhmeeonhmaaaGreatDoorW.PrintWords Go.Proofs.YtbcjhmeeonhmaaaGreatDoorW.PrintLast Go.Proofs.YtbcjhmeeonhmaaaGreatDoorW.PrintMore
attribute [local go_sem] max2_int min2_int max_two min_two max_three min_three max_four min_four   -- for this text's walks alone
set_option linter.unusedVariables false
set_option linter.unusedSimpArgs false

/-! ### escape_Ref: function 14 -/
-- IMPORT Derived.Test.YtbcjhmeeonhmaaaGreatDoorHRefE Derived.Test.YtbcjhmeeonhmaaaGreatDoorHGmZ
def escape_Ref.f (a0 : ByteArray) : Option (Int × Int × Int) := if a0.size ≤ 1073741824 then some (H.refS a0) else none
theorem escape_Ref.calls (a0 : ByteArray) (r1 : Int) (r2 : Int) (r3 : Int) (w : World) (hG : GW w) (h : escape_Ref.f a0 = some (r1, r2, r3)) :
    Calls Tryz.prog 14 #[.string a0] w fun e w' => e = .returned (.tuple #[.int .i64 r1, .int .i64 r2, .int .i64 r3]) ∧ Below w.heap.size w w' := by
  unfold escape_Ref.f at h
  by_cases hh : a0.size ≤ 1073741824
  · rw [if_pos hh] at h
    have := H.ref a0 w (GW.g hG) hh
    unfold H.RefPost at this
    rw [Option.some.inj h] at this
    exact this
  · rw [if_neg hh] at h; cases h

end Go.Proofs.YtbcjhmeeonhmaaaGreatDoor.M
end

-- Laid by a program of this session for this claim.
section
namespace Go.Proofs.YtbcjhmeeonhmaaaGreatDoor.M
open Go.RowKit Go.Proofs.YtbcjhmeeonhmaaaGreatDoorW.PrintWords Go.Proofs.YtbcjhmeeonhmaaaGreatDoorW.PrintLast Go.Proofs.YtbcjhmeeonhmaaaGreatDoorW.PrintMore
attribute [local go_sem] max2_int min2_int max_two min_two max_three min_three max_four min_four   -- for this text's walks alone
set_option linter.unusedVariables false
set_option linter.unusedSimpArgs false

/-! ### pleacherlaw04_EscapeGets: function 3 -/
def pleacherlaw04_EscapeGets.f (k : Nat) (a0 : ByteArray) : Option (Bool) := (pleacherlaw04_shown.f).bind fun t155 => ((pleacherlaw04_cut.f a0).bind fun t156 => ((escape_Get.f t156).bind fun bt157 => ((pleacherlaw04_cut.f a0).bind fun t160 => ((pleacherref04_Get.f k t160).bind fun bt161 => ((pleacherlaw04_cut.f a0).bind fun t164 => ((escape_Ref.f t164).bind fun bt165 => ((pleacherlaw04_cut.f a0).bind fun t168 => ((pleacherref04_Ref.f k t168).bind fun bt169 => (if t155 = true then (if bt157.1.toList = bt161.1.toList then (if bt157.2.1 = bt161.2.1 then (if bt157.2.2 = bt161.2.2 then (if bt165.1 = bt169.1 then (if bt165.2.1 = bt169.2.1 then (some (bt165.2.2 == bt169.2.2)) else (some false)) else (some false)) else (some false)) else (some false)) else (some false)) else (some false))))))))))
set_option maxHeartbeats 8000000 in
set_option maxRecDepth 100000 in
theorem pleacherlaw04_EscapeGets.calls (k : Nat) (a0 : ByteArray) (r : Bool) (w : World) (hG : GW w) (h : pleacherlaw04_EscapeGets.f k a0 = some r) :
    Calls Tryz.prog 3 #[.string a0] w fun e w' => e = .returned (.bool r) ∧ Below w.heap.size w w' := by
  have HG := Aside0.mk hG
  clear hG
  have HB := Aside0.mk (Below.refl w.heap.size w)
  have H : ((pleacherlaw04_shown.f).bind fun t155 => ((pleacherlaw04_cut.f a0).bind fun t156 => ((escape_Get.f t156).bind fun bt157 => ((pleacherlaw04_cut.f a0).bind fun t160 => ((pleacherref04_Get.f k t160).bind fun bt161 => ((pleacherlaw04_cut.f a0).bind fun t164 => ((escape_Ref.f t164).bind fun bt165 => ((pleacherlaw04_cut.f a0).bind fun t168 => ((pleacherref04_Ref.f k t168).bind fun bt169 => (if t155 = true then (if bt157.1.toList = bt161.1.toList then (if bt157.2.1 = bt161.2.1 then (if bt157.2.2 = bt161.2.2 then (if bt165.1 = bt169.1 then (if bt165.2.1 = bt169.2.1 then (some (bt165.2.2 == bt169.2.2)) else (some false)) else (some false)) else (some false)) else (some false)) else (some false)) else (some false))))))))))) = some r := h
  clear h
  replace H := Option.bind_eq_some_iff.mp H
  obtain ⟨t155, A20, H⟩ := H
  replace H : ((pleacherlaw04_cut.f a0).bind fun t156 => ((escape_Get.f t156).bind fun bt157 => ((pleacherlaw04_cut.f a0).bind fun t160 => ((pleacherref04_Get.f k t160).bind fun bt161 => ((pleacherlaw04_cut.f a0).bind fun t164 => ((escape_Ref.f t164).bind fun bt165 => ((pleacherlaw04_cut.f a0).bind fun t168 => ((pleacherref04_Ref.f k t168).bind fun bt169 => (if t155 = true then (if bt157.1.toList = bt161.1.toList then (if bt157.2.1 = bt161.2.1 then (if bt157.2.2 = bt161.2.2 then (if bt165.1 = bt169.1 then (if bt165.2.1 = bt169.2.1 then (some (bt165.2.2 == bt169.2.2)) else (some false)) else (some false)) else (some false)) else (some false)) else (some false)) else (some false)))))))))) = some r := H
  have A2 := Aside0.mk A20
  clear A20
  replace H := Option.bind_eq_some_iff.mp H
  obtain ⟨t156, A30, H⟩ := H
  replace H : ((escape_Get.f t156).bind fun bt157 => ((pleacherlaw04_cut.f a0).bind fun t160 => ((pleacherref04_Get.f k t160).bind fun bt161 => ((pleacherlaw04_cut.f a0).bind fun t164 => ((escape_Ref.f t164).bind fun bt165 => ((pleacherlaw04_cut.f a0).bind fun t168 => ((pleacherref04_Ref.f k t168).bind fun bt169 => (if t155 = true then (if bt157.1.toList = bt161.1.toList then (if bt157.2.1 = bt161.2.1 then (if bt157.2.2 = bt161.2.2 then (if bt165.1 = bt169.1 then (if bt165.2.1 = bt169.2.1 then (some (bt165.2.2 == bt169.2.2)) else (some false)) else (some false)) else (some false)) else (some false)) else (some false)) else (some false))))))))) = some r := H
  have A3 := Aside0.mk A30
  clear A30
  replace H := Option.bind_eq_some_iff.mp H
  obtain ⟨⟨t157, t158, t159⟩, A40, H⟩ := H
  replace H : ((pleacherlaw04_cut.f a0).bind fun t160 => ((pleacherref04_Get.f k t160).bind fun bt161 => ((pleacherlaw04_cut.f a0).bind fun t164 => ((escape_Ref.f t164).bind fun bt165 => ((pleacherlaw04_cut.f a0).bind fun t168 => ((pleacherref04_Ref.f k t168).bind fun bt169 => (if t155 = true then (if t157.toList = bt161.1.toList then (if t158 = bt161.2.1 then (if t159 = bt161.2.2 then (if bt165.1 = bt169.1 then (if bt165.2.1 = bt169.2.1 then (some (bt165.2.2 == bt169.2.2)) else (some false)) else (some false)) else (some false)) else (some false)) else (some false)) else (some false)))))))) = some r := H
  have A4 := Aside0.mk A40
  clear A40
  replace H := Option.bind_eq_some_iff.mp H
  obtain ⟨t160, A50, H⟩ := H
  replace H : ((pleacherref04_Get.f k t160).bind fun bt161 => ((pleacherlaw04_cut.f a0).bind fun t164 => ((escape_Ref.f t164).bind fun bt165 => ((pleacherlaw04_cut.f a0).bind fun t168 => ((pleacherref04_Ref.f k t168).bind fun bt169 => (if t155 = true then (if t157.toList = bt161.1.toList then (if t158 = bt161.2.1 then (if t159 = bt161.2.2 then (if bt165.1 = bt169.1 then (if bt165.2.1 = bt169.2.1 then (some (bt165.2.2 == bt169.2.2)) else (some false)) else (some false)) else (some false)) else (some false)) else (some false)) else (some false))))))) = some r := H
  have A5 := Aside0.mk A50
  clear A50
  replace H := Option.bind_eq_some_iff.mp H
  obtain ⟨⟨t161, t162, t163⟩, A60, H⟩ := H
  replace H : ((pleacherlaw04_cut.f a0).bind fun t164 => ((escape_Ref.f t164).bind fun bt165 => ((pleacherlaw04_cut.f a0).bind fun t168 => ((pleacherref04_Ref.f k t168).bind fun bt169 => (if t155 = true then (if t157.toList = t161.toList then (if t158 = t162 then (if t159 = t163 then (if bt165.1 = bt169.1 then (if bt165.2.1 = bt169.2.1 then (some (bt165.2.2 == bt169.2.2)) else (some false)) else (some false)) else (some false)) else (some false)) else (some false)) else (some false)))))) = some r := H
  have A6 := Aside0.mk A60
  clear A60
  replace H := Option.bind_eq_some_iff.mp H
  obtain ⟨t164, A70, H⟩ := H
  replace H : ((escape_Ref.f t164).bind fun bt165 => ((pleacherlaw04_cut.f a0).bind fun t168 => ((pleacherref04_Ref.f k t168).bind fun bt169 => (if t155 = true then (if t157.toList = t161.toList then (if t158 = t162 then (if t159 = t163 then (if bt165.1 = bt169.1 then (if bt165.2.1 = bt169.2.1 then (some (bt165.2.2 == bt169.2.2)) else (some false)) else (some false)) else (some false)) else (some false)) else (some false)) else (some false))))) = some r := H
  have A7 := Aside0.mk A70
  clear A70
  replace H := Option.bind_eq_some_iff.mp H
  obtain ⟨⟨t165, t166, t167⟩, A80, H⟩ := H
  replace H : ((pleacherlaw04_cut.f a0).bind fun t168 => ((pleacherref04_Ref.f k t168).bind fun bt169 => (if t155 = true then (if t157.toList = t161.toList then (if t158 = t162 then (if t159 = t163 then (if t165 = bt169.1 then (if t166 = bt169.2.1 then (some (t167 == bt169.2.2)) else (some false)) else (some false)) else (some false)) else (some false)) else (some false)) else (some false)))) = some r := H
  have A8 := Aside0.mk A80
  clear A80
  replace H := Option.bind_eq_some_iff.mp H
  obtain ⟨t168, A90, H⟩ := H
  replace H : ((pleacherref04_Ref.f k t168).bind fun bt169 => (if t155 = true then (if t157.toList = t161.toList then (if t158 = t162 then (if t159 = t163 then (if t165 = bt169.1 then (if t166 = bt169.2.1 then (some (t167 == bt169.2.2)) else (some false)) else (some false)) else (some false)) else (some false)) else (some false)) else (some false))) = some r := H
  have A9 := Aside0.mk A90
  clear A90
  replace H := Option.bind_eq_some_iff.mp H
  obtain ⟨⟨t169, t170, t171⟩, A100, H⟩ := H
  replace H : (if t155 = true then (if t157.toList = t161.toList then (if t158 = t162 then (if t159 = t163 then (if t165 = t169 then (if t166 = t170 then (some (t167 == t171)) else (some false)) else (some false)) else (some false)) else (some false)) else (some false)) else (some false)) = some r := H
  have A10 := Aside0.mk A100
  clear A100
  by_cases c11 : t155 = true
  · subst c11
    have H1 : (if t157.toList = t161.toList then (if t158 = t162 then (if t159 = t163 then (if t165 = t169 then (if t166 = t170 then (some (t167 == t171)) else (some false)) else (some false)) else (some false)) else (some false)) else (some false)) = some r := by rw [if_pos rfl] at H; exact H
    clear H
    have H := H1
    clear H1
    by_cases c12 : t157.toList = t161.toList
    · rw [if_pos c12] at H
      have c12b0 : (t157.toList == t161.toList) = true := beq_iff_eq.mpr c12
      have c12b1 : (t157.toList != t161.toList) = false := bne_eq_false_iff_eq.mpr c12
      clear c12
      by_cases c13 : t158 = t162
      · rw [if_pos c13] at H
        have c13b0 : (t158 == t162) = true := beq_iff_eq.mpr c13
        have c13b1 : (t158 != t162) = false := bne_eq_false_iff_eq.mpr c13
        clear c13
        by_cases c14 : t159 = t163
        · rw [if_pos c14] at H
          have c14b0 : (t159 == t163) = true := beq_iff_eq.mpr c14
          have c14b1 : (t159 != t163) = false := bne_eq_false_iff_eq.mpr c14
          clear c14
          by_cases c15 : t165 = t169
          · rw [if_pos c15] at H
            have c15b0 : (t165 == t169) = true := beq_iff_eq.mpr c15
            have c15b1 : (t165 != t169) = false := bne_eq_false_iff_eq.mpr c15
            clear c15
            by_cases c16 : t166 = t170
            · rw [if_pos c16] at H
              have c16b0 : (t166 == t170) = true := beq_iff_eq.mpr c16
              have c16b1 : (t166 != t170) = false := bne_eq_false_iff_eq.mpr c16
              clear c16
              obtain rfl := Option.some.inj H
              go_enter Tryz.func3, Tryz.ntmps3
              go_wp2_with (first | ((with_reducible refine gate_callee (f := 10) rfl ?_); refine goesL_ (some 16) rfl rfl Tryz.func10 (by kernel_rfl) rfl #[] rfl (by (try simp only [List.map_toArray, List.map_cons, List.map_nil]); first | done | rfl | (simp only [List.length_drop, List.length_take]; rfl)) ?_; (with_reducible refine (pleacherlaw04_shown.calls  true _ ?side1 A2.out).mono ?_); (case side1 => exact GW.below HG.out (by repeat (first | (with_reducible first | exact HB.out | apply below_alloc | apply pw_below_drewN | apply below_drew1) | exact HB.out))); rintro e w17 ⟨rfl, hb⟩; refine ⟨_, rfl, ?_⟩; have n0_ := Aside0.mk (below_step (by repeat (first | (with_reducible first | exact HB.out | apply below_alloc | apply pw_below_drewN | apply below_drew1) | exact HB.out)) hb); clear HB; have HB := n0_; clear n0_; (try clear hb); (try clear hb2); (try clear hk); (try clear hi)) | ((with_reducible refine gate_callee (f := 12) rfl ?_); refine goesL_ (some 19) rfl rfl Tryz.func12 (by kernel_rfl) rfl #[.string a0] rfl (by (try simp only [List.map_toArray, List.map_cons, List.map_nil]); first | done | rfl | (simp only [List.length_drop, List.length_take]; rfl)) ?_; (with_reducible refine (pleacherlaw04_cut.calls a0 t156 _ A3.out).mono ?_); rintro e w18 ⟨rfl, hb⟩; refine ⟨_, rfl, ?_⟩; have n0_ := Aside0.mk (below_step (by repeat (first | (with_reducible first | exact HB.out | apply below_alloc | apply pw_below_drewN | apply below_drew1) | exact HB.out)) hb); clear HB; have HB := n0_; clear n0_; (try clear hb); (try clear hb2); (try clear hk); (try clear hi)) | ((with_reducible refine gate_callee (f := 11) rfl ?_); refine goesL_ (some 20) rfl rfl Tryz.func11 (by kernel_rfl) rfl #[.string t156] rfl (by (try simp only [List.map_toArray, List.map_cons, List.map_nil]); first | done | rfl | (simp only [List.length_drop, List.length_take]; rfl)) ?_; (with_reducible refine (escape_Get.calls t156 t157 t158 t159 _ ?side1 A4.out).mono ?_); (case side1 => exact GW.below HG.out (by repeat (first | (with_reducible first | exact HB.out | apply below_alloc | apply pw_below_drewN | apply below_drew1) | exact HB.out))); rintro e w19 ⟨rfl, hb⟩; refine ⟨_, rfl, ?_⟩; have n0_ := Aside0.mk (below_step (by repeat (first | (with_reducible first | exact HB.out | apply below_alloc | apply pw_below_drewN | apply below_drew1) | exact HB.out)) hb); clear HB; have HB := n0_; clear n0_; (try clear hb); (try clear hb2); (try clear hk); (try clear hi)) | ((with_reducible refine gate_callee (f := 12) rfl ?_); refine goesL_ (some 26) rfl rfl Tryz.func12 (by kernel_rfl) rfl #[.string a0] rfl (by (try simp only [List.map_toArray, List.map_cons, List.map_nil]); first | done | rfl | (simp only [List.length_drop, List.length_take]; rfl)) ?_; (with_reducible refine (pleacherlaw04_cut.calls a0 t160 _ A5.out).mono ?_); rintro e w20 ⟨rfl, hb⟩; refine ⟨_, rfl, ?_⟩; have n0_ := Aside0.mk (below_step (by repeat (first | (with_reducible first | exact HB.out | apply below_alloc | apply pw_below_drewN | apply below_drew1) | exact HB.out)) hb); clear HB; have HB := n0_; clear n0_; (try clear hb); (try clear hb2); (try clear hk); (try clear hi)) | ((with_reducible refine gate_callee (f := 13) rfl ?_); refine goesL_ (some 27) rfl rfl Tryz.func13 (by kernel_rfl) rfl #[.string t160] rfl (by (try simp only [List.map_toArray, List.map_cons, List.map_nil]); first | done | rfl | (simp only [List.length_drop, List.length_take]; rfl)) ?_; (with_reducible refine (pleacherref04_Get.calls k t160 t161 t162 t163 _ A6.out).mono ?_); rintro e w21 ⟨rfl, hb⟩; refine ⟨_, rfl, ?_⟩; have n0_ := Aside0.mk (below_step (by repeat (first | (with_reducible first | exact HB.out | apply below_alloc | apply pw_below_drewN | apply below_drew1) | exact HB.out)) hb); clear HB; have HB := n0_; clear n0_; (try clear hb); (try clear hb2); (try clear hk); (try clear hi)) | ((with_reducible refine gate_callee (f := 12) rfl ?_); refine goesL_ (some 33) rfl rfl Tryz.func12 (by kernel_rfl) rfl #[.string a0] rfl (by (try simp only [List.map_toArray, List.map_cons, List.map_nil]); first | done | rfl | (simp only [List.length_drop, List.length_take]; rfl)) ?_; (with_reducible refine (pleacherlaw04_cut.calls a0 t164 _ A7.out).mono ?_); rintro e w22 ⟨rfl, hb⟩; refine ⟨_, rfl, ?_⟩; have n0_ := Aside0.mk (below_step (by repeat (first | (with_reducible first | exact HB.out | apply below_alloc | apply pw_below_drewN | apply below_drew1) | exact HB.out)) hb); clear HB; have HB := n0_; clear n0_; (try clear hb); (try clear hb2); (try clear hk); (try clear hi)) | ((with_reducible refine gate_callee (f := 14) rfl ?_); refine goesL_ (some 34) rfl rfl Tryz.func14 (by kernel_rfl) rfl #[.string t164] rfl (by (try simp only [List.map_toArray, List.map_cons, List.map_nil]); first | done | rfl | (simp only [List.length_drop, List.length_take]; rfl)) ?_; (with_reducible refine (escape_Ref.calls t164 t165 t166 t167 _ ?side1 A8.out).mono ?_); (case side1 => exact GW.below HG.out (by repeat (first | (with_reducible first | exact HB.out | apply below_alloc | apply pw_below_drewN | apply below_drew1) | exact HB.out))); rintro e w23 ⟨rfl, hb⟩; refine ⟨_, rfl, ?_⟩; have n0_ := Aside0.mk (below_step (by repeat (first | (with_reducible first | exact HB.out | apply below_alloc | apply pw_below_drewN | apply below_drew1) | exact HB.out)) hb); clear HB; have HB := n0_; clear n0_; (try clear hb); (try clear hb2); (try clear hk); (try clear hi)) | ((with_reducible refine gate_callee (f := 12) rfl ?_); refine goesL_ (some 40) rfl rfl Tryz.func12 (by kernel_rfl) rfl #[.string a0] rfl (by (try simp only [List.map_toArray, List.map_cons, List.map_nil]); first | done | rfl | (simp only [List.length_drop, List.length_take]; rfl)) ?_; (with_reducible refine (pleacherlaw04_cut.calls a0 t168 _ A9.out).mono ?_); rintro e w24 ⟨rfl, hb⟩; refine ⟨_, rfl, ?_⟩; have n0_ := Aside0.mk (below_step (by repeat (first | (with_reducible first | exact HB.out | apply below_alloc | apply pw_below_drewN | apply below_drew1) | exact HB.out)) hb); clear HB; have HB := n0_; clear n0_; (try clear hb); (try clear hb2); (try clear hk); (try clear hi)) | ((with_reducible refine gate_callee (f := 15) rfl ?_); refine goesL_ (some 41) rfl rfl Tryz.func15 (by kernel_rfl) rfl #[.string t168] rfl (by (try simp only [List.map_toArray, List.map_cons, List.map_nil]); first | done | rfl | (simp only [List.length_drop, List.length_take]; rfl)) ?_; (with_reducible refine (pleacherref04_Ref.calls k t168 t169 t170 t171 _ A10.out).mono ?_); rintro e w' ⟨rfl, ⟨nd, rfl⟩⟩; refine ⟨_, rfl, ?_⟩))
              go_ret
              exact ⟨by first | rfl | (simp [errW_none, errW_some] <;> rfl) | (simp [*, errW_none, errW_some] <;> rfl), by repeat (first | (with_reducible first | exact HB.out | apply below_alloc | apply pw_below_drewN | apply below_drew1) | exact HB.out)⟩
            · rw [if_neg c16] at H
              have c16b0 : (t166 == t170) = false := beq_eq_false_iff_ne.mpr c16
              have c16b1 : (t166 != t170) = true := bne_iff_ne.mpr c16
              obtain rfl := Option.some.inj H
              go_enter Tryz.func3, Tryz.ntmps3
              go_wp2_with (first | ((with_reducible refine gate_callee (f := 10) rfl ?_); refine goesL_ (some 16) rfl rfl Tryz.func10 (by kernel_rfl) rfl #[] rfl (by (try simp only [List.map_toArray, List.map_cons, List.map_nil]); first | done | rfl | (simp only [List.length_drop, List.length_take]; rfl)) ?_; (with_reducible refine (pleacherlaw04_shown.calls  true _ ?side1 A2.out).mono ?_); (case side1 => exact GW.below HG.out (by repeat (first | (with_reducible first | exact HB.out | apply below_alloc | apply pw_below_drewN | apply below_drew1) | exact HB.out))); rintro e w25 ⟨rfl, hb⟩; refine ⟨_, rfl, ?_⟩; have n0_ := Aside0.mk (below_step (by repeat (first | (with_reducible first | exact HB.out | apply below_alloc | apply pw_below_drewN | apply below_drew1) | exact HB.out)) hb); clear HB; have HB := n0_; clear n0_; (try clear hb); (try clear hb2); (try clear hk); (try clear hi)) | ((with_reducible refine gate_callee (f := 12) rfl ?_); refine goesL_ (some 19) rfl rfl Tryz.func12 (by kernel_rfl) rfl #[.string a0] rfl (by (try simp only [List.map_toArray, List.map_cons, List.map_nil]); first | done | rfl | (simp only [List.length_drop, List.length_take]; rfl)) ?_; (with_reducible refine (pleacherlaw04_cut.calls a0 t156 _ A3.out).mono ?_); rintro e w26 ⟨rfl, hb⟩; refine ⟨_, rfl, ?_⟩; have n0_ := Aside0.mk (below_step (by repeat (first | (with_reducible first | exact HB.out | apply below_alloc | apply pw_below_drewN | apply below_drew1) | exact HB.out)) hb); clear HB; have HB := n0_; clear n0_; (try clear hb); (try clear hb2); (try clear hk); (try clear hi)) | ((with_reducible refine gate_callee (f := 11) rfl ?_); refine goesL_ (some 20) rfl rfl Tryz.func11 (by kernel_rfl) rfl #[.string t156] rfl (by (try simp only [List.map_toArray, List.map_cons, List.map_nil]); first | done | rfl | (simp only [List.length_drop, List.length_take]; rfl)) ?_; (with_reducible refine (escape_Get.calls t156 t157 t158 t159 _ ?side1 A4.out).mono ?_); (case side1 => exact GW.below HG.out (by repeat (first | (with_reducible first | exact HB.out | apply below_alloc | apply pw_below_drewN | apply below_drew1) | exact HB.out))); rintro e w27 ⟨rfl, hb⟩; refine ⟨_, rfl, ?_⟩; have n0_ := Aside0.mk (below_step (by repeat (first | (with_reducible first | exact HB.out | apply below_alloc | apply pw_below_drewN | apply below_drew1) | exact HB.out)) hb); clear HB; have HB := n0_; clear n0_; (try clear hb); (try clear hb2); (try clear hk); (try clear hi)) | ((with_reducible refine gate_callee (f := 12) rfl ?_); refine goesL_ (some 26) rfl rfl Tryz.func12 (by kernel_rfl) rfl #[.string a0] rfl (by (try simp only [List.map_toArray, List.map_cons, List.map_nil]); first | done | rfl | (simp only [List.length_drop, List.length_take]; rfl)) ?_; (with_reducible refine (pleacherlaw04_cut.calls a0 t160 _ A5.out).mono ?_); rintro e w28 ⟨rfl, hb⟩; refine ⟨_, rfl, ?_⟩; have n0_ := Aside0.mk (below_step (by repeat (first | (with_reducible first | exact HB.out | apply below_alloc | apply pw_below_drewN | apply below_drew1) | exact HB.out)) hb); clear HB; have HB := n0_; clear n0_; (try clear hb); (try clear hb2); (try clear hk); (try clear hi)) | ((with_reducible refine gate_callee (f := 13) rfl ?_); refine goesL_ (some 27) rfl rfl Tryz.func13 (by kernel_rfl) rfl #[.string t160] rfl (by (try simp only [List.map_toArray, List.map_cons, List.map_nil]); first | done | rfl | (simp only [List.length_drop, List.length_take]; rfl)) ?_; (with_reducible refine (pleacherref04_Get.calls k t160 t161 t162 t163 _ A6.out).mono ?_); rintro e w29 ⟨rfl, hb⟩; refine ⟨_, rfl, ?_⟩; have n0_ := Aside0.mk (below_step (by repeat (first | (with_reducible first | exact HB.out | apply below_alloc | apply pw_below_drewN | apply below_drew1) | exact HB.out)) hb); clear HB; have HB := n0_; clear n0_; (try clear hb); (try clear hb2); (try clear hk); (try clear hi)) | ((with_reducible refine gate_callee (f := 12) rfl ?_); refine goesL_ (some 33) rfl rfl Tryz.func12 (by kernel_rfl) rfl #[.string a0] rfl (by (try simp only [List.map_toArray, List.map_cons, List.map_nil]); first | done | rfl | (simp only [List.length_drop, List.length_take]; rfl)) ?_; (with_reducible refine (pleacherlaw04_cut.calls a0 t164 _ A7.out).mono ?_); rintro e w30 ⟨rfl, hb⟩; refine ⟨_, rfl, ?_⟩; have n0_ := Aside0.mk (below_step (by repeat (first | (with_reducible first | exact HB.out | apply below_alloc | apply pw_below_drewN | apply below_drew1) | exact HB.out)) hb); clear HB; have HB := n0_; clear n0_; (try clear hb); (try clear hb2); (try clear hk); (try clear hi)) | ((with_reducible refine gate_callee (f := 14) rfl ?_); refine goesL_ (some 34) rfl rfl Tryz.func14 (by kernel_rfl) rfl #[.string t164] rfl (by (try simp only [List.map_toArray, List.map_cons, List.map_nil]); first | done | rfl | (simp only [List.length_drop, List.length_take]; rfl)) ?_; (with_reducible refine (escape_Ref.calls t164 t165 t166 t167 _ ?side1 A8.out).mono ?_); (case side1 => exact GW.below HG.out (by repeat (first | (with_reducible first | exact HB.out | apply below_alloc | apply pw_below_drewN | apply below_drew1) | exact HB.out))); rintro e w31 ⟨rfl, hb⟩; refine ⟨_, rfl, ?_⟩; have n0_ := Aside0.mk (below_step (by repeat (first | (with_reducible first | exact HB.out | apply below_alloc | apply pw_below_drewN | apply below_drew1) | exact HB.out)) hb); clear HB; have HB := n0_; clear n0_; (try clear hb); (try clear hb2); (try clear hk); (try clear hi)) | ((with_reducible refine gate_callee (f := 12) rfl ?_); refine goesL_ (some 40) rfl rfl Tryz.func12 (by kernel_rfl) rfl #[.string a0] rfl (by (try simp only [List.map_toArray, List.map_cons, List.map_nil]); first | done | rfl | (simp only [List.length_drop, List.length_take]; rfl)) ?_; (with_reducible refine (pleacherlaw04_cut.calls a0 t168 _ A9.out).mono ?_); rintro e w32 ⟨rfl, hb⟩; refine ⟨_, rfl, ?_⟩; have n0_ := Aside0.mk (below_step (by repeat (first | (with_reducible first | exact HB.out | apply below_alloc | apply pw_below_drewN | apply below_drew1) | exact HB.out)) hb); clear HB; have HB := n0_; clear n0_; (try clear hb); (try clear hb2); (try clear hk); (try clear hi)) | ((with_reducible refine gate_callee (f := 15) rfl ?_); refine goesL_ (some 41) rfl rfl Tryz.func15 (by kernel_rfl) rfl #[.string t168] rfl (by (try simp only [List.map_toArray, List.map_cons, List.map_nil]); first | done | rfl | (simp only [List.length_drop, List.length_take]; rfl)) ?_; (with_reducible refine (pleacherref04_Ref.calls k t168 t169 t170 t171 _ A10.out).mono ?_); rintro e w' ⟨rfl, ⟨nd, rfl⟩⟩; refine ⟨_, rfl, ?_⟩))
              go_ret
              exact ⟨by first | rfl | (simp [errW_none, errW_some] <;> rfl) | (simp [*, errW_none, errW_some] <;> rfl), by repeat (first | (with_reducible first | exact HB.out | apply below_alloc | apply pw_below_drewN | apply below_drew1) | exact HB.out)⟩
          · rw [if_neg c15] at H
            have c15b0 : (t165 == t169) = false := beq_eq_false_iff_ne.mpr c15
            have c15b1 : (t165 != t169) = true := bne_iff_ne.mpr c15
            obtain rfl := Option.some.inj H
            go_enter Tryz.func3, Tryz.ntmps3
            go_wp2_with (first | ((with_reducible refine gate_callee (f := 10) rfl ?_); refine goesL_ (some 16) rfl rfl Tryz.func10 (by kernel_rfl) rfl #[] rfl (by (try simp only [List.map_toArray, List.map_cons, List.map_nil]); first | done | rfl | (simp only [List.length_drop, List.length_take]; rfl)) ?_; (with_reducible refine (pleacherlaw04_shown.calls  true _ ?side1 A2.out).mono ?_); (case side1 => exact GW.below HG.out (by repeat (first | (with_reducible first | exact HB.out | apply below_alloc | apply pw_below_drewN | apply below_drew1) | exact HB.out))); rintro e w33 ⟨rfl, hb⟩; refine ⟨_, rfl, ?_⟩; have n0_ := Aside0.mk (below_step (by repeat (first | (with_reducible first | exact HB.out | apply below_alloc | apply pw_below_drewN | apply below_drew1) | exact HB.out)) hb); clear HB; have HB := n0_; clear n0_; (try clear hb); (try clear hb2); (try clear hk); (try clear hi)) | ((with_reducible refine gate_callee (f := 12) rfl ?_); refine goesL_ (some 19) rfl rfl Tryz.func12 (by kernel_rfl) rfl #[.string a0] rfl (by (try simp only [List.map_toArray, List.map_cons, List.map_nil]); first | done | rfl | (simp only [List.length_drop, List.length_take]; rfl)) ?_; (with_reducible refine (pleacherlaw04_cut.calls a0 t156 _ A3.out).mono ?_); rintro e w34 ⟨rfl, hb⟩; refine ⟨_, rfl, ?_⟩; have n0_ := Aside0.mk (below_step (by repeat (first | (with_reducible first | exact HB.out | apply below_alloc | apply pw_below_drewN | apply below_drew1) | exact HB.out)) hb); clear HB; have HB := n0_; clear n0_; (try clear hb); (try clear hb2); (try clear hk); (try clear hi)) | ((with_reducible refine gate_callee (f := 11) rfl ?_); refine goesL_ (some 20) rfl rfl Tryz.func11 (by kernel_rfl) rfl #[.string t156] rfl (by (try simp only [List.map_toArray, List.map_cons, List.map_nil]); first | done | rfl | (simp only [List.length_drop, List.length_take]; rfl)) ?_; (with_reducible refine (escape_Get.calls t156 t157 t158 t159 _ ?side1 A4.out).mono ?_); (case side1 => exact GW.below HG.out (by repeat (first | (with_reducible first | exact HB.out | apply below_alloc | apply pw_below_drewN | apply below_drew1) | exact HB.out))); rintro e w35 ⟨rfl, hb⟩; refine ⟨_, rfl, ?_⟩; have n0_ := Aside0.mk (below_step (by repeat (first | (with_reducible first | exact HB.out | apply below_alloc | apply pw_below_drewN | apply below_drew1) | exact HB.out)) hb); clear HB; have HB := n0_; clear n0_; (try clear hb); (try clear hb2); (try clear hk); (try clear hi)) | ((with_reducible refine gate_callee (f := 12) rfl ?_); refine goesL_ (some 26) rfl rfl Tryz.func12 (by kernel_rfl) rfl #[.string a0] rfl (by (try simp only [List.map_toArray, List.map_cons, List.map_nil]); first | done | rfl | (simp only [List.length_drop, List.length_take]; rfl)) ?_; (with_reducible refine (pleacherlaw04_cut.calls a0 t160 _ A5.out).mono ?_); rintro e w36 ⟨rfl, hb⟩; refine ⟨_, rfl, ?_⟩; have n0_ := Aside0.mk (below_step (by repeat (first | (with_reducible first | exact HB.out | apply below_alloc | apply pw_below_drewN | apply below_drew1) | exact HB.out)) hb); clear HB; have HB := n0_; clear n0_; (try clear hb); (try clear hb2); (try clear hk); (try clear hi)) | ((with_reducible refine gate_callee (f := 13) rfl ?_); refine goesL_ (some 27) rfl rfl Tryz.func13 (by kernel_rfl) rfl #[.string t160] rfl (by (try simp only [List.map_toArray, List.map_cons, List.map_nil]); first | done | rfl | (simp only [List.length_drop, List.length_take]; rfl)) ?_; (with_reducible refine (pleacherref04_Get.calls k t160 t161 t162 t163 _ A6.out).mono ?_); rintro e w37 ⟨rfl, hb⟩; refine ⟨_, rfl, ?_⟩; have n0_ := Aside0.mk (below_step (by repeat (first | (with_reducible first | exact HB.out | apply below_alloc | apply pw_below_drewN | apply below_drew1) | exact HB.out)) hb); clear HB; have HB := n0_; clear n0_; (try clear hb); (try clear hb2); (try clear hk); (try clear hi)) | ((with_reducible refine gate_callee (f := 12) rfl ?_); refine goesL_ (some 33) rfl rfl Tryz.func12 (by kernel_rfl) rfl #[.string a0] rfl (by (try simp only [List.map_toArray, List.map_cons, List.map_nil]); first | done | rfl | (simp only [List.length_drop, List.length_take]; rfl)) ?_; (with_reducible refine (pleacherlaw04_cut.calls a0 t164 _ A7.out).mono ?_); rintro e w38 ⟨rfl, hb⟩; refine ⟨_, rfl, ?_⟩; have n0_ := Aside0.mk (below_step (by repeat (first | (with_reducible first | exact HB.out | apply below_alloc | apply pw_below_drewN | apply below_drew1) | exact HB.out)) hb); clear HB; have HB := n0_; clear n0_; (try clear hb); (try clear hb2); (try clear hk); (try clear hi)) | ((with_reducible refine gate_callee (f := 14) rfl ?_); refine goesL_ (some 34) rfl rfl Tryz.func14 (by kernel_rfl) rfl #[.string t164] rfl (by (try simp only [List.map_toArray, List.map_cons, List.map_nil]); first | done | rfl | (simp only [List.length_drop, List.length_take]; rfl)) ?_; (with_reducible refine (escape_Ref.calls t164 t165 t166 t167 _ ?side1 A8.out).mono ?_); (case side1 => exact GW.below HG.out (by repeat (first | (with_reducible first | exact HB.out | apply below_alloc | apply pw_below_drewN | apply below_drew1) | exact HB.out))); rintro e w39 ⟨rfl, hb⟩; refine ⟨_, rfl, ?_⟩; have n0_ := Aside0.mk (below_step (by repeat (first | (with_reducible first | exact HB.out | apply below_alloc | apply pw_below_drewN | apply below_drew1) | exact HB.out)) hb); clear HB; have HB := n0_; clear n0_; (try clear hb); (try clear hb2); (try clear hk); (try clear hi)) | ((with_reducible refine gate_callee (f := 12) rfl ?_); refine goesL_ (some 40) rfl rfl Tryz.func12 (by kernel_rfl) rfl #[.string a0] rfl (by (try simp only [List.map_toArray, List.map_cons, List.map_nil]); first | done | rfl | (simp only [List.length_drop, List.length_take]; rfl)) ?_; (with_reducible refine (pleacherlaw04_cut.calls a0 t168 _ A9.out).mono ?_); rintro e w40 ⟨rfl, hb⟩; refine ⟨_, rfl, ?_⟩; have n0_ := Aside0.mk (below_step (by repeat (first | (with_reducible first | exact HB.out | apply below_alloc | apply pw_below_drewN | apply below_drew1) | exact HB.out)) hb); clear HB; have HB := n0_; clear n0_; (try clear hb); (try clear hb2); (try clear hk); (try clear hi)) | ((with_reducible refine gate_callee (f := 15) rfl ?_); refine goesL_ (some 41) rfl rfl Tryz.func15 (by kernel_rfl) rfl #[.string t168] rfl (by (try simp only [List.map_toArray, List.map_cons, List.map_nil]); first | done | rfl | (simp only [List.length_drop, List.length_take]; rfl)) ?_; (with_reducible refine (pleacherref04_Ref.calls k t168 t169 t170 t171 _ A10.out).mono ?_); rintro e w' ⟨rfl, ⟨nd, rfl⟩⟩; refine ⟨_, rfl, ?_⟩))
            go_ret
            exact ⟨by first | rfl | (simp [errW_none, errW_some] <;> rfl) | (simp [*, errW_none, errW_some] <;> rfl), by repeat (first | (with_reducible first | exact HB.out | apply below_alloc | apply pw_below_drewN | apply below_drew1) | exact HB.out)⟩
        · rw [if_neg c14] at H
          have c14b0 : (t159 == t163) = false := beq_eq_false_iff_ne.mpr c14
          have c14b1 : (t159 != t163) = true := bne_iff_ne.mpr c14
          obtain rfl := Option.some.inj H
          go_enter Tryz.func3, Tryz.ntmps3
          go_wp2_with (first | ((with_reducible refine gate_callee (f := 10) rfl ?_); refine goesL_ (some 16) rfl rfl Tryz.func10 (by kernel_rfl) rfl #[] rfl (by (try simp only [List.map_toArray, List.map_cons, List.map_nil]); first | done | rfl | (simp only [List.length_drop, List.length_take]; rfl)) ?_; (with_reducible refine (pleacherlaw04_shown.calls  true _ ?side1 A2.out).mono ?_); (case side1 => exact GW.below HG.out (by repeat (first | (with_reducible first | exact HB.out | apply below_alloc | apply pw_below_drewN | apply below_drew1) | exact HB.out))); rintro e w41 ⟨rfl, hb⟩; refine ⟨_, rfl, ?_⟩; have n0_ := Aside0.mk (below_step (by repeat (first | (with_reducible first | exact HB.out | apply below_alloc | apply pw_below_drewN | apply below_drew1) | exact HB.out)) hb); clear HB; have HB := n0_; clear n0_; (try clear hb); (try clear hb2); (try clear hk); (try clear hi)) | ((with_reducible refine gate_callee (f := 12) rfl ?_); refine goesL_ (some 19) rfl rfl Tryz.func12 (by kernel_rfl) rfl #[.string a0] rfl (by (try simp only [List.map_toArray, List.map_cons, List.map_nil]); first | done | rfl | (simp only [List.length_drop, List.length_take]; rfl)) ?_; (with_reducible refine (pleacherlaw04_cut.calls a0 t156 _ A3.out).mono ?_); rintro e w42 ⟨rfl, hb⟩; refine ⟨_, rfl, ?_⟩; have n0_ := Aside0.mk (below_step (by repeat (first | (with_reducible first | exact HB.out | apply below_alloc | apply pw_below_drewN | apply below_drew1) | exact HB.out)) hb); clear HB; have HB := n0_; clear n0_; (try clear hb); (try clear hb2); (try clear hk); (try clear hi)) | ((with_reducible refine gate_callee (f := 11) rfl ?_); refine goesL_ (some 20) rfl rfl Tryz.func11 (by kernel_rfl) rfl #[.string t156] rfl (by (try simp only [List.map_toArray, List.map_cons, List.map_nil]); first | done | rfl | (simp only [List.length_drop, List.length_take]; rfl)) ?_; (with_reducible refine (escape_Get.calls t156 t157 t158 t159 _ ?side1 A4.out).mono ?_); (case side1 => exact GW.below HG.out (by repeat (first | (with_reducible first | exact HB.out | apply below_alloc | apply pw_below_drewN | apply below_drew1) | exact HB.out))); rintro e w43 ⟨rfl, hb⟩; refine ⟨_, rfl, ?_⟩; have n0_ := Aside0.mk (below_step (by repeat (first | (with_reducible first | exact HB.out | apply below_alloc | apply pw_below_drewN | apply below_drew1) | exact HB.out)) hb); clear HB; have HB := n0_; clear n0_; (try clear hb); (try clear hb2); (try clear hk); (try clear hi)) | ((with_reducible refine gate_callee (f := 12) rfl ?_); refine goesL_ (some 26) rfl rfl Tryz.func12 (by kernel_rfl) rfl #[.string a0] rfl (by (try simp only [List.map_toArray, List.map_cons, List.map_nil]); first | done | rfl | (simp only [List.length_drop, List.length_take]; rfl)) ?_; (with_reducible refine (pleacherlaw04_cut.calls a0 t160 _ A5.out).mono ?_); rintro e w44 ⟨rfl, hb⟩; refine ⟨_, rfl, ?_⟩; have n0_ := Aside0.mk (below_step (by repeat (first | (with_reducible first | exact HB.out | apply below_alloc | apply pw_below_drewN | apply below_drew1) | exact HB.out)) hb); clear HB; have HB := n0_; clear n0_; (try clear hb); (try clear hb2); (try clear hk); (try clear hi)) | ((with_reducible refine gate_callee (f := 13) rfl ?_); refine goesL_ (some 27) rfl rfl Tryz.func13 (by kernel_rfl) rfl #[.string t160] rfl (by (try simp only [List.map_toArray, List.map_cons, List.map_nil]); first | done | rfl | (simp only [List.length_drop, List.length_take]; rfl)) ?_; (with_reducible refine (pleacherref04_Get.calls k t160 t161 t162 t163 _ A6.out).mono ?_); rintro e w45 ⟨rfl, hb⟩; refine ⟨_, rfl, ?_⟩; have n0_ := Aside0.mk (below_step (by repeat (first | (with_reducible first | exact HB.out | apply below_alloc | apply pw_below_drewN | apply below_drew1) | exact HB.out)) hb); clear HB; have HB := n0_; clear n0_; (try clear hb); (try clear hb2); (try clear hk); (try clear hi)) | ((with_reducible refine gate_callee (f := 12) rfl ?_); refine goesL_ (some 33) rfl rfl Tryz.func12 (by kernel_rfl) rfl #[.string a0] rfl (by (try simp only [List.map_toArray, List.map_cons, List.map_nil]); first | done | rfl | (simp only [List.length_drop, List.length_take]; rfl)) ?_; (with_reducible refine (pleacherlaw04_cut.calls a0 t164 _ A7.out).mono ?_); rintro e w46 ⟨rfl, hb⟩; refine ⟨_, rfl, ?_⟩; have n0_ := Aside0.mk (below_step (by repeat (first | (with_reducible first | exact HB.out | apply below_alloc | apply pw_below_drewN | apply below_drew1) | exact HB.out)) hb); clear HB; have HB := n0_; clear n0_; (try clear hb); (try clear hb2); (try clear hk); (try clear hi)) | ((with_reducible refine gate_callee (f := 14) rfl ?_); refine goesL_ (some 34) rfl rfl Tryz.func14 (by kernel_rfl) rfl #[.string t164] rfl (by (try simp only [List.map_toArray, List.map_cons, List.map_nil]); first | done | rfl | (simp only [List.length_drop, List.length_take]; rfl)) ?_; (with_reducible refine (escape_Ref.calls t164 t165 t166 t167 _ ?side1 A8.out).mono ?_); (case side1 => exact GW.below HG.out (by repeat (first | (with_reducible first | exact HB.out | apply below_alloc | apply pw_below_drewN | apply below_drew1) | exact HB.out))); rintro e w47 ⟨rfl, hb⟩; refine ⟨_, rfl, ?_⟩; have n0_ := Aside0.mk (below_step (by repeat (first | (with_reducible first | exact HB.out | apply below_alloc | apply pw_below_drewN | apply below_drew1) | exact HB.out)) hb); clear HB; have HB := n0_; clear n0_; (try clear hb); (try clear hb2); (try clear hk); (try clear hi)) | ((with_reducible refine gate_callee (f := 12) rfl ?_); refine goesL_ (some 40) rfl rfl Tryz.func12 (by kernel_rfl) rfl #[.string a0] rfl (by (try simp only [List.map_toArray, List.map_cons, List.map_nil]); first | done | rfl | (simp only [List.length_drop, List.length_take]; rfl)) ?_; (with_reducible refine (pleacherlaw04_cut.calls a0 t168 _ A9.out).mono ?_); rintro e w48 ⟨rfl, hb⟩; refine ⟨_, rfl, ?_⟩; have n0_ := Aside0.mk (below_step (by repeat (first | (with_reducible first | exact HB.out | apply below_alloc | apply pw_below_drewN | apply below_drew1) | exact HB.out)) hb); clear HB; have HB := n0_; clear n0_; (try clear hb); (try clear hb2); (try clear hk); (try clear hi)) | ((with_reducible refine gate_callee (f := 15) rfl ?_); refine goesL_ (some 41) rfl rfl Tryz.func15 (by kernel_rfl) rfl #[.string t168] rfl (by (try simp only [List.map_toArray, List.map_cons, List.map_nil]); first | done | rfl | (simp only [List.length_drop, List.length_take]; rfl)) ?_; (with_reducible refine (pleacherref04_Ref.calls k t168 t169 t170 t171 _ A10.out).mono ?_); rintro e w' ⟨rfl, ⟨nd, rfl⟩⟩; refine ⟨_, rfl, ?_⟩))
          go_ret
          exact ⟨by first | rfl | (simp [errW_none, errW_some] <;> rfl) | (simp [*, errW_none, errW_some] <;> rfl), by repeat (first | (with_reducible first | exact HB.out | apply below_alloc | apply pw_below_drewN | apply below_drew1) | exact HB.out)⟩
      · rw [if_neg c13] at H
        have c13b0 : (t158 == t162) = false := beq_eq_false_iff_ne.mpr c13
        have c13b1 : (t158 != t162) = true := bne_iff_ne.mpr c13
        obtain rfl := Option.some.inj H
        go_enter Tryz.func3, Tryz.ntmps3
        go_wp2_with (first | ((with_reducible refine gate_callee (f := 10) rfl ?_); refine goesL_ (some 16) rfl rfl Tryz.func10 (by kernel_rfl) rfl #[] rfl (by (try simp only [List.map_toArray, List.map_cons, List.map_nil]); first | done | rfl | (simp only [List.length_drop, List.length_take]; rfl)) ?_; (with_reducible refine (pleacherlaw04_shown.calls  true _ ?side1 A2.out).mono ?_); (case side1 => exact GW.below HG.out (by repeat (first | (with_reducible first | exact HB.out | apply below_alloc | apply pw_below_drewN | apply below_drew1) | exact HB.out))); rintro e w49 ⟨rfl, hb⟩; refine ⟨_, rfl, ?_⟩; have n0_ := Aside0.mk (below_step (by repeat (first | (with_reducible first | exact HB.out | apply below_alloc | apply pw_below_drewN | apply below_drew1) | exact HB.out)) hb); clear HB; have HB := n0_; clear n0_; (try clear hb); (try clear hb2); (try clear hk); (try clear hi)) | ((with_reducible refine gate_callee (f := 12) rfl ?_); refine goesL_ (some 19) rfl rfl Tryz.func12 (by kernel_rfl) rfl #[.string a0] rfl (by (try simp only [List.map_toArray, List.map_cons, List.map_nil]); first | done | rfl | (simp only [List.length_drop, List.length_take]; rfl)) ?_; (with_reducible refine (pleacherlaw04_cut.calls a0 t156 _ A3.out).mono ?_); rintro e w50 ⟨rfl, hb⟩; refine ⟨_, rfl, ?_⟩; have n0_ := Aside0.mk (below_step (by repeat (first | (with_reducible first | exact HB.out | apply below_alloc | apply pw_below_drewN | apply below_drew1) | exact HB.out)) hb); clear HB; have HB := n0_; clear n0_; (try clear hb); (try clear hb2); (try clear hk); (try clear hi)) | ((with_reducible refine gate_callee (f := 11) rfl ?_); refine goesL_ (some 20) rfl rfl Tryz.func11 (by kernel_rfl) rfl #[.string t156] rfl (by (try simp only [List.map_toArray, List.map_cons, List.map_nil]); first | done | rfl | (simp only [List.length_drop, List.length_take]; rfl)) ?_; (with_reducible refine (escape_Get.calls t156 t157 t158 t159 _ ?side1 A4.out).mono ?_); (case side1 => exact GW.below HG.out (by repeat (first | (with_reducible first | exact HB.out | apply below_alloc | apply pw_below_drewN | apply below_drew1) | exact HB.out))); rintro e w51 ⟨rfl, hb⟩; refine ⟨_, rfl, ?_⟩; have n0_ := Aside0.mk (below_step (by repeat (first | (with_reducible first | exact HB.out | apply below_alloc | apply pw_below_drewN | apply below_drew1) | exact HB.out)) hb); clear HB; have HB := n0_; clear n0_; (try clear hb); (try clear hb2); (try clear hk); (try clear hi)) | ((with_reducible refine gate_callee (f := 12) rfl ?_); refine goesL_ (some 26) rfl rfl Tryz.func12 (by kernel_rfl) rfl #[.string a0] rfl (by (try simp only [List.map_toArray, List.map_cons, List.map_nil]); first | done | rfl | (simp only [List.length_drop, List.length_take]; rfl)) ?_; (with_reducible refine (pleacherlaw04_cut.calls a0 t160 _ A5.out).mono ?_); rintro e w52 ⟨rfl, hb⟩; refine ⟨_, rfl, ?_⟩; have n0_ := Aside0.mk (below_step (by repeat (first | (with_reducible first | exact HB.out | apply below_alloc | apply pw_below_drewN | apply below_drew1) | exact HB.out)) hb); clear HB; have HB := n0_; clear n0_; (try clear hb); (try clear hb2); (try clear hk); (try clear hi)) | ((with_reducible refine gate_callee (f := 13) rfl ?_); refine goesL_ (some 27) rfl rfl Tryz.func13 (by kernel_rfl) rfl #[.string t160] rfl (by (try simp only [List.map_toArray, List.map_cons, List.map_nil]); first | done | rfl | (simp only [List.length_drop, List.length_take]; rfl)) ?_; (with_reducible refine (pleacherref04_Get.calls k t160 t161 t162 t163 _ A6.out).mono ?_); rintro e w53 ⟨rfl, hb⟩; refine ⟨_, rfl, ?_⟩; have n0_ := Aside0.mk (below_step (by repeat (first | (with_reducible first | exact HB.out | apply below_alloc | apply pw_below_drewN | apply below_drew1) | exact HB.out)) hb); clear HB; have HB := n0_; clear n0_; (try clear hb); (try clear hb2); (try clear hk); (try clear hi)) | ((with_reducible refine gate_callee (f := 12) rfl ?_); refine goesL_ (some 33) rfl rfl Tryz.func12 (by kernel_rfl) rfl #[.string a0] rfl (by (try simp only [List.map_toArray, List.map_cons, List.map_nil]); first | done | rfl | (simp only [List.length_drop, List.length_take]; rfl)) ?_; (with_reducible refine (pleacherlaw04_cut.calls a0 t164 _ A7.out).mono ?_); rintro e w54 ⟨rfl, hb⟩; refine ⟨_, rfl, ?_⟩; have n0_ := Aside0.mk (below_step (by repeat (first | (with_reducible first | exact HB.out | apply below_alloc | apply pw_below_drewN | apply below_drew1) | exact HB.out)) hb); clear HB; have HB := n0_; clear n0_; (try clear hb); (try clear hb2); (try clear hk); (try clear hi)) | ((with_reducible refine gate_callee (f := 14) rfl ?_); refine goesL_ (some 34) rfl rfl Tryz.func14 (by kernel_rfl) rfl #[.string t164] rfl (by (try simp only [List.map_toArray, List.map_cons, List.map_nil]); first | done | rfl | (simp only [List.length_drop, List.length_take]; rfl)) ?_; (with_reducible refine (escape_Ref.calls t164 t165 t166 t167 _ ?side1 A8.out).mono ?_); (case side1 => exact GW.below HG.out (by repeat (first | (with_reducible first | exact HB.out | apply below_alloc | apply pw_below_drewN | apply below_drew1) | exact HB.out))); rintro e w55 ⟨rfl, hb⟩; refine ⟨_, rfl, ?_⟩; have n0_ := Aside0.mk (below_step (by repeat (first | (with_reducible first | exact HB.out | apply below_alloc | apply pw_below_drewN | apply below_drew1) | exact HB.out)) hb); clear HB; have HB := n0_; clear n0_; (try clear hb); (try clear hb2); (try clear hk); (try clear hi)) | ((with_reducible refine gate_callee (f := 12) rfl ?_); refine goesL_ (some 40) rfl rfl Tryz.func12 (by kernel_rfl) rfl #[.string a0] rfl (by (try simp only [List.map_toArray, List.map_cons, List.map_nil]); first | done | rfl | (simp only [List.length_drop, List.length_take]; rfl)) ?_; (with_reducible refine (pleacherlaw04_cut.calls a0 t168 _ A9.out).mono ?_); rintro e w56 ⟨rfl, hb⟩; refine ⟨_, rfl, ?_⟩; have n0_ := Aside0.mk (below_step (by repeat (first | (with_reducible first | exact HB.out | apply below_alloc | apply pw_below_drewN | apply below_drew1) | exact HB.out)) hb); clear HB; have HB := n0_; clear n0_; (try clear hb); (try clear hb2); (try clear hk); (try clear hi)) | ((with_reducible refine gate_callee (f := 15) rfl ?_); refine goesL_ (some 41) rfl rfl Tryz.func15 (by kernel_rfl) rfl #[.string t168] rfl (by (try simp only [List.map_toArray, List.map_cons, List.map_nil]); first | done | rfl | (simp only [List.length_drop, List.length_take]; rfl)) ?_; (with_reducible refine (pleacherref04_Ref.calls k t168 t169 t170 t171 _ A10.out).mono ?_); rintro e w' ⟨rfl, ⟨nd, rfl⟩⟩; refine ⟨_, rfl, ?_⟩))
        go_ret
        exact ⟨by first | rfl | (simp [errW_none, errW_some] <;> rfl) | (simp [*, errW_none, errW_some] <;> rfl), by repeat (first | (with_reducible first | exact HB.out | apply below_alloc | apply pw_below_drewN | apply below_drew1) | exact HB.out)⟩
    · rw [if_neg c12] at H
      have c12b0 : (t157.toList == t161.toList) = false := beq_eq_false_iff_ne.mpr c12
      have c12b1 : (t157.toList != t161.toList) = true := bne_iff_ne.mpr c12
      obtain rfl := Option.some.inj H
      go_enter Tryz.func3, Tryz.ntmps3
      go_wp2_with (first | ((with_reducible refine gate_callee (f := 10) rfl ?_); refine goesL_ (some 16) rfl rfl Tryz.func10 (by kernel_rfl) rfl #[] rfl (by (try simp only [List.map_toArray, List.map_cons, List.map_nil]); first | done | rfl | (simp only [List.length_drop, List.length_take]; rfl)) ?_; (with_reducible refine (pleacherlaw04_shown.calls  true _ ?side1 A2.out).mono ?_); (case side1 => exact GW.below HG.out (by repeat (first | (with_reducible first | exact HB.out | apply below_alloc | apply pw_below_drewN | apply below_drew1) | exact HB.out))); rintro e w57 ⟨rfl, hb⟩; refine ⟨_, rfl, ?_⟩; have n0_ := Aside0.mk (below_step (by repeat (first | (with_reducible first | exact HB.out | apply below_alloc | apply pw_below_drewN | apply below_drew1) | exact HB.out)) hb); clear HB; have HB := n0_; clear n0_; (try clear hb); (try clear hb2); (try clear hk); (try clear hi)) | ((with_reducible refine gate_callee (f := 12) rfl ?_); refine goesL_ (some 19) rfl rfl Tryz.func12 (by kernel_rfl) rfl #[.string a0] rfl (by (try simp only [List.map_toArray, List.map_cons, List.map_nil]); first | done | rfl | (simp only [List.length_drop, List.length_take]; rfl)) ?_; (with_reducible refine (pleacherlaw04_cut.calls a0 t156 _ A3.out).mono ?_); rintro e w58 ⟨rfl, hb⟩; refine ⟨_, rfl, ?_⟩; have n0_ := Aside0.mk (below_step (by repeat (first | (with_reducible first | exact HB.out | apply below_alloc | apply pw_below_drewN | apply below_drew1) | exact HB.out)) hb); clear HB; have HB := n0_; clear n0_; (try clear hb); (try clear hb2); (try clear hk); (try clear hi)) | ((with_reducible refine gate_callee (f := 11) rfl ?_); refine goesL_ (some 20) rfl rfl Tryz.func11 (by kernel_rfl) rfl #[.string t156] rfl (by (try simp only [List.map_toArray, List.map_cons, List.map_nil]); first | done | rfl | (simp only [List.length_drop, List.length_take]; rfl)) ?_; (with_reducible refine (escape_Get.calls t156 t157 t158 t159 _ ?side1 A4.out).mono ?_); (case side1 => exact GW.below HG.out (by repeat (first | (with_reducible first | exact HB.out | apply below_alloc | apply pw_below_drewN | apply below_drew1) | exact HB.out))); rintro e w59 ⟨rfl, hb⟩; refine ⟨_, rfl, ?_⟩; have n0_ := Aside0.mk (below_step (by repeat (first | (with_reducible first | exact HB.out | apply below_alloc | apply pw_below_drewN | apply below_drew1) | exact HB.out)) hb); clear HB; have HB := n0_; clear n0_; (try clear hb); (try clear hb2); (try clear hk); (try clear hi)) | ((with_reducible refine gate_callee (f := 12) rfl ?_); refine goesL_ (some 26) rfl rfl Tryz.func12 (by kernel_rfl) rfl #[.string a0] rfl (by (try simp only [List.map_toArray, List.map_cons, List.map_nil]); first | done | rfl | (simp only [List.length_drop, List.length_take]; rfl)) ?_; (with_reducible refine (pleacherlaw04_cut.calls a0 t160 _ A5.out).mono ?_); rintro e w60 ⟨rfl, hb⟩; refine ⟨_, rfl, ?_⟩; have n0_ := Aside0.mk (below_step (by repeat (first | (with_reducible first | exact HB.out | apply below_alloc | apply pw_below_drewN | apply below_drew1) | exact HB.out)) hb); clear HB; have HB := n0_; clear n0_; (try clear hb); (try clear hb2); (try clear hk); (try clear hi)) | ((with_reducible refine gate_callee (f := 13) rfl ?_); refine goesL_ (some 27) rfl rfl Tryz.func13 (by kernel_rfl) rfl #[.string t160] rfl (by (try simp only [List.map_toArray, List.map_cons, List.map_nil]); first | done | rfl | (simp only [List.length_drop, List.length_take]; rfl)) ?_; (with_reducible refine (pleacherref04_Get.calls k t160 t161 t162 t163 _ A6.out).mono ?_); rintro e w61 ⟨rfl, hb⟩; refine ⟨_, rfl, ?_⟩; have n0_ := Aside0.mk (below_step (by repeat (first | (with_reducible first | exact HB.out | apply below_alloc | apply pw_below_drewN | apply below_drew1) | exact HB.out)) hb); clear HB; have HB := n0_; clear n0_; (try clear hb); (try clear hb2); (try clear hk); (try clear hi)) | ((with_reducible refine gate_callee (f := 12) rfl ?_); refine goesL_ (some 33) rfl rfl Tryz.func12 (by kernel_rfl) rfl #[.string a0] rfl (by (try simp only [List.map_toArray, List.map_cons, List.map_nil]); first | done | rfl | (simp only [List.length_drop, List.length_take]; rfl)) ?_; (with_reducible refine (pleacherlaw04_cut.calls a0 t164 _ A7.out).mono ?_); rintro e w62 ⟨rfl, hb⟩; refine ⟨_, rfl, ?_⟩; have n0_ := Aside0.mk (below_step (by repeat (first | (with_reducible first | exact HB.out | apply below_alloc | apply pw_below_drewN | apply below_drew1) | exact HB.out)) hb); clear HB; have HB := n0_; clear n0_; (try clear hb); (try clear hb2); (try clear hk); (try clear hi)) | ((with_reducible refine gate_callee (f := 14) rfl ?_); refine goesL_ (some 34) rfl rfl Tryz.func14 (by kernel_rfl) rfl #[.string t164] rfl (by (try simp only [List.map_toArray, List.map_cons, List.map_nil]); first | done | rfl | (simp only [List.length_drop, List.length_take]; rfl)) ?_; (with_reducible refine (escape_Ref.calls t164 t165 t166 t167 _ ?side1 A8.out).mono ?_); (case side1 => exact GW.below HG.out (by repeat (first | (with_reducible first | exact HB.out | apply below_alloc | apply pw_below_drewN | apply below_drew1) | exact HB.out))); rintro e w63 ⟨rfl, hb⟩; refine ⟨_, rfl, ?_⟩; have n0_ := Aside0.mk (below_step (by repeat (first | (with_reducible first | exact HB.out | apply below_alloc | apply pw_below_drewN | apply below_drew1) | exact HB.out)) hb); clear HB; have HB := n0_; clear n0_; (try clear hb); (try clear hb2); (try clear hk); (try clear hi)) | ((with_reducible refine gate_callee (f := 12) rfl ?_); refine goesL_ (some 40) rfl rfl Tryz.func12 (by kernel_rfl) rfl #[.string a0] rfl (by (try simp only [List.map_toArray, List.map_cons, List.map_nil]); first | done | rfl | (simp only [List.length_drop, List.length_take]; rfl)) ?_; (with_reducible refine (pleacherlaw04_cut.calls a0 t168 _ A9.out).mono ?_); rintro e w64 ⟨rfl, hb⟩; refine ⟨_, rfl, ?_⟩; have n0_ := Aside0.mk (below_step (by repeat (first | (with_reducible first | exact HB.out | apply below_alloc | apply pw_below_drewN | apply below_drew1) | exact HB.out)) hb); clear HB; have HB := n0_; clear n0_; (try clear hb); (try clear hb2); (try clear hk); (try clear hi)) | ((with_reducible refine gate_callee (f := 15) rfl ?_); refine goesL_ (some 41) rfl rfl Tryz.func15 (by kernel_rfl) rfl #[.string t168] rfl (by (try simp only [List.map_toArray, List.map_cons, List.map_nil]); first | done | rfl | (simp only [List.length_drop, List.length_take]; rfl)) ?_; (with_reducible refine (pleacherref04_Ref.calls k t168 t169 t170 t171 _ A10.out).mono ?_); rintro e w' ⟨rfl, ⟨nd, rfl⟩⟩; refine ⟨_, rfl, ?_⟩))
      go_ret
      exact ⟨by first | rfl | (simp [errW_none, errW_some] <;> rfl) | (simp [*, errW_none, errW_some] <;> rfl), by repeat (first | (with_reducible first | exact HB.out | apply below_alloc | apply pw_below_drewN | apply below_drew1) | exact HB.out)⟩
  · replace c11 := Bool.eq_false_iff.mpr c11
    subst c11
    have H1 : (some false) = some r := by rw [if_neg (show ¬ (false = true) by decide)] at H; exact H
    clear H
    have H := H1
    clear H1
    obtain rfl := Option.some.inj H
    go_enter Tryz.func3, Tryz.ntmps3
    go_wp2_with (first | ((with_reducible refine gate_callee (f := 10) rfl ?_); refine goesL_ (some 16) rfl rfl Tryz.func10 (by kernel_rfl) rfl #[] rfl (by (try simp only [List.map_toArray, List.map_cons, List.map_nil]); first | done | rfl | (simp only [List.length_drop, List.length_take]; rfl)) ?_; (with_reducible refine (pleacherlaw04_shown.calls  false _ ?side1 A2.out).mono ?_); (case side1 => exact GW.below HG.out (by repeat (first | (with_reducible first | exact HB.out | apply below_alloc | apply pw_below_drewN | apply below_drew1) | exact HB.out))); rintro e w65 ⟨rfl, hb⟩; refine ⟨_, rfl, ?_⟩; have n0_ := Aside0.mk (below_step (by repeat (first | (with_reducible first | exact HB.out | apply below_alloc | apply pw_below_drewN | apply below_drew1) | exact HB.out)) hb); clear HB; have HB := n0_; clear n0_; (try clear hb); (try clear hb2); (try clear hk); (try clear hi)) | ((with_reducible refine gate_callee (f := 12) rfl ?_); refine goesL_ (some 19) rfl rfl Tryz.func12 (by kernel_rfl) rfl #[.string a0] rfl (by (try simp only [List.map_toArray, List.map_cons, List.map_nil]); first | done | rfl | (simp only [List.length_drop, List.length_take]; rfl)) ?_; (with_reducible refine (pleacherlaw04_cut.calls a0 t156 _ A3.out).mono ?_); rintro e w66 ⟨rfl, hb⟩; refine ⟨_, rfl, ?_⟩; have n0_ := Aside0.mk (below_step (by repeat (first | (with_reducible first | exact HB.out | apply below_alloc | apply pw_below_drewN | apply below_drew1) | exact HB.out)) hb); clear HB; have HB := n0_; clear n0_; (try clear hb); (try clear hb2); (try clear hk); (try clear hi)) | ((with_reducible refine gate_callee (f := 11) rfl ?_); refine goesL_ (some 20) rfl rfl Tryz.func11 (by kernel_rfl) rfl #[.string t156] rfl (by (try simp only [List.map_toArray, List.map_cons, List.map_nil]); first | done | rfl | (simp only [List.length_drop, List.length_take]; rfl)) ?_; (with_reducible refine (escape_Get.calls t156 t157 t158 t159 _ ?side1 A4.out).mono ?_); (case side1 => exact GW.below HG.out (by repeat (first | (with_reducible first | exact HB.out | apply below_alloc | apply pw_below_drewN | apply below_drew1) | exact HB.out))); rintro e w67 ⟨rfl, hb⟩; refine ⟨_, rfl, ?_⟩; have n0_ := Aside0.mk (below_step (by repeat (first | (with_reducible first | exact HB.out | apply below_alloc | apply pw_below_drewN | apply below_drew1) | exact HB.out)) hb); clear HB; have HB := n0_; clear n0_; (try clear hb); (try clear hb2); (try clear hk); (try clear hi)) | ((with_reducible refine gate_callee (f := 12) rfl ?_); refine goesL_ (some 26) rfl rfl Tryz.func12 (by kernel_rfl) rfl #[.string a0] rfl (by (try simp only [List.map_toArray, List.map_cons, List.map_nil]); first | done | rfl | (simp only [List.length_drop, List.length_take]; rfl)) ?_; (with_reducible refine (pleacherlaw04_cut.calls a0 t160 _ A5.out).mono ?_); rintro e w68 ⟨rfl, hb⟩; refine ⟨_, rfl, ?_⟩; have n0_ := Aside0.mk (below_step (by repeat (first | (with_reducible first | exact HB.out | apply below_alloc | apply pw_below_drewN | apply below_drew1) | exact HB.out)) hb); clear HB; have HB := n0_; clear n0_; (try clear hb); (try clear hb2); (try clear hk); (try clear hi)) | ((with_reducible refine gate_callee (f := 13) rfl ?_); refine goesL_ (some 27) rfl rfl Tryz.func13 (by kernel_rfl) rfl #[.string t160] rfl (by (try simp only [List.map_toArray, List.map_cons, List.map_nil]); first | done | rfl | (simp only [List.length_drop, List.length_take]; rfl)) ?_; (with_reducible refine (pleacherref04_Get.calls k t160 t161 t162 t163 _ A6.out).mono ?_); rintro e w69 ⟨rfl, hb⟩; refine ⟨_, rfl, ?_⟩; have n0_ := Aside0.mk (below_step (by repeat (first | (with_reducible first | exact HB.out | apply below_alloc | apply pw_below_drewN | apply below_drew1) | exact HB.out)) hb); clear HB; have HB := n0_; clear n0_; (try clear hb); (try clear hb2); (try clear hk); (try clear hi)) | ((with_reducible refine gate_callee (f := 12) rfl ?_); refine goesL_ (some 33) rfl rfl Tryz.func12 (by kernel_rfl) rfl #[.string a0] rfl (by (try simp only [List.map_toArray, List.map_cons, List.map_nil]); first | done | rfl | (simp only [List.length_drop, List.length_take]; rfl)) ?_; (with_reducible refine (pleacherlaw04_cut.calls a0 t164 _ A7.out).mono ?_); rintro e w70 ⟨rfl, hb⟩; refine ⟨_, rfl, ?_⟩; have n0_ := Aside0.mk (below_step (by repeat (first | (with_reducible first | exact HB.out | apply below_alloc | apply pw_below_drewN | apply below_drew1) | exact HB.out)) hb); clear HB; have HB := n0_; clear n0_; (try clear hb); (try clear hb2); (try clear hk); (try clear hi)) | ((with_reducible refine gate_callee (f := 14) rfl ?_); refine goesL_ (some 34) rfl rfl Tryz.func14 (by kernel_rfl) rfl #[.string t164] rfl (by (try simp only [List.map_toArray, List.map_cons, List.map_nil]); first | done | rfl | (simp only [List.length_drop, List.length_take]; rfl)) ?_; (with_reducible refine (escape_Ref.calls t164 t165 t166 t167 _ ?side1 A8.out).mono ?_); (case side1 => exact GW.below HG.out (by repeat (first | (with_reducible first | exact HB.out | apply below_alloc | apply pw_below_drewN | apply below_drew1) | exact HB.out))); rintro e w71 ⟨rfl, hb⟩; refine ⟨_, rfl, ?_⟩; have n0_ := Aside0.mk (below_step (by repeat (first | (with_reducible first | exact HB.out | apply below_alloc | apply pw_below_drewN | apply below_drew1) | exact HB.out)) hb); clear HB; have HB := n0_; clear n0_; (try clear hb); (try clear hb2); (try clear hk); (try clear hi)) | ((with_reducible refine gate_callee (f := 12) rfl ?_); refine goesL_ (some 40) rfl rfl Tryz.func12 (by kernel_rfl) rfl #[.string a0] rfl (by (try simp only [List.map_toArray, List.map_cons, List.map_nil]); first | done | rfl | (simp only [List.length_drop, List.length_take]; rfl)) ?_; (with_reducible refine (pleacherlaw04_cut.calls a0 t168 _ A9.out).mono ?_); rintro e w72 ⟨rfl, hb⟩; refine ⟨_, rfl, ?_⟩; have n0_ := Aside0.mk (below_step (by repeat (first | (with_reducible first | exact HB.out | apply below_alloc | apply pw_below_drewN | apply below_drew1) | exact HB.out)) hb); clear HB; have HB := n0_; clear n0_; (try clear hb); (try clear hb2); (try clear hk); (try clear hi)) | ((with_reducible refine gate_callee (f := 15) rfl ?_); refine goesL_ (some 41) rfl rfl Tryz.func15 (by kernel_rfl) rfl #[.string t168] rfl (by (try simp only [List.map_toArray, List.map_cons, List.map_nil]); first | done | rfl | (simp only [List.length_drop, List.length_take]; rfl)) ?_; (with_reducible refine (pleacherref04_Ref.calls k t168 t169 t170 t171 _ A10.out).mono ?_); rintro e w' ⟨rfl, ⟨nd, rfl⟩⟩; refine ⟨_, rfl, ?_⟩))
    go_ret
    exact ⟨by first | rfl | (simp [errW_none, errW_some] <;> rfl) | (simp [*, errW_none, errW_some] <;> rfl), by repeat (first | (with_reducible first | exact HB.out | apply below_alloc | apply pw_below_drewN | apply below_drew1) | exact HB.out)⟩

end Go.Proofs.YtbcjhmeeonhmaaaGreatDoor.M
end

/-
EscapeGets: what the law computes is true.
-/
section
set_option linter.unusedVariables false
set_option maxRecDepth 100000
namespace Go.Proofs.YtbcjhmeeonhmaaaGreatDoor.H
open Go Go.RowKit Go.Proofs.YtbcjhmeeonhmaaaGreatDoorW.PrintWords Go.Proofs.YtbcjhmeeonhmaaaGreatDoorW.PrintMore Go.Proofs.YtbcjhmeeonhmaaaGreatDoor.M
theorem escapeGets_f (s : ByteArray) : pleacherlaw04_EscapeGets.f 2100 s = some true := by
  have hz := cut_size s
  unfold pleacherlaw04_EscapeGets.f
  rw [shown_f, Option.bind_some, cut_f, Option.bind_some, get_f _ (by omega), Option.bind_some, Option.bind_some, ref04_get _ (by omega) _ (by omega), Option.bind_some, Option.bind_some]
  unfold escape_Ref.f
  rw [if_pos (show (cutT s).size ≤ 1073741824 by omega), Option.bind_some, Option.bind_some, ref04_ref _ (by omega) _ (by omega), Option.bind_some]
  simp
end Go.Proofs.YtbcjhmeeonhmaaaGreatDoor.H
end

/-
The row and card of EscapeGets.
-/
section
set_option linter.unusedVariables false
set_option linter.unusedSimpArgs false
set_option maxRecDepth 100000
namespace Go.Proofs.YtbcjhmeeonhmaaaGreatDoor.H
open Go Go.ChangeShapes Go.WideShapes Go.ChangeAt Go.RowKit Go.Proofs.YtbcjhmeeonhmaaaGreatDoorW.PrintWords Go.Proofs.YtbcjhmeeonhmaaaGreatDoorW.PrintMore Go.Proofs.YtbcjhmeeonhmaaaGreatDoor.M

theorem eG_contract (H : Type) (enc : TypeId × Value → H) (W : World) (base : Nat) (args : Array Value) (ds gs : List (DataW H)) (before : List MemPlace)
    (hval : ∀ (j : Nat) t v, Tryz.f3.params[j]? = some t → args[j]? = some v → Value.okWide Tryz.prog W .any base t v)
    (hW : DataW.Whole enc Tryz.prog Tryz.f3.params.toList Rows.escapeGetsSpec.vars false W args.toList ds gs before) (hL : laidMetH Tryz.prog Rows.escapeGetsRow.laid W) (hsh : W.ShapedOpen Tryz.prog) :
    Calls Tryz.prog 3 args W fun e W' => ∃ v, e = .returned v ∧ Rows.escapeGetsSpec.post enc Tryz.prog Tryz.f3 false true false false W args v W' := by
  have hW' := hW
  have hlt := hW.lt
  obtain ⟨p, q, hA0, hV, rfl, hfz, hnd⟩ := hW
  have hA : DataW.TrodAll enc Tryz.prog W 0 (fun _ => true) true Tryz.f3.params.toList args.toList ds p := hA0
  rw [Tryz.params3] at hA hval
  obtain ⟨v0, vs0, d0, ds0, p0, q0, hargs, rfl, rfl, h0, r0⟩ := trodAll_cons hA
  obtain ⟨rfl, rfl, rfl⟩ := trodAll_nil r0
  obtain rfl : args = #[v0] := by cases args; simp_all
  obtain ⟨rfl, rfl⟩ := trodVars_none hV
  obtain ⟨n0, rfl, _⟩ := Go.ChangeMaps.open_string Tryz.underlying9 (hval 0 9 v0 rfl rfl) h0
  refine (pleacherlaw04_EscapeGets.calls 2100 n0 true W (gw_of_laid (laidA hL) hsh) (escapeGets_f n0)).mono fun e W' ⟨he, hb⟩ => ?_
  subst he
  refine ⟨_, rfl, post_true hW' rfl (by kernel_rfl) ⟨rfl, rfl, rfl⟩ (pa := p0 ++ []) ?_ hb (by simp)⟩
  rw [Tryz.params3]
  exact trodAll_cons_mk (Below.trod laidOutA readS rowsS h0 hb (fun x hx => hlt x (by simpa using hx))) trodAll_mk0
/-- The witness' arguments. -/
def eG_wargs : Array Value := #[.string ⟨#[]⟩]
theorem eG_reads (os : Os) {H : Type} (enc : TypeId × Value → H) : ∃ places, DataW.whole enc Tryz.prog ((World.doorLaid Tryz.prog 200 os).forCall (fun _ _ => 0) ⟨#[], eG_wargs, []⟩).memory Tryz.f3.params.toList Rows.escapeGetsSpec.vars false eG_wargs.toList 8 = some ([.lit (.string [])], [], places) :=
  ⟨[], by kernel_rfl⟩
/-- THE ROW's STEP. -/
theorem eG_lifted (os : Os) (started : os.Started) (H : Type) (enc : TypeId × Value → H) (F : Stop.Interp) :
    ReturnsInHanded {} Tryz.checked os 3 .any ((OpenSpec.ofChange Rows.escapeGetsSpec).preRow enc Tryz.prog Tryz.f3 Rows.escapeGetsRow.domain false Rows.escapeGetsRow.laid) (((OpenSpec.ofChange Rows.escapeGetsSpec).at F).post enc Tryz.prog Tryz.f3 false true false false) := by
  obtain ⟨places, hx⟩ := eG_reads os enc
  refine returnsInHanded_of_row (C := Tryz.checked) (s := OpenSpec.ofChange Rows.escapeGetsSpec) own started (by kernel_rfl) Tryz.func3
    (witness_row_atRef (enc := enc) (C := Tryz.checked) false (World.doorLaid Tryz.prog 200 os) eG_wargs rfl (by kernel_rfl) (by kernel_rfl) (by kernel_rfl)
      (OpenSpec.preRow_of_cond 8 hx (by kernel_rfl) (fun k hk => by cases hk) (by kernel_rfl) (doorA os _))) ?_
  intro W base args ds gs before hval hW _ _ _ hL hsh _
  exact eG_contract H enc W base args ds gs before hval hW hL hsh
theorem eG_said : Rows.EscapeGetsSaid :=
  OpenClaim.holds_of_cond 3 Tryz.f3 rfl rfl rfl rfl rfl rfl rfl ⟨rfl, rfl, rfl, rfl, rfl⟩ rfl rfl rfl rfl rfl (by kernel_rfl) Tryz.func3 (by kernel_rfl)
    (of_decide_eq_true (by kernel_rfl)) (by unfold Func.isWrapper; first | (rw [if_pos (by decide +kernel)]; kernel_rfl) | (rw [if_neg (by decide +kernel)]; exact ⟨rfl, rfl⟩))
    (fun os started H enc _ F => by rw [OpenClaim.pre_eq_preRow]; exact eG_lifted os started H enc F)
theorem eG_plain (f : FuncId) (fn : Func) (hf : Tryz.pinned.checked.prog.funcNamed "pleacher/pleacherlaw04.EscapeGets" = some f) (hfn : Tryz.pinned.checked.prog.funcs[f]? = some fn) :
    true = Tryz.pinned.checked.prog.looks [] ∧ ∀ (j : Nat) t, fn.params[j]? = some t → Tryz.pinned.checked.prog.wantsStandIn t = false := by
  obtain rfl : f = 3 := Option.some.inj ((show Tryz.prog.funcNamed "pleacher/pleacherlaw04.EscapeGets" = some 3 by kernel_rfl).symm.trans hf) |>.symm
  obtain rfl : fn = Tryz.f3 := (Option.some.inj (Tryz.func3.symm.trans hfn)).symm
  refine ⟨by kernel_rfl, fun j t ht => ?_⟩
  rw [Tryz.params3] at ht
  have ht := Array.mem_of_getElem? ht
  obtain rfl : t = 9 := by simpa using ht
  exact (show Tryz.prog.wantsStandIn 9 = false by kernel_rfl)
/-- THE CARD of EscapeGets. -/
theorem eG_card : Rows.EscapeGetsCardSaid :=
  Claim7.holds_tied_plain_at .later [] _ _ _ _ eG_said (fun _ h => by cases h) (by kernel_rfl) (fun _ h => by cases h) escapeGets_row_tie rfl ⟨rfl, rfl⟩ (by kernel_rfl) rfl eG_plain (by kernel_rfl)
end Go.Proofs.YtbcjhmeeonhmaaaGreatDoor.H
end
