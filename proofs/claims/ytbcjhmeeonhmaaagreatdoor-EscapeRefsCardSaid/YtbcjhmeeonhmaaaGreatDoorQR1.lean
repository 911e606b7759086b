/-
The card of EscapeRefs: a reference to a rune, in decimal or hexadecimal digits, stands for it, if it is an XML rune (no condition).
-/
import Derived.Test.YtbcjhmeeonhmaaaGreatDoorQC3
set_option linter.unusedVariables false
set_option linter.unusedSimpArgs false
-- Laid by a program of this session for this claim.
section
namespace Go.Proofs.YtbcjhmeeonhmaaaGreatDoor.M
open Go.RowKit Go.Proofs.YtbcjhmeeonhmaaaGreatDoorW.PrintWords Go.Proofs.YtbcjhmeeonhmaaaGreatDoorW.PrintLast Go.Proofs.YtbcjhmeeonhmaaaGreatDoorW.PrintMore
attribute [local go_sem] max2_int min2_int max_two min_two max_three min_three max_four min_four   -- for this text's walks alone
set_option linter.unusedVariables false
set_option linter.unusedSimpArgs false

/-! ### escape_Ref: function 14 -/
-- IMPORT Derived.Test.YtbcjhmeeonhmaaaGreatDoorHRefE Derived.Test.YtbcjhmeeonhmaaaGreatDoorHGmZ
def escape_Ref.f (a0 : ByteArray) : Option (Int × Int × Int) := if a0.size ≤ 1073741824 then some (H.refS a0) else none
theorem escape_Ref.calls (a0 : ByteArray) (r1 : Int) (r2 : Int) (r3 : Int) (w : World) (hG : GW w) (h : escape_Ref.f a0 = some (r1, r2, r3)) :
    Calls Tryz.prog 14 #[.string a0] w fun e w' => e = .returned (.tuple #[.int .i64 r1, .int .i64 r2, .int .i64 r3]) ∧ Below w.heap.size w w' := by
  unfold escape_Ref.f at h
  by_cases hh : a0.size ≤ 1073741824
  · rw [if_pos hh] at h
    have := H.ref a0 w (GW.g hG) hh
    unfold H.RefPost at this
    rw [Option.some.inj h] at this
    exact this
  · rw [if_neg hh] at h; cases h

end Go.Proofs.YtbcjhmeeonhmaaaGreatDoor.M
end

-- Laid by a program of this session for this claim.
section
namespace Go.Proofs.YtbcjhmeeonhmaaaGreatDoor.M
open Go.RowKit Go.Proofs.YtbcjhmeeonhmaaaGreatDoorW.PrintWords Go.Proofs.YtbcjhmeeonhmaaaGreatDoorW.PrintLast Go.Proofs.YtbcjhmeeonhmaaaGreatDoorW.PrintMore
attribute [local go_sem] max2_int min2_int max_two min_two max_three min_three max_four min_four   -- for this text's walks alone
set_option linter.unusedVariables false
set_option linter.unusedSimpArgs false

/-! ### pleacherref04_Digits: function 17 -/
def pleacherref04_Digits.f (k : Nat) (a0 : Int) (a1 : Int) : Option (ByteArray) := (pleacherref03_Put.f k a0 (IntKind.u64.wrap (a1))).bind fun t190 => (some t190)
set_option maxHeartbeats 8000000 in
set_option maxRecDepth 100000 in
theorem pleacherref04_Digits.calls (k : Nat) (a0 : Int) (a1 : Int) (r : ByteArray) (w : World) (h : pleacherref04_Digits.f k a0 a1 = some r) :
    Calls Tryz.prog 17 #[.int .i64 a0, .int .i64 a1] w fun e w' => e = .returned (.string r) ∧ Drawn0 w w' := by
  have H : ((pleacherref03_Put.f k a0 (IntKind.u64.wrap (a1))).bind fun t190 => (some t190)) = some r := h
  clear h
  replace H := Option.bind_eq_some_iff.mp H
  obtain ⟨t190, A30, H⟩ := H
  replace H : (some t190) = some r := H
  have A3 := Aside0.mk A30
  clear A30
  obtain rfl := Option.some.inj H
  go_enter Tryz.func17, Tryz.ntmps17
  go_wp2_with (first | ((with_reducible refine gate_callee (f := 38) rfl ?_); refine goesL_ (some 8) rfl rfl Tryz.func38 (by kernel_rfl) rfl #[.int .i64 a0, .int .u64 (IntKind.u64.wrap (a1))] rfl (by (try simp only [List.map_toArray, List.map_cons, List.map_nil]); first | done | rfl | (simp only [List.length_drop, List.length_take]; rfl)) ?_; (with_reducible refine (pleacherref03_Put.calls k a0 (IntKind.u64.wrap (a1)) t190 _ A3.out).mono ?_); rintro e w' ⟨rfl, ⟨nd, rfl⟩⟩; refine ⟨_, rfl, ?_⟩))
  go_ret
  exact ⟨by first | rfl | (simp; done) | (simp [*]; done), by repeat (first | exact Drawn0.refl _ | apply Drawn0.step)⟩

end Go.Proofs.YtbcjhmeeonhmaaaGreatDoor.M
end

-- Laid by a program of this session for this claim.
section
namespace Go.Proofs.YtbcjhmeeonhmaaaGreatDoor.M
open Go.RowKit Go.Proofs.YtbcjhmeeonhmaaaGreatDoorW.PrintWords Go.Proofs.YtbcjhmeeonhmaaaGreatDoorW.PrintLast Go.Proofs.YtbcjhmeeonhmaaaGreatDoorW.PrintMore
attribute [local go_sem] max2_int min2_int max_two min_two max_three min_three max_four min_four   -- for this text's walks alone
set_option linter.unusedVariables false
set_option linter.unusedSimpArgs false

/-! ### utf_IsChar: function 18 -/
-- IMPORT Derived.Test.YtbcjhmeeonhmaaaGreatDoorHKnown
def utf_IsChar.f (a0 : Int) : Option Bool := some (H.isCharS a0)
theorem utf_IsChar.calls (a0 : Int) (r : Bool) (w : World) (h : utf_IsChar.f a0 = some r) :
    Calls Tryz.prog 18 #[.int .i64 a0] w fun e w' => e = .returned (.bool r) ∧ Below w.heap.size w w' := by
  obtain rfl := Option.some.inj h
  exact H.isChar a0 w

end Go.Proofs.YtbcjhmeeonhmaaaGreatDoor.M
end

-- Laid by a program of this session for this claim.
section
namespace Go.Proofs.YtbcjhmeeonhmaaaGreatDoor.M
open Go.RowKit Go.Proofs.YtbcjhmeeonhmaaaGreatDoorW.PrintWords Go.Proofs.YtbcjhmeeonhmaaaGreatDoorW.PrintLast Go.Proofs.YtbcjhmeeonhmaaaGreatDoorW.PrintMore
attribute [local go_sem] max2_int min2_int max_two min_two max_three min_three max_four min_four   -- for this text's walks alone
set_option linter.unusedVariables false
set_option linter.unusedSimpArgs false

/-! ### pleacherlaw04_EscapeRefs: function 5 -/
def pleacherlaw04_EscapeRefs.j0 : Nat → Int → Bool → Bool → Option (Bool)
  | 0, _, _, _ => none
  | k + 1, x0, x3, x16 => if x16 = true then (some x3) else ((pleacherref04_Digits.f k 10 x0).bind fun t192 => (if 2 + t192.size ≤ 9223372036854775807 then (if ((⟨#[38, 35]⟩ : ByteArray) ++ t192).size + 2 ≤ 9223372036854775807 then ((escape_Ref.f (((⟨#[38, 35]⟩ : ByteArray) ++ t192) ++ (⟨#[59, 120]⟩ : ByteArray))).bind fun bt193 => ((pleacherref04_Digits.f k 16 x0).bind fun t196 => (if 3 + t196.size ≤ 9223372036854775807 then (if ((⟨#[38, 35, 120]⟩ : ByteArray) ++ t196).size + 1 ≤ 9223372036854775807 then ((escape_Ref.f (((⟨#[38, 35, 120]⟩ : ByteArray) ++ t196) ++ (⟨#[59]⟩ : ByteArray))).bind fun bt197 => ((utf_IsChar.f x0).bind fun t200 => (if t200 = true then (if x3 = true then (if bt193.2.2 = 0 then (if bt197.2.2 = bt193.2.2 then (if bt193.1 = x0 then (if bt197.1 = x0 then ((pleacherref04_Digits.f k 10 x0).bind fun t201 => (if bt193.2.1 = (wrap64 ((t201.size : Int) + 3)) then ((pleacherref04_Digits.f k 16 x0).bind fun t202 => (some (bt197.2.1 == (wrap64 ((t202.size : Int) + 4))))) else (some false))) else (some false)) else (some false)) else (some false)) else (some false)) else (some false)) else (if x3 = true then (if bt193.2.2 = 40 then (if bt197.2.2 = bt193.2.2 then (if bt193.1 = 0 then (some (bt197.1 == 0)) else (some false)) else (some false)) else (some false)) else (some false))))) else (none)) else (none)))) else (none)) else (none)))
def pleacherlaw04_EscapeRefs.f (k : Nat) (a0 : Int) : Option (Bool) := (pleacherlaw04_shown.f).bind fun t191 => (if a0 < 0 then (pleacherlaw04_EscapeRefs.j0 k a0 t191 true) else (pleacherlaw04_EscapeRefs.j0 k a0 t191 (decide (a0 > 2000000))))
set_option maxHeartbeats 8000000 in
set_option maxRecDepth 100000 in
theorem pleacherlaw04_EscapeRefs.calls (k : Nat) (a0 : Int) (r : Bool) (w : World) (hG : GW w) (h : pleacherlaw04_EscapeRefs.f k a0 = some r) :
    Calls Tryz.prog 5 #[.int .i64 a0] w fun e w' => e = .returned (.bool r) ∧ Below w.heap.size w w' := by
  have HG := Aside0.mk hG
  clear hG
  have HB := Aside0.mk (Below.refl w.heap.size w)
  have H : ((pleacherlaw04_shown.f).bind fun t191 => (if a0 < 0 then (pleacherlaw04_EscapeRefs.j0 k a0 t191 true) else (pleacherlaw04_EscapeRefs.j0 k a0 t191 (decide (a0 > 2000000))))) = some r := h
  clear h
  replace H := Option.bind_eq_some_iff.mp H
  obtain ⟨t191, A20, H⟩ := H
  replace H : (if a0 < 0 then (pleacherlaw04_EscapeRefs.j0 k a0 t191 true) else (pleacherlaw04_EscapeRefs.j0 k a0 t191 (decide (a0 > 2000000)))) = some r := H
  have A2 := Aside0.mk A20
  clear A20
  have HC3 := Aside0.mk H
  clear H
  go_enter Tryz.func5, Tryz.ntmps5
  go_upto_region 2 with (first | ((with_reducible refine gate_callee (f := 10) rfl ?_); refine goesL_ (some 10) rfl rfl Tryz.func10 (by kernel_rfl) rfl #[] rfl (by (try simp only [List.map_toArray, List.map_cons, List.map_nil]); first | done | rfl | (simp only [List.length_drop, List.length_take]; rfl)) ?_; (with_reducible refine (pleacherlaw04_shown.calls  t191 _ ?side1 A2.out).mono ?_); (case side1 => exact GW.below HG.out (by repeat (first | (with_reducible first | exact HB.out | apply below_alloc | apply pw_below_drewN | apply below_drew1) | exact HB.out))); rintro e w4 ⟨rfl, hb⟩; refine ⟨_, rfl, ?_⟩; have n0_ := Aside0.mk (below_step (by repeat (first | (with_reducible first | exact HB.out | apply below_alloc | apply pw_below_drewN | apply below_drew1) | exact HB.out)) hb); clear HB; have HB := n0_; clear n0_; (try clear hb); (try clear hb2); (try clear hk); (try clear hi)))
  (try simp only [Act.put, List.setIfInBounds_toArray, List.set_cons_zero, List.set_cons_succ])
  go_cut [16] (fun v16 wc => ∃ (kq : Nat) (x16_2 : Bool), v16 = .bool x16_2 ∧ Aside0 (pleacherlaw04_EscapeRefs.j0 kq a0 t191 x16_2 = some r) ∧ Aside0 (kq ≤ k) ∧ Aside0 (Below w.heap.size w wc))
  case first =>
    have H := HC3.out
    clear HC3
    by_cases c5 : a0 < 0
    · rw [if_pos c5] at H
      have c5b0 : decide (a0 < 0) = true := decide_eq_true c5
      clear c5
      (first | rw [c5b0] | (simp only [i64_w, i32_w]; rw [c5b0]) | skip)
      have H' := Aside0.mk H
      clear H
      go_wp2
      go_meet
      case rel => exact ⟨_, (true), (by first | rfl | (simp; done) | (simp [*]; done)), H', ⟨by first | omega | exact Nat.le_refl _⟩, ⟨by repeat (first | (with_reducible first | exact HB.out | apply below_alloc | apply pw_below_drewN | apply below_drew1) | exact HB.out)⟩⟩
    · rw [if_neg c5] at H
      have c5b0 : decide (a0 < 0) = false := decide_eq_false c5
      clear c5
      (first | rw [c5b0] | (simp only [i64_w, i32_w]; rw [c5b0]) | skip)
      have H' := Aside0.mk H
      clear H
      go_wp2
      go_meet
      case rel => exact ⟨_, (decide (a0 > 2000000)), (by first | rfl | (simp; done) | (simp [*]; done)), H', ⟨by first | omega | exact Nat.le_refl _⟩, ⟨by repeat (first | (with_reducible first | exact HB.out | apply below_alloc | apply pw_below_drewN | apply below_drew1) | exact HB.out)⟩⟩
  case rest =>
    clear HC3
    try clear c1
    try clear p2
    try clear c5
    try clear c5b0
    obtain ⟨kq, x16_2, rfl, HA, HJ2, HB⟩ := hcut
    cases kq with
    | zero => exact absurd HA.out (by simp [pleacherlaw04_EscapeRefs.j0])
    | succ kj2 =>
      have H := HA.out
      clear HA
      simp only [pleacherlaw04_EscapeRefs.j0] at H
      by_cases c6 : x16_2 = true
      · subst c6
        have H1 : (some t191) = some r := by rw [if_pos rfl] at H; exact H
        clear H
        have H := H1
        clear H1
        try rw [hwt196] at H
        obtain rfl := Option.some.inj H
        go_wp2
        go_ret
        exact ⟨by first | rfl | (simp [errW_none, errW_some] <;> rfl) | (simp [*, errW_none, errW_some] <;> rfl), by repeat (first | (with_reducible first | exact HB.out | apply below_alloc | apply pw_below_drewN | apply below_drew1) | exact HB.out)⟩
      · replace c6 := Bool.eq_false_iff.mpr c6
        subst c6
        have H1 : ((pleacherref04_Digits.f kj2 10 a0).bind fun t192 => (if 2 + t192.size ≤ 9223372036854775807 then (if ((⟨#[38, 35]⟩ : ByteArray) ++ t192).size + 2 ≤ 9223372036854775807 then ((escape_Ref.f (((⟨#[38, 35]⟩ : ByteArray) ++ t192) ++ (⟨#[59, 120]⟩ : ByteArray))).bind fun bt193 => ((pleacherref04_Digits.f kj2 16 a0).bind fun t196 => (if 3 + t196.size ≤ 9223372036854775807 then (if ((⟨#[38, 35, 120]⟩ : ByteArray) ++ t196).size + 1 ≤ 9223372036854775807 then ((escape_Ref.f (((⟨#[38, 35, 120]⟩ : ByteArray) ++ t196) ++ (⟨#[59]⟩ : ByteArray))).bind fun bt197 => ((utf_IsChar.f a0).bind fun t200 => (if t200 = true then (if t191 = true then (if bt193.2.2 = 0 then (if bt197.2.2 = bt193.2.2 then (if bt193.1 = a0 then (if bt197.1 = a0 then ((pleacherref04_Digits.f kj2 10 a0).bind fun t201 => (if bt193.2.1 = (wrap64 ((t201.size : Int) + 3)) then ((pleacherref04_Digits.f kj2 16 a0).bind fun t202 => (some (bt197.2.1 == (wrap64 ((t202.size : Int) + 4))))) else (some false))) else (some false)) else (some false)) else (some false)) else (some false)) else (some false)) else (if t191 = true then (if bt193.2.2 = 40 then (if bt197.2.2 = bt193.2.2 then (if bt193.1 = 0 then (some (bt197.1 == 0)) else (some false)) else (some false)) else (some false)) else (some false))))) else (none)) else (none)))) else (none)) else (none))) = some r := by rw [if_neg (show ¬ (false = true) by decide)] at H; exact H
        clear H
        have H := H1
        clear H1
        replace H := Option.bind_eq_some_iff.mp H
        obtain ⟨t192, A70, H⟩ := H
        replace H : (if 2 + t192.size ≤ 9223372036854775807 then (if ((⟨#[38, 35]⟩ : ByteArray) ++ t192).size + 2 ≤ 9223372036854775807 then ((escape_Ref.f (((⟨#[38, 35]⟩ : ByteArray) ++ t192) ++ (⟨#[59, 120]⟩ : ByteArray))).bind fun bt193 => ((pleacherref04_Digits.f kj2 16 a0).bind fun t196 => (if 3 + t196.size ≤ 9223372036854775807 then (if ((⟨#[38, 35, 120]⟩ : ByteArray) ++ t196).size + 1 ≤ 9223372036854775807 then ((escape_Ref.f (((⟨#[38, 35, 120]⟩ : ByteArray) ++ t196) ++ (⟨#[59]⟩ : ByteArray))).bind fun bt197 => ((utf_IsChar.f a0).bind fun t200 => (if t200 = true then (if t191 = true then (if bt193.2.2 = 0 then (if bt197.2.2 = bt193.2.2 then (if bt193.1 = a0 then (if bt197.1 = a0 then ((pleacherref04_Digits.f kj2 10 a0).bind fun t201 => (if bt193.2.1 = (wrap64 ((t201.size : Int) + 3)) then ((pleacherref04_Digits.f kj2 16 a0).bind fun t202 => (some (bt197.2.1 == (wrap64 ((t202.size : Int) + 4))))) else (some false))) else (some false)) else (some false)) else (some false)) else (some false)) else (some false)) else (if t191 = true then (if bt193.2.2 = 40 then (if bt197.2.2 = bt193.2.2 then (if bt193.1 = 0 then (some (bt197.1 == 0)) else (some false)) else (some false)) else (some false)) else (some false))))) else (none)) else (none)))) else (none)) else (none)) = some r := H
        have A7 := Aside0.mk A70
        clear A70
        by_cases c8 : 2 + t192.size ≤ 9223372036854775807
        · rw [if_pos c8] at H
          have c8b0 := eq_true c8
          have c8b1 : decide (2 + t192.size ≤ 9223372036854775807) = true := decide_eq_true c8
          try have c8b2 : (9223372036854775807 < 2 + t192.size) = False := eq_false (Nat.not_lt.2 c8)
          by_cases c9 : ((⟨#[38, 35]⟩ : ByteArray) ++ t192).size + 2 ≤ 9223372036854775807
          · rw [if_pos c9] at H
            have c9b0 := eq_true c9
            have c9s : 2 + t192.size + 2 ≤ 9223372036854775807 := by have h := c9; rw [ByteArray.size_append] at h; exact h
            have c9x : (9223372036854775807 < 2 + t192.size + 2) = False := eq_false (Nat.not_lt.2 c9s)
            have c9y := eq_true c9s
            have hwt192 : wrap64 ((t192.size : Int) + 3) = (t192.size : Int) + 3 := by unfold wrap64; omega
            clear c9s
            have c9b1 : decide (((⟨#[38, 35]⟩ : ByteArray) ++ t192).size + 2 ≤ 9223372036854775807) = true := decide_eq_true c9
            try have c9b2 : (9223372036854775807 < ((⟨#[38, 35]⟩ : ByteArray) ++ t192).size + 2) = False := eq_false (Nat.not_lt.2 c9)
            replace H := Option.bind_eq_some_iff.mp H
            obtain ⟨⟨t193, t194, t195⟩, A100, H⟩ := H
            replace H : ((pleacherref04_Digits.f kj2 16 a0).bind fun t196 => (if 3 + t196.size ≤ 9223372036854775807 then (if ((⟨#[38, 35, 120]⟩ : ByteArray) ++ t196).size + 1 ≤ 9223372036854775807 then ((escape_Ref.f (((⟨#[38, 35, 120]⟩ : ByteArray) ++ t196) ++ (⟨#[59]⟩ : ByteArray))).bind fun bt197 => ((utf_IsChar.f a0).bind fun t200 => (if t200 = true then (if t191 = true then (if t195 = 0 then (if bt197.2.2 = t195 then (if t193 = a0 then (if bt197.1 = a0 then ((pleacherref04_Digits.f kj2 10 a0).bind fun t201 => (if t194 = (wrap64 ((t201.size : Int) + 3)) then ((pleacherref04_Digits.f kj2 16 a0).bind fun t202 => (some (bt197.2.1 == (wrap64 ((t202.size : Int) + 4))))) else (some false))) else (some false)) else (some false)) else (some false)) else (some false)) else (some false)) else (if t191 = true then (if t195 = 40 then (if bt197.2.2 = t195 then (if t193 = 0 then (some (bt197.1 == 0)) else (some false)) else (some false)) else (some false)) else (some false))))) else (none)) else (none))) = some r := H
            have A10 := Aside0.mk A100
            clear A100
            replace H := Option.bind_eq_some_iff.mp H
            obtain ⟨t196, A110, H⟩ := H
            replace H : (if 3 + t196.size ≤ 9223372036854775807 then (if ((⟨#[38, 35, 120]⟩ : ByteArray) ++ t196).size + 1 ≤ 9223372036854775807 then ((escape_Ref.f (((⟨#[38, 35, 120]⟩ : ByteArray) ++ t196) ++ (⟨#[59]⟩ : ByteArray))).bind fun bt197 => ((utf_IsChar.f a0).bind fun t200 => (if t200 = true then (if t191 = true then (if t195 = 0 then (if bt197.2.2 = t195 then (if t193 = a0 then (if bt197.1 = a0 then ((pleacherref04_Digits.f kj2 10 a0).bind fun t201 => (if t194 = (wrap64 ((t201.size : Int) + 3)) then ((pleacherref04_Digits.f kj2 16 a0).bind fun t202 => (some (bt197.2.1 == (wrap64 ((t202.size : Int) + 4))))) else (some false))) else (some false)) else (some false)) else (some false)) else (some false)) else (some false)) else (if t191 = true then (if t195 = 40 then (if bt197.2.2 = t195 then (if t193 = 0 then (some (bt197.1 == 0)) else (some false)) else (some false)) else (some false)) else (some false))))) else (none)) else (none)) = some r := H
            have A11 := Aside0.mk A110
            clear A110
            by_cases c12 : 3 + t196.size ≤ 9223372036854775807
            · rw [if_pos c12] at H
              have c12b0 := eq_true c12
              have c12b1 : decide (3 + t196.size ≤ 9223372036854775807) = true := decide_eq_true c12
              try have c12b2 : (9223372036854775807 < 3 + t196.size) = False := eq_false (Nat.not_lt.2 c12)
              by_cases c13 : ((⟨#[38, 35, 120]⟩ : ByteArray) ++ t196).size + 1 ≤ 9223372036854775807
              · rw [if_pos c13] at H
                have c13b0 := eq_true c13
                have c13s : 3 + t196.size + 1 ≤ 9223372036854775807 := by have h := c13; rw [ByteArray.size_append] at h; exact h
                have c13x : (9223372036854775807 < 3 + t196.size + 1) = False := eq_false (Nat.not_lt.2 c13s)
                have c13y := eq_true c13s
                have hwt196 : wrap64 ((t196.size : Int) + 4) = (t196.size : Int) + 4 := by unfold wrap64; omega
                clear c13s
                have c13b1 : decide (((⟨#[38, 35, 120]⟩ : ByteArray) ++ t196).size + 1 ≤ 9223372036854775807) = true := decide_eq_true c13
                try have c13b2 : (9223372036854775807 < ((⟨#[38, 35, 120]⟩ : ByteArray) ++ t196).size + 1) = False := eq_false (Nat.not_lt.2 c13)
                replace H := Option.bind_eq_some_iff.mp H
                obtain ⟨⟨t197, t198, t199⟩, A140, H⟩ := H
                replace H : ((utf_IsChar.f a0).bind fun t200 => (if t200 = true then (if t191 = true then (if t195 = 0 then (if t199 = t195 then (if t193 = a0 then (if t197 = a0 then ((pleacherref04_Digits.f kj2 10 a0).bind fun t201 => (if t194 = (wrap64 ((t201.size : Int) + 3)) then ((pleacherref04_Digits.f kj2 16 a0).bind fun t202 => (some (t198 == (wrap64 ((t202.size : Int) + 4))))) else (some false))) else (some false)) else (some false)) else (some false)) else (some false)) else (some false)) else (if t191 = true then (if t195 = 40 then (if t199 = t195 then (if t193 = 0 then (some (t197 == 0)) else (some false)) else (some false)) else (some false)) else (some false)))) = some r := H
                have A14 := Aside0.mk A140
                clear A140
                replace H := Option.bind_eq_some_iff.mp H
                obtain ⟨t200, A150, H⟩ := H
                replace H : (if t200 = true then (if t191 = true then (if t195 = 0 then (if t199 = t195 then (if t193 = a0 then (if t197 = a0 then ((pleacherref04_Digits.f kj2 10 a0).bind fun t201 => (if t194 = (wrap64 ((t201.size : Int) + 3)) then ((pleacherref04_Digits.f kj2 16 a0).bind fun t202 => (some (t198 == (wrap64 ((t202.size : Int) + 4))))) else (some false))) else (some false)) else (some false)) else (some false)) else (some false)) else (some false)) else (if t191 = true then (if t195 = 40 then (if t199 = t195 then (if t193 = 0 then (some (t197 == 0)) else (some false)) else (some false)) else (some false)) else (some false))) = some r := H
                have A15 := Aside0.mk A150
                clear A150
                by_cases c16 : t200 = true
                · subst c16
                  have H1 : (if t191 = true then (if t195 = 0 then (if t199 = t195 then (if t193 = a0 then (if t197 = a0 then ((pleacherref04_Digits.f kj2 10 a0).bind fun t201 => (if t194 = (wrap64 ((t201.size : Int) + 3)) then ((pleacherref04_Digits.f kj2 16 a0).bind fun t202 => (some (t198 == (wrap64 ((t202.size : Int) + 4))))) else (some false))) else (some false)) else (some false)) else (some false)) else (some false)) else (some false)) = some r := by rw [if_pos rfl] at H; exact H
                  clear H
                  have H := H1
                  clear H1
                  by_cases c17 : t191 = true
                  · subst c17
                    have H1 : (if t195 = 0 then (if t199 = t195 then (if t193 = a0 then (if t197 = a0 then ((pleacherref04_Digits.f kj2 10 a0).bind fun t201 => (if t194 = (wrap64 ((t201.size : Int) + 3)) then ((pleacherref04_Digits.f kj2 16 a0).bind fun t202 => (some (t198 == (wrap64 ((t202.size : Int) + 4))))) else (some false))) else (some false)) else (some false)) else (some false)) else (some false)) = some r := by rw [if_pos rfl] at H; exact H
                    clear H
                    have H := H1
                    clear H1
                    by_cases c18 : t195 = 0
                    · rw [if_pos c18] at H
                      have c18b0 : (t195 == 0) = true := beq_iff_eq.mpr c18
                      have c18b1 : (t195 != 0) = false := bne_eq_false_iff_eq.mpr c18
                      clear c18
                      by_cases c19 : t199 = t195
                      · rw [if_pos c19] at H
                        have c19b0 : (t199 == t195) = true := beq_iff_eq.mpr c19
                        have c19b1 : (t199 != t195) = false := bne_eq_false_iff_eq.mpr c19
                        clear c19
                        by_cases c20 : t193 = a0
                        · rw [if_pos c20] at H
                          have c20b0 : (t193 == a0) = true := beq_iff_eq.mpr c20
                          have c20b1 : (t193 != a0) = false := bne_eq_false_iff_eq.mpr c20
                          clear c20
                          by_cases c21 : t197 = a0
                          · rw [if_pos c21] at H
                            have c21b0 : (t197 == a0) = true := beq_iff_eq.mpr c21
                            have c21b1 : (t197 != a0) = false := bne_eq_false_iff_eq.mpr c21
                            clear c21
                            replace H := Option.bind_eq_some_iff.mp H
                            obtain ⟨t201, A220, H⟩ := H
                            obtain rfl := Option.some.inj (A7.out.symm.trans A220)
                            replace H : (if t194 = (wrap64 ((t192.size : Int) + 3)) then ((pleacherref04_Digits.f kj2 16 a0).bind fun t202 => (some (t198 == (wrap64 ((t202.size : Int) + 4))))) else (some false)) = some r := H
                            have A22 := Aside0.mk A220
                            clear A220
                            rw [hwt192] at H
                            by_cases c23 : t194 = ((t192.size : Int) + 3)
                            · rw [if_pos c23] at H
                              have c23b0 : (t194 == ((t192.size : Int) + 3)) = true := beq_iff_eq.mpr c23
                              have c23b1 : (t194 != ((t192.size : Int) + 3)) = false := bne_eq_false_iff_eq.mpr c23
                              clear c23
                              replace H := Option.bind_eq_some_iff.mp H
                              obtain ⟨t202, A240, H⟩ := H
                              obtain rfl := Option.some.inj (A11.out.symm.trans A240)
                              replace H : (some (t198 == (wrap64 ((t196.size : Int) + 4)))) = some r := H
                              have A24 := Aside0.mk A240
                              clear A240
                              try rw [hwt196] at H
                              obtain rfl := Option.some.inj H
                              go_wp2_with (first | ((with_reducible refine gate_callee (f := 17) rfl ?_); refine goesL_ (some 20) rfl rfl Tryz.func17 (by kernel_rfl) rfl #[.int .i64 10, .int .i64 a0] rfl (by (try simp only [List.map_toArray, List.map_cons, List.map_nil]); first | done | rfl | (simp only [List.length_drop, List.length_take]; rfl)) ?_; (with_reducible refine (pleacherref04_Digits.calls kj2 10 a0 t192 _ A7.out).mono ?_); rintro e w' ⟨rfl, ⟨nd, rfl⟩⟩; refine ⟨_, rfl, ?_⟩) | ((with_reducible refine gate_callee (f := 14) rfl ?_); refine goesL_ (some 23) rfl rfl Tryz.func14 (by kernel_rfl) rfl #[.string (((⟨#[38, 35]⟩ : ByteArray) ++ t192) ++ (⟨#[59, 120]⟩ : ByteArray))] rfl (by (try simp only [List.map_toArray, List.map_cons, List.map_nil]); first | done | rfl | (simp only [List.length_drop, List.length_take]; rfl)) ?_; (with_reducible refine (escape_Ref.calls (((⟨#[38, 35]⟩ : ByteArray) ++ t192) ++ (⟨#[59, 120]⟩ : ByteArray)) t193 t194 t195 _ ?side1 A10.out).mono ?_); (case side1 => exact GW.below HG.out (by repeat (first | (with_reducible first | exact HB.out | apply below_alloc | apply pw_below_drewN | apply below_drew1) | exact HB.out))); rintro e w25 ⟨rfl, hb⟩; refine ⟨_, rfl, ?_⟩; have n0_ := Aside0.mk (below_step (by repeat (first | (with_reducible first | exact HB.out | apply below_alloc | apply pw_below_drewN | apply below_drew1) | exact HB.out)) hb); clear HB; have HB := n0_; clear n0_; (try clear hb); (try clear hb2); (try clear hk); (try clear hi)) | ((with_reducible refine gate_callee (f := 17) rfl ?_); refine goesL_ (some 29) rfl rfl Tryz.func17 (by kernel_rfl) rfl #[.int .i64 16, .int .i64 a0] rfl (by (try simp only [List.map_toArray, List.map_cons, List.map_nil]); first | done | rfl | (simp only [List.length_drop, List.length_take]; rfl)) ?_; (with_reducible refine (pleacherref04_Digits.calls kj2 16 a0 t196 _ A11.out).mono ?_); rintro e w' ⟨rfl, ⟨nd, rfl⟩⟩; refine ⟨_, rfl, ?_⟩) | ((with_reducible refine gate_callee (f := 14) rfl ?_); refine goesL_ (some 32) rfl rfl Tryz.func14 (by kernel_rfl) rfl #[.string (((⟨#[38, 35, 120]⟩ : ByteArray) ++ t196) ++ (⟨#[59]⟩ : ByteArray))] rfl (by (try simp only [List.map_toArray, List.map_cons, List.map_nil]); first | done | rfl | (simp only [List.length_drop, List.length_take]; rfl)) ?_; (with_reducible refine (escape_Ref.calls (((⟨#[38, 35, 120]⟩ : ByteArray) ++ t196) ++ (⟨#[59]⟩ : ByteArray)) t197 t198 t199 _ ?side1 A14.out).mono ?_); (case side1 => exact GW.below HG.out (by repeat (first | (with_reducible first | exact HB.out | apply below_alloc | apply pw_below_drewN | apply below_drew1) | exact HB.out))); rintro e w26 ⟨rfl, hb⟩; refine ⟨_, rfl, ?_⟩; have n0_ := Aside0.mk (below_step (by repeat (first | (with_reducible first | exact HB.out | apply below_alloc | apply pw_below_drewN | apply below_drew1) | exact HB.out)) hb); clear HB; have HB := n0_; clear n0_; (try clear hb); (try clear hb2); (try clear hk); (try clear hi)) | ((with_reducible refine gate_callee (f := 18) rfl ?_); refine goesL_ (some 37) rfl rfl Tryz.func18 (by kernel_rfl) rfl #[.int .i64 a0] rfl (by (try simp only [List.map_toArray, List.map_cons, List.map_nil]); first | done | rfl | (simp only [List.length_drop, List.length_take]; rfl)) ?_; (with_reducible refine (utf_IsChar.calls a0 true _ A15.out).mono ?_); rintro e w27 ⟨rfl, hb⟩; refine ⟨_, rfl, ?_⟩; have n0_ := Aside0.mk (below_step (by repeat (first | (with_reducible first | exact HB.out | apply below_alloc | apply pw_below_drewN | apply below_drew1) | exact HB.out)) hb); clear HB; have HB := n0_; clear n0_; (try clear hb); (try clear hb2); (try clear hk); (try clear hi)) | (go_at_call 17; (with_reducible refine (pleacherref04_Digits.calls kj2 10 a0 t192 _ A22.out).mono ?_); rintro e w' ⟨rfl, ⟨nd, rfl⟩⟩) | (go_at_call 17; (with_reducible refine (pleacherref04_Digits.calls kj2 16 a0 t196 _ A24.out).mono ?_); rintro e w' ⟨rfl, ⟨nd, rfl⟩⟩))
                              go_ret
                              exact ⟨by first | rfl | (simp [errW_none, errW_some] <;> rfl) | (simp [*, errW_none, errW_some] <;> rfl), by repeat (first | (with_reducible first | exact HB.out | apply below_alloc | apply pw_below_drewN | apply below_drew1) | exact HB.out)⟩
                            · rw [if_neg c23] at H
                              have c23b0 : (t194 == ((t192.size : Int) + 3)) = false := beq_eq_false_iff_ne.mpr c23
                              have c23b1 : (t194 != ((t192.size : Int) + 3)) = true := bne_iff_ne.mpr c23
                              try rw [hwt196] at H
                              obtain rfl := Option.some.inj H
                              go_wp2_with (first | ((with_reducible refine gate_callee (f := 17) rfl ?_); refine goesL_ (some 20) rfl rfl Tryz.func17 (by kernel_rfl) rfl #[.int .i64 10, .int .i64 a0] rfl (by (try simp only [List.map_toArray, List.map_cons, List.map_nil]); first | done | rfl | (simp only [List.length_drop, List.length_take]; rfl)) ?_; (with_reducible refine (pleacherref04_Digits.calls kj2 10 a0 t192 _ A7.out).mono ?_); rintro e w' ⟨rfl, ⟨nd, rfl⟩⟩; refine ⟨_, rfl, ?_⟩) | ((with_reducible refine gate_callee (f := 14) rfl ?_); refine goesL_ (some 23) rfl rfl Tryz.func14 (by kernel_rfl) rfl #[.string (((⟨#[38, 35]⟩ : ByteArray) ++ t192) ++ (⟨#[59, 120]⟩ : ByteArray))] rfl (by (try simp only [List.map_toArray, List.map_cons, List.map_nil]); first | done | rfl | (simp only [List.length_drop, List.length_take]; rfl)) ?_; (with_reducible refine (escape_Ref.calls (((⟨#[38, 35]⟩ : ByteArray) ++ t192) ++ (⟨#[59, 120]⟩ : ByteArray)) t193 t194 t195 _ ?side1 A10.out).mono ?_); (case side1 => exact GW.below HG.out (by repeat (first | (with_reducible first | exact HB.out | apply below_alloc | apply pw_below_drewN | apply below_drew1) | exact HB.out))); rintro e w28 ⟨rfl, hb⟩; refine ⟨_, rfl, ?_⟩; have n0_ := Aside0.mk (below_step (by repeat (first | (with_reducible first | exact HB.out | apply below_alloc | apply pw_below_drewN | apply below_drew1) | exact HB.out)) hb); clear HB; have HB := n0_; clear n0_; (try clear hb); (try clear hb2); (try clear hk); (try clear hi)) | ((with_reducible refine gate_callee (f := 17) rfl ?_); refine goesL_ (some 29) rfl rfl Tryz.func17 (by kernel_rfl) rfl #[.int .i64 16, .int .i64 a0] rfl (by (try simp only [List.map_toArray, List.map_cons, List.map_nil]); first | done | rfl | (simp only [List.length_drop, List.length_take]; rfl)) ?_; (with_reducible refine (pleacherref04_Digits.calls kj2 16 a0 t196 _ A11.out).mono ?_); rintro e w' ⟨rfl, ⟨nd, rfl⟩⟩; refine ⟨_, rfl, ?_⟩) | ((with_reducible refine gate_callee (f := 14) rfl ?_); refine goesL_ (some 32) rfl rfl Tryz.func14 (by kernel_rfl) rfl #[.string (((⟨#[38, 35, 120]⟩ : ByteArray) ++ t196) ++ (⟨#[59]⟩ : ByteArray))] rfl (by (try simp only [List.map_toArray, List.map_cons, List.map_nil]); first | done | rfl | (simp only [List.length_drop, List.length_take]; rfl)) ?_; (with_reducible refine (escape_Ref.calls (((⟨#[38, 35, 120]⟩ : ByteArray) ++ t196) ++ (⟨#[59]⟩ : ByteArray)) t197 t198 t199 _ ?side1 A14.out).mono ?_); (case side1 => exact GW.below HG.out (by repeat (first | (with_reducible first | exact HB.out | apply below_alloc | apply pw_below_drewN | apply below_drew1) | exact HB.out))); rintro e w29 ⟨rfl, hb⟩; refine ⟨_, rfl, ?_⟩; have n0_ := Aside0.mk (below_step (by repeat (first | (with_reducible first | exact HB.out | apply below_alloc | apply pw_below_drewN | apply below_drew1) | exact HB.out)) hb); clear HB; have HB := n0_; clear n0_; (try clear hb); (try clear hb2); (try clear hk); (try clear hi)) | ((with_reducible refine gate_callee (f := 18) rfl ?_); refine goesL_ (some 37) rfl rfl Tryz.func18 (by kernel_rfl) rfl #[.int .i64 a0] rfl (by (try simp only [List.map_toArray, List.map_cons, List.map_nil]); first | done | rfl | (simp only [List.length_drop, List.length_take]; rfl)) ?_; (with_reducible refine (utf_IsChar.calls a0 true _ A15.out).mono ?_); rintro e w30 ⟨rfl, hb⟩; refine ⟨_, rfl, ?_⟩; have n0_ := Aside0.mk (below_step (by repeat (first | (with_reducible first | exact HB.out | apply below_alloc | apply pw_below_drewN | apply below_drew1) | exact HB.out)) hb); clear HB; have HB := n0_; clear n0_; (try clear hb); (try clear hb2); (try clear hk); (try clear hi)) | (go_at_call 17; (with_reducible refine (pleacherref04_Digits.calls kj2 10 a0 t192 _ A22.out).mono ?_); rintro e w' ⟨rfl, ⟨nd, rfl⟩⟩))
                              go_ret
                              exact ⟨by first | rfl | (simp [errW_none, errW_some] <;> rfl) | (simp [*, errW_none, errW_some] <;> rfl), by repeat (first | (with_reducible first | exact HB.out | apply below_alloc | apply pw_below_drewN | apply below_drew1) | exact HB.out)⟩
                          · rw [if_neg c21] at H
                            have c21b0 : (t197 == a0) = false := beq_eq_false_iff_ne.mpr c21
                            have c21b1 : (t197 != a0) = true := bne_iff_ne.mpr c21
                            try rw [hwt196] at H
                            obtain rfl := Option.some.inj H
                            go_wp2_with (first | ((with_reducible refine gate_callee (f := 17) rfl ?_); refine goesL_ (some 20) rfl rfl Tryz.func17 (by kernel_rfl) rfl #[.int .i64 10, .int .i64 a0] rfl (by (try simp only [List.map_toArray, List.map_cons, List.map_nil]); first | done | rfl | (simp only [List.length_drop, List.length_take]; rfl)) ?_; (with_reducible refine (pleacherref04_Digits.calls kj2 10 a0 t192 _ A7.out).mono ?_); rintro e w' ⟨rfl, ⟨nd, rfl⟩⟩; refine ⟨_, rfl, ?_⟩) | ((with_reducible refine gate_callee (f := 14) rfl ?_); refine goesL_ (some 23) rfl rfl Tryz.func14 (by kernel_rfl) rfl #[.string (((⟨#[38, 35]⟩ : ByteArray) ++ t192) ++ (⟨#[59, 120]⟩ : ByteArray))] rfl (by (try simp only [List.map_toArray, List.map_cons, List.map_nil]); first | done | rfl | (simp only [List.length_drop, List.length_take]; rfl)) ?_; (with_reducible refine (escape_Ref.calls (((⟨#[38, 35]⟩ : ByteArray) ++ t192) ++ (⟨#[59, 120]⟩ : ByteArray)) t193 t194 t195 _ ?side1 A10.out).mono ?_); (case side1 => exact GW.below HG.out (by repeat (first | (with_reducible first | exact HB.out | apply below_alloc | apply pw_below_drewN | apply below_drew1) | exact HB.out))); rintro e w31 ⟨rfl, hb⟩; refine ⟨_, rfl, ?_⟩; have n0_ := Aside0.mk (below_step (by repeat (first | (with_reducible first | exact HB.out | apply below_alloc | apply pw_below_drewN | apply below_drew1) | exact HB.out)) hb); clear HB; have HB := n0_; clear n0_; (try clear hb); (try clear hb2); (try clear hk); (try clear hi)) | ((with_reducible refine gate_callee (f := 17) rfl ?_); refine goesL_ (some 29) rfl rfl Tryz.func17 (by kernel_rfl) rfl #[.int .i64 16, .int .i64 a0] rfl (by (try simp only [List.map_toArray, List.map_cons, List.map_nil]); first | done | rfl | (simp only [List.length_drop, List.length_take]; rfl)) ?_; (with_reducible refine (pleacherref04_Digits.calls kj2 16 a0 t196 _ A11.out).mono ?_); rintro e w' ⟨rfl, ⟨nd, rfl⟩⟩; refine ⟨_, rfl, ?_⟩) | ((with_reducible refine gate_callee (f := 14) rfl ?_); refine goesL_ (some 32) rfl rfl Tryz.func14 (by kernel_rfl) rfl #[.string (((⟨#[38, 35, 120]⟩ : ByteArray) ++ t196) ++ (⟨#[59]⟩ : ByteArray))] rfl (by (try simp only [List.map_toArray, List.map_cons, List.map_nil]); first | done | rfl | (simp only [List.length_drop, List.length_take]; rfl)) ?_; (with_reducible refine (escape_Ref.calls (((⟨#[38, 35, 120]⟩ : ByteArray) ++ t196) ++ (⟨#[59]⟩ : ByteArray)) t197 t198 t199 _ ?side1 A14.out).mono ?_); (case side1 => exact GW.below HG.out (by repeat (first | (with_reducible first | exact HB.out | apply below_alloc | apply pw_below_drewN | apply below_drew1) | exact HB.out))); rintro e w32 ⟨rfl, hb⟩; refine ⟨_, rfl, ?_⟩; have n0_ := Aside0.mk (below_step (by repeat (first | (with_reducible first | exact HB.out | apply below_alloc | apply pw_below_drewN | apply below_drew1) | exact HB.out)) hb); clear HB; have HB := n0_; clear n0_; (try clear hb); (try clear hb2); (try clear hk); (try clear hi)) | ((with_reducible refine gate_callee (f := 18) rfl ?_); refine goesL_ (some 37) rfl rfl Tryz.func18 (by kernel_rfl) rfl #[.int .i64 a0] rfl (by (try simp only [List.map_toArray, List.map_cons, List.map_nil]); first | done | rfl | (simp only [List.length_drop, List.length_take]; rfl)) ?_; (with_reducible refine (utf_IsChar.calls a0 true _ A15.out).mono ?_); rintro e w33 ⟨rfl, hb⟩; refine ⟨_, rfl, ?_⟩; have n0_ := Aside0.mk (below_step (by repeat (first | (with_reducible first | exact HB.out | apply below_alloc | apply pw_below_drewN | apply below_drew1) | exact HB.out)) hb); clear HB; have HB := n0_; clear n0_; (try clear hb); (try clear hb2); (try clear hk); (try clear hi)))
                            go_ret
                            exact ⟨by first | rfl | (simp [errW_none, errW_some] <;> rfl) | (simp [*, errW_none, errW_some] <;> rfl), by repeat (first | (with_reducible first | exact HB.out | apply below_alloc | apply pw_below_drewN | apply below_drew1) | exact HB.out)⟩
                        · rw [if_neg c20] at H
                          have c20b0 : (t193 == a0) = false := beq_eq_false_iff_ne.mpr c20
                          have c20b1 : (t193 != a0) = true := bne_iff_ne.mpr c20
                          try rw [hwt196] at H
                          obtain rfl := Option.some.inj H
                          go_wp2_with (first | ((with_reducible refine gate_callee (f := 17) rfl ?_); refine goesL_ (some 20) rfl rfl Tryz.func17 (by kernel_rfl) rfl #[.int .i64 10, .int .i64 a0] rfl (by (try simp only [List.map_toArray, List.map_cons, List.map_nil]); first | done | rfl | (simp only [List.length_drop, List.length_take]; rfl)) ?_; (with_reducible refine (pleacherref04_Digits.calls kj2 10 a0 t192 _ A7.out).mono ?_); rintro e w' ⟨rfl, ⟨nd, rfl⟩⟩; refine ⟨_, rfl, ?_⟩) | ((with_reducible refine gate_callee (f := 14) rfl ?_); refine goesL_ (some 23) rfl rfl Tryz.func14 (by kernel_rfl) rfl #[.string (((⟨#[38, 35]⟩ : ByteArray) ++ t192) ++ (⟨#[59, 120]⟩ : ByteArray))] rfl (by (try simp only [List.map_toArray, List.map_cons, List.map_nil]); first | done | rfl | (simp only [List.length_drop, List.length_take]; rfl)) ?_; (with_reducible refine (escape_Ref.calls (((⟨#[38, 35]⟩ : ByteArray) ++ t192) ++ (⟨#[59, 120]⟩ : ByteArray)) t193 t194 t195 _ ?side1 A10.out).mono ?_); (case side1 => exact GW.below HG.out (by repeat (first | (with_reducible first | exact HB.out | apply below_alloc | apply pw_below_drewN | apply below_drew1) | exact HB.out))); rintro e w34 ⟨rfl, hb⟩; refine ⟨_, rfl, ?_⟩; have n0_ := Aside0.mk (below_step (by repeat (first | (with_reducible first | exact HB.out | apply below_alloc | apply pw_below_drewN | apply below_drew1) | exact HB.out)) hb); clear HB; have HB := n0_; clear n0_; (try clear hb); (try clear hb2); (try clear hk); (try clear hi)) | ((with_reducible refine gate_callee (f := 17) rfl ?_); refine goesL_ (some 29) rfl rfl Tryz.func17 (by kernel_rfl) rfl #[.int .i64 16, .int .i64 a0] rfl (by (try simp only [List.map_toArray, List.map_cons, List.map_nil]); first | done | rfl | (simp only [List.length_drop, List.length_take]; rfl)) ?_; (with_reducible refine (pleacherref04_Digits.calls kj2 16 a0 t196 _ A11.out).mono ?_); rintro e w' ⟨rfl, ⟨nd, rfl⟩⟩; refine ⟨_, rfl, ?_⟩) | ((with_reducible refine gate_callee (f := 14) rfl ?_); refine goesL_ (some 32) rfl rfl Tryz.func14 (by kernel_rfl) rfl #[.string (((⟨#[38, 35, 120]⟩ : ByteArray) ++ t196) ++ (⟨#[59]⟩ : ByteArray))] rfl (by (try simp only [List.map_toArray, List.map_cons, List.map_nil]); first | done | rfl | (simp only [List.length_drop, List.length_take]; rfl)) ?_; (with_reducible refine (escape_Ref.calls (((⟨#[38, 35, 120]⟩ : ByteArray) ++ t196) ++ (⟨#[59]⟩ : ByteArray)) t197 t198 t199 _ ?side1 A14.out).mono ?_); (case side1 => exact GW.below HG.out (by repeat (first | (with_reducible first | exact HB.out | apply below_alloc | apply pw_below_drewN | apply below_drew1) | exact HB.out))); rintro e w35 ⟨rfl, hb⟩; refine ⟨_, rfl, ?_⟩; have n0_ := Aside0.mk (below_step (by repeat (first | (with_reducible first | exact HB.out | apply below_alloc | apply pw_below_drewN | apply below_drew1) | exact HB.out)) hb); clear HB; have HB := n0_; clear n0_; (try clear hb); (try clear hb2); (try clear hk); (try clear hi)) | ((with_reducible refine gate_callee (f := 18) rfl ?_); refine goesL_ (some 37) rfl rfl Tryz.func18 (by kernel_rfl) rfl #[.int .i64 a0] rfl (by (try simp only [List.map_toArray, List.map_cons, List.map_nil]); first | done | rfl | (simp only [List.length_drop, List.length_take]; rfl)) ?_; (with_reducible refine (utf_IsChar.calls a0 true _ A15.out).mono ?_); rintro e w36 ⟨rfl, hb⟩; refine ⟨_, rfl, ?_⟩; have n0_ := Aside0.mk (below_step (by repeat (first | (with_reducible first | exact HB.out | apply below_alloc | apply pw_below_drewN | apply below_drew1) | exact HB.out)) hb); clear HB; have HB := n0_; clear n0_; (try clear hb); (try clear hb2); (try clear hk); (try clear hi)))
                          go_ret
                          exact ⟨by first | rfl | (simp [errW_none, errW_some] <;> rfl) | (simp [*, errW_none, errW_some] <;> rfl), by repeat (first | (with_reducible first | exact HB.out | apply below_alloc | apply pw_below_drewN | apply below_drew1) | exact HB.out)⟩
                      · rw [if_neg c19] at H
                        have c19b0 : (t199 == t195) = false := beq_eq_false_iff_ne.mpr c19
                        have c19b1 : (t199 != t195) = true := bne_iff_ne.mpr c19
                        try rw [hwt196] at H
                        obtain rfl := Option.some.inj H
                        go_wp2_with (first | ((with_reducible refine gate_callee (f := 17) rfl ?_); refine goesL_ (some 20) rfl rfl Tryz.func17 (by kernel_rfl) rfl #[.int .i64 10, .int .i64 a0] rfl (by (try simp only [List.map_toArray, List.map_cons, List.map_nil]); first | done | rfl | (simp only [List.length_drop, List.length_take]; rfl)) ?_; (with_reducible refine (pleacherref04_Digits.calls kj2 10 a0 t192 _ A7.out).mono ?_); rintro e w' ⟨rfl, ⟨nd, rfl⟩⟩; refine ⟨_, rfl, ?_⟩) | ((with_reducible refine gate_callee (f := 14) rfl ?_); refine goesL_ (some 23) rfl rfl Tryz.func14 (by kernel_rfl) rfl #[.string (((⟨#[38, 35]⟩ : ByteArray) ++ t192) ++ (⟨#[59, 120]⟩ : ByteArray))] rfl (by (try simp only [List.map_toArray, List.map_cons, List.map_nil]); first | done | rfl | (simp only [List.length_drop, List.length_take]; rfl)) ?_; (with_reducible refine (escape_Ref.calls (((⟨#[38, 35]⟩ : ByteArray) ++ t192) ++ (⟨#[59, 120]⟩ : ByteArray)) t193 t194 t195 _ ?side1 A10.out).mono ?_); (case side1 => exact GW.below HG.out (by repeat (first | (with_reducible first | exact HB.out | apply below_alloc | apply pw_below_drewN | apply below_drew1) | exact HB.out))); rintro e w37 ⟨rfl, hb⟩; refine ⟨_, rfl, ?_⟩; have n0_ := Aside0.mk (below_step (by repeat (first | (with_reducible first | exact HB.out | apply below_alloc | apply pw_below_drewN | apply below_drew1) | exact HB.out)) hb); clear HB; have HB := n0_; clear n0_; (try clear hb); (try clear hb2); (try clear hk); (try clear hi)) | ((with_reducible refine gate_callee (f := 17) rfl ?_); refine goesL_ (some 29) rfl rfl Tryz.func17 (by kernel_rfl) rfl #[.int .i64 16, .int .i64 a0] rfl (by (try simp only [List.map_toArray, List.map_cons, List.map_nil]); first | done | rfl | (simp only [List.length_drop, List.length_take]; rfl)) ?_; (with_reducible refine (pleacherref04_Digits.calls kj2 16 a0 t196 _ A11.out).mono ?_); rintro e w' ⟨rfl, ⟨nd, rfl⟩⟩; refine ⟨_, rfl, ?_⟩) | ((with_reducible refine gate_callee (f := 14) rfl ?_); refine goesL_ (some 32) rfl rfl Tryz.func14 (by kernel_rfl) rfl #[.string (((⟨#[38, 35, 120]⟩ : ByteArray) ++ t196) ++ (⟨#[59]⟩ : ByteArray))] rfl (by (try simp only [List.map_toArray, List.map_cons, List.map_nil]); first | done | rfl | (simp only [List.length_drop, List.length_take]; rfl)) ?_; (with_reducible refine (escape_Ref.calls (((⟨#[38, 35, 120]⟩ : ByteArray) ++ t196) ++ (⟨#[59]⟩ : ByteArray)) t197 t198 t199 _ ?side1 A14.out).mono ?_); (case side1 => exact GW.below HG.out (by repeat (first | (with_reducible first | exact HB.out | apply below_alloc | apply pw_below_drewN | apply below_drew1) | exact HB.out))); rintro e w38 ⟨rfl, hb⟩; refine ⟨_, rfl, ?_⟩; have n0_ := Aside0.mk (below_step (by repeat (first | (with_reducible first | exact HB.out | apply below_alloc | apply pw_below_drewN | apply below_drew1) | exact HB.out)) hb); clear HB; have HB := n0_; clear n0_; (try clear hb); (try clear hb2); (try clear hk); (try clear hi)) | ((with_reducible refine gate_callee (f := 18) rfl ?_); refine goesL_ (some 37) rfl rfl Tryz.func18 (by kernel_rfl) rfl #[.int .i64 a0] rfl (by (try simp only [List.map_toArray, List.map_cons, List.map_nil]); first | done | rfl | (simp only [List.length_drop, List.length_take]; rfl)) ?_; (with_reducible refine (utf_IsChar.calls a0 true _ A15.out).mono ?_); rintro e w39 ⟨rfl, hb⟩; refine ⟨_, rfl, ?_⟩; have n0_ := Aside0.mk (below_step (by repeat (first | (with_reducible first | exact HB.out | apply below_alloc | apply pw_below_drewN | apply below_drew1) | exact HB.out)) hb); clear HB; have HB := n0_; clear n0_; (try clear hb); (try clear hb2); (try clear hk); (try clear hi)))
                        go_ret
                        exact ⟨by first | rfl | (simp [errW_none, errW_some] <;> rfl) | (simp [*, errW_none, errW_some] <;> rfl), by repeat (first | (with_reducible first | exact HB.out | apply below_alloc | apply pw_below_drewN | apply below_drew1) | exact HB.out)⟩
                    · rw [if_neg c18] at H
                      have c18b0 : (t195 == 0) = false := beq_eq_false_iff_ne.mpr c18
                      have c18b1 : (t195 != 0) = true := bne_iff_ne.mpr c18
                      try rw [hwt196] at H
                      obtain rfl := Option.some.inj H
                      go_wp2_with (first | ((with_reducible refine gate_callee (f := 17) rfl ?_); refine goesL_ (some 20) rfl rfl Tryz.func17 (by kernel_rfl) rfl #[.int .i64 10, .int .i64 a0] rfl (by (try simp only [List.map_toArray, List.map_cons, List.map_nil]); first | done | rfl | (simp only [List.length_drop, List.length_take]; rfl)) ?_; (with_reducible refine (pleacherref04_Digits.calls kj2 10 a0 t192 _ A7.out).mono ?_); rintro e w' ⟨rfl, ⟨nd, rfl⟩⟩; refine ⟨_, rfl, ?_⟩) | ((with_reducible refine gate_callee (f := 14) rfl ?_); refine goesL_ (some 23) rfl rfl Tryz.func14 (by kernel_rfl) rfl #[.string (((⟨#[38, 35]⟩ : ByteArray) ++ t192) ++ (⟨#[59, 120]⟩ : ByteArray))] rfl (by (try simp only [List.map_toArray, List.map_cons, List.map_nil]); first | done | rfl | (simp only [List.length_drop, List.length_take]; rfl)) ?_; (with_reducible refine (escape_Ref.calls (((⟨#[38, 35]⟩ : ByteArray) ++ t192) ++ (⟨#[59, 120]⟩ : ByteArray)) t193 t194 t195 _ ?side1 A10.out).mono ?_); (case side1 => exact GW.below HG.out (by repeat (first | (with_reducible first | exact HB.out | apply below_alloc | apply pw_below_drewN | apply below_drew1) | exact HB.out))); rintro e w40 ⟨rfl, hb⟩; refine ⟨_, rfl, ?_⟩; have n0_ := Aside0.mk (below_step (by repeat (first | (with_reducible first | exact HB.out | apply below_alloc | apply pw_below_drewN | apply below_drew1) | exact HB.out)) hb); clear HB; have HB := n0_; clear n0_; (try clear hb); (try clear hb2); (try clear hk); (try clear hi)) | ((with_reducible refine gate_callee (f := 17) rfl ?_); refine goesL_ (some 29) rfl rfl Tryz.func17 (by kernel_rfl) rfl #[.int .i64 16, .int .i64 a0] rfl (by (try simp only [List.map_toArray, List.map_cons, List.map_nil]); first | done | rfl | (simp only [List.length_drop, List.length_take]; rfl)) ?_; (with_reducible refine (pleacherref04_Digits.calls kj2 16 a0 t196 _ A11.out).mono ?_); rintro e w' ⟨rfl, ⟨nd, rfl⟩⟩; refine ⟨_, rfl, ?_⟩) | ((with_reducible refine gate_callee (f := 14) rfl ?_); refine goesL_ (some 32) rfl rfl Tryz.func14 (by kernel_rfl) rfl #[.string (((⟨#[38, 35, 120]⟩ : ByteArray) ++ t196) ++ (⟨#[59]⟩ : ByteArray))] rfl (by (try simp only [List.map_toArray, List.map_cons, List.map_nil]); first | done | rfl | (simp only [List.length_drop, List.length_take]; rfl)) ?_; (with_reducible refine (escape_Ref.calls (((⟨#[38, 35, 120]⟩ : ByteArray) ++ t196) ++ (⟨#[59]⟩ : ByteArray)) t197 t198 t199 _ ?side1 A14.out).mono ?_); (case side1 => exact GW.below HG.out (by repeat (first | (with_reducible first | exact HB.out | apply below_alloc | apply pw_below_drewN | apply below_drew1) | exact HB.out))); rintro e w41 ⟨rfl, hb⟩; refine ⟨_, rfl, ?_⟩; have n0_ := Aside0.mk (below_step (by repeat (first | (with_reducible first | exact HB.out | apply below_alloc | apply pw_below_drewN | apply below_drew1) | exact HB.out)) hb); clear HB; have HB := n0_; clear n0_; (try clear hb); (try clear hb2); (try clear hk); (try clear hi)) | ((with_reducible refine gate_callee (f := 18) rfl ?_); refine goesL_ (some 37) rfl rfl Tryz.func18 (by kernel_rfl) rfl #[.int .i64 a0] rfl (by (try simp only [List.map_toArray, List.map_cons, List.map_nil]); first | done | rfl | (simp only [List.length_drop, List.length_take]; rfl)) ?_; (with_reducible refine (utf_IsChar.calls a0 true _ A15.out).mono ?_); rintro e w42 ⟨rfl, hb⟩; refine ⟨_, rfl, ?_⟩; have n0_ := Aside0.mk (below_step (by repeat (first | (with_reducible first | exact HB.out | apply below_alloc | apply pw_below_drewN | apply below_drew1) | exact HB.out)) hb); clear HB; have HB := n0_; clear n0_; (try clear hb); (try clear hb2); (try clear hk); (try clear hi)))
                      go_ret
                      exact ⟨by first | rfl | (simp [errW_none, errW_some] <;> rfl) | (simp [*, errW_none, errW_some] <;> rfl), by repeat (first | (with_reducible first | exact HB.out | apply below_alloc | apply pw_below_drewN | apply below_drew1) | exact HB.out)⟩
                  · replace c17 := Bool.eq_false_iff.mpr c17
                    subst c17
                    have H1 : (some false) = some r := by rw [if_neg (show ¬ (false = true) by decide)] at H; exact H
                    clear H
                    have H := H1
                    clear H1
                    try rw [hwt196] at H
                    obtain rfl := Option.some.inj H
                    go_wp2_with (first | ((with_reducible refine gate_callee (f := 17) rfl ?_); refine goesL_ (some 20) rfl rfl Tryz.func17 (by kernel_rfl) rfl #[.int .i64 10, .int .i64 a0] rfl (by (try simp only [List.map_toArray, List.map_cons, List.map_nil]); first | done | rfl | (simp only [List.length_drop, List.length_take]; rfl)) ?_; (with_reducible refine (pleacherref04_Digits.calls kj2 10 a0 t192 _ A7.out).mono ?_); rintro e w' ⟨rfl, ⟨nd, rfl⟩⟩; refine ⟨_, rfl, ?_⟩) | ((with_reducible refine gate_callee (f := 14) rfl ?_); refine goesL_ (some 23) rfl rfl Tryz.func14 (by kernel_rfl) rfl #[.string (((⟨#[38, 35]⟩ : ByteArray) ++ t192) ++ (⟨#[59, 120]⟩ : ByteArray))] rfl (by (try simp only [List.map_toArray, List.map_cons, List.map_nil]); first | done | rfl | (simp only [List.length_drop, List.length_take]; rfl)) ?_; (with_reducible refine (escape_Ref.calls (((⟨#[38, 35]⟩ : ByteArray) ++ t192) ++ (⟨#[59, 120]⟩ : ByteArray)) t193 t194 t195 _ ?side1 A10.out).mono ?_); (case side1 => exact GW.below HG.out (by repeat (first | (with_reducible first | exact HB.out | apply below_alloc | apply pw_below_drewN | apply below_drew1) | exact HB.out))); rintro e w43 ⟨rfl, hb⟩; refine ⟨_, rfl, ?_⟩; have n0_ := Aside0.mk (below_step (by repeat (first | (with_reducible first | exact HB.out | apply below_alloc | apply pw_below_drewN | apply below_drew1) | exact HB.out)) hb); clear HB; have HB := n0_; clear n0_; (try clear hb); (try clear hb2); (try clear hk); (try clear hi)) | ((with_reducible refine gate_callee (f := 17) rfl ?_); refine goesL_ (some 29) rfl rfl Tryz.func17 (by kernel_rfl) rfl #[.int .i64 16, .int .i64 a0] rfl (by (try simp only [List.map_toArray, List.map_cons, List.map_nil]); first | done | rfl | (simp only [List.length_drop, List.length_take]; rfl)) ?_; (with_reducible refine (pleacherref04_Digits.calls kj2 16 a0 t196 _ A11.out).mono ?_); rintro e w' ⟨rfl, ⟨nd, rfl⟩⟩; refine ⟨_, rfl, ?_⟩) | ((with_reducible refine gate_callee (f := 14) rfl ?_); refine goesL_ (some 32) rfl rfl Tryz.func14 (by kernel_rfl) rfl #[.string (((⟨#[38, 35, 120]⟩ : ByteArray) ++ t196) ++ (⟨#[59]⟩ : ByteArray))] rfl (by (try simp only [List.map_toArray, List.map_cons, List.map_nil]); first | done | rfl | (simp only [List.length_drop, List.length_take]; rfl)) ?_; (with_reducible refine (escape_Ref.calls (((⟨#[38, 35, 120]⟩ : ByteArray) ++ t196) ++ (⟨#[59]⟩ : ByteArray)) t197 t198 t199 _ ?side1 A14.out).mono ?_); (case side1 => exact GW.below HG.out (by repeat (first | (with_reducible first | exact HB.out | apply below_alloc | apply pw_below_drewN | apply below_drew1) | exact HB.out))); rintro e w44 ⟨rfl, hb⟩; refine ⟨_, rfl, ?_⟩; have n0_ := Aside0.mk (below_step (by repeat (first | (with_reducible first | exact HB.out | apply below_alloc | apply pw_below_drewN | apply below_drew1) | exact HB.out)) hb); clear HB; have HB := n0_; clear n0_; (try clear hb); (try clear hb2); (try clear hk); (try clear hi)) | ((with_reducible refine gate_callee (f := 18) rfl ?_); refine goesL_ (some 37) rfl rfl Tryz.func18 (by kernel_rfl) rfl #[.int .i64 a0] rfl (by (try simp only [List.map_toArray, List.map_cons, List.map_nil]); first | done | rfl | (simp only [List.length_drop, List.length_take]; rfl)) ?_; (with_reducible refine (utf_IsChar.calls a0 true _ A15.out).mono ?_); rintro e w45 ⟨rfl, hb⟩; refine ⟨_, rfl, ?_⟩; have n0_ := Aside0.mk (below_step (by repeat (first | (with_reducible first | exact HB.out | apply below_alloc | apply pw_below_drewN | apply below_drew1) | exact HB.out)) hb); clear HB; have HB := n0_; clear n0_; (try clear hb); (try clear hb2); (try clear hk); (try clear hi)))
                    go_ret
                    exact ⟨by first | rfl | (simp [errW_none, errW_some] <;> rfl) | (simp [*, errW_none, errW_some] <;> rfl), by repeat (first | (with_reducible first | exact HB.out | apply below_alloc | apply pw_below_drewN | apply below_drew1) | exact HB.out)⟩
                · replace c16 := Bool.eq_false_iff.mpr c16
                  subst c16
                  have H1 : (if t191 = true then (if t195 = 40 then (if t199 = t195 then (if t193 = 0 then (some (t197 == 0)) else (some false)) else (some false)) else (some false)) else (some false)) = some r := by rw [if_neg (show ¬ (false = true) by decide)] at H; exact H
                  clear H
                  have H := H1
                  clear H1
                  by_cases c46 : t191 = true
                  · subst c46
                    have H1 : (if t195 = 40 then (if t199 = t195 then (if t193 = 0 then (some (t197 == 0)) else (some false)) else (some false)) else (some false)) = some r := by rw [if_pos rfl] at H; exact H
                    clear H
                    have H := H1
                    clear H1
                    by_cases c47 : t195 = 40
                    · rw [if_pos c47] at H
                      have c47b0 : (t195 == 40) = true := beq_iff_eq.mpr c47
                      have c47b1 : (t195 != 40) = false := bne_eq_false_iff_eq.mpr c47
                      clear c47
                      by_cases c48 : t199 = t195
                      · rw [if_pos c48] at H
                        have c48b0 : (t199 == t195) = true := beq_iff_eq.mpr c48
                        have c48b1 : (t199 != t195) = false := bne_eq_false_iff_eq.mpr c48
                        clear c48
                        by_cases c49 : t193 = 0
                        · rw [if_pos c49] at H
                          have c49b0 : (t193 == 0) = true := beq_iff_eq.mpr c49
                          have c49b1 : (t193 != 0) = false := bne_eq_false_iff_eq.mpr c49
                          clear c49
                          try rw [hwt196] at H
                          obtain rfl := Option.some.inj H
                          go_wp2_with (first | ((with_reducible refine gate_callee (f := 17) rfl ?_); refine goesL_ (some 20) rfl rfl Tryz.func17 (by kernel_rfl) rfl #[.int .i64 10, .int .i64 a0] rfl (by (try simp only [List.map_toArray, List.map_cons, List.map_nil]); first | done | rfl | (simp only [List.length_drop, List.length_take]; rfl)) ?_; (with_reducible refine (pleacherref04_Digits.calls kj2 10 a0 t192 _ A7.out).mono ?_); rintro e w' ⟨rfl, ⟨nd, rfl⟩⟩; refine ⟨_, rfl, ?_⟩) | ((with_reducible refine gate_callee (f := 14) rfl ?_); refine goesL_ (some 23) rfl rfl Tryz.func14 (by kernel_rfl) rfl #[.string (((⟨#[38, 35]⟩ : ByteArray) ++ t192) ++ (⟨#[59, 120]⟩ : ByteArray))] rfl (by (try simp only [List.map_toArray, List.map_cons, List.map_nil]); first | done | rfl | (simp only [List.length_drop, List.length_take]; rfl)) ?_; (with_reducible refine (escape_Ref.calls (((⟨#[38, 35]⟩ : ByteArray) ++ t192) ++ (⟨#[59, 120]⟩ : ByteArray)) t193 t194 t195 _ ?side1 A10.out).mono ?_); (case side1 => exact GW.below HG.out (by repeat (first | (with_reducible first | exact HB.out | apply below_alloc | apply pw_below_drewN | apply below_drew1) | exact HB.out))); rintro e w50 ⟨rfl, hb⟩; refine ⟨_, rfl, ?_⟩; have n0_ := Aside0.mk (below_step (by repeat (first | (with_reducible first | exact HB.out | apply below_alloc | apply pw_below_drewN | apply below_drew1) | exact HB.out)) hb); clear HB; have HB := n0_; clear n0_; (try clear hb); (try clear hb2); (try clear hk); (try clear hi)) | ((with_reducible refine gate_callee (f := 17) rfl ?_); refine goesL_ (some 29) rfl rfl Tryz.func17 (by kernel_rfl) rfl #[.int .i64 16, .int .i64 a0] rfl (by (try simp only [List.map_toArray, List.map_cons, List.map_nil]); first | done | rfl | (simp only [List.length_drop, List.length_take]; rfl)) ?_; (with_reducible refine (pleacherref04_Digits.calls kj2 16 a0 t196 _ A11.out).mono ?_); rintro e w' ⟨rfl, ⟨nd, rfl⟩⟩; refine ⟨_, rfl, ?_⟩) | ((with_reducible refine gate_callee (f := 14) rfl ?_); refine goesL_ (some 32) rfl rfl Tryz.func14 (by kernel_rfl) rfl #[.string (((⟨#[38, 35, 120]⟩ : ByteArray) ++ t196) ++ (⟨#[59]⟩ : ByteArray))] rfl (by (try simp only [List.map_toArray, List.map_cons, List.map_nil]); first | done | rfl | (simp only [List.length_drop, List.length_take]; rfl)) ?_; (with_reducible refine (escape_Ref.calls (((⟨#[38, 35, 120]⟩ : ByteArray) ++ t196) ++ (⟨#[59]⟩ : ByteArray)) t197 t198 t199 _ ?side1 A14.out).mono ?_); (case side1 => exact GW.below HG.out (by repeat (first | (with_reducible first | exact HB.out | apply below_alloc | apply pw_below_drewN | apply below_drew1) | exact HB.out))); rintro e w51 ⟨rfl, hb⟩; refine ⟨_, rfl, ?_⟩; have n0_ := Aside0.mk (below_step (by repeat (first | (with_reducible first | exact HB.out | apply below_alloc | apply pw_below_drewN | apply below_drew1) | exact HB.out)) hb); clear HB; have HB := n0_; clear n0_; (try clear hb); (try clear hb2); (try clear hk); (try clear hi)) | ((with_reducible refine gate_callee (f := 18) rfl ?_); refine goesL_ (some 37) rfl rfl Tryz.func18 (by kernel_rfl) rfl #[.int .i64 a0] rfl (by (try simp only [List.map_toArray, List.map_cons, List.map_nil]); first | done | rfl | (simp only [List.length_drop, List.length_take]; rfl)) ?_; (with_reducible refine (utf_IsChar.calls a0 false _ A15.out).mono ?_); rintro e w52 ⟨rfl, hb⟩; refine ⟨_, rfl, ?_⟩; have n0_ := Aside0.mk (below_step (by repeat (first | (with_reducible first | exact HB.out | apply below_alloc | apply pw_below_drewN | apply below_drew1) | exact HB.out)) hb); clear HB; have HB := n0_; clear n0_; (try clear hb); (try clear hb2); (try clear hk); (try clear hi)))
                          go_ret
                          exact ⟨by first | rfl | (simp [errW_none, errW_some] <;> rfl) | (simp [*, errW_none, errW_some] <;> rfl), by repeat (first | (with_reducible first | exact HB.out | apply below_alloc | apply pw_below_drewN | apply below_drew1) | exact HB.out)⟩
                        · rw [if_neg c49] at H
                          have c49b0 : (t193 == 0) = false := beq_eq_false_iff_ne.mpr c49
                          have c49b1 : (t193 != 0) = true := bne_iff_ne.mpr c49
                          try rw [hwt196] at H
                          obtain rfl := Option.some.inj H
                          go_wp2_with (first | ((with_reducible refine gate_callee (f := 17) rfl ?_); refine goesL_ (some 20) rfl rfl Tryz.func17 (by kernel_rfl) rfl #[.int .i64 10, .int .i64 a0] rfl (by (try simp only [List.map_toArray, List.map_cons, List.map_nil]); first | done | rfl | (simp only [List.length_drop, List.length_take]; rfl)) ?_; (with_reducible refine (pleacherref04_Digits.calls kj2 10 a0 t192 _ A7.out).mono ?_); rintro e w' ⟨rfl, ⟨nd, rfl⟩⟩; refine ⟨_, rfl, ?_⟩) | ((with_reducible refine gate_callee (f := 14) rfl ?_); refine goesL_ (some 23) rfl rfl Tryz.func14 (by kernel_rfl) rfl #[.string (((⟨#[38, 35]⟩ : ByteArray) ++ t192) ++ (⟨#[59, 120]⟩ : ByteArray))] rfl (by (try simp only [List.map_toArray, List.map_cons, List.map_nil]); first | done | rfl | (simp only [List.length_drop, List.length_take]; rfl)) ?_; (with_reducible refine (escape_Ref.calls (((⟨#[38, 35]⟩ : ByteArray) ++ t192) ++ (⟨#[59, 120]⟩ : ByteArray)) t193 t194 t195 _ ?side1 A10.out).mono ?_); (case side1 => exact GW.below HG.out (by repeat (first | (with_reducible first | exact HB.out | apply below_alloc | apply pw_below_drewN | apply below_drew1) | exact HB.out))); rintro e w53 ⟨rfl, hb⟩; refine ⟨_, rfl, ?_⟩; have n0_ := Aside0.mk (below_step (by repeat (first | (with_reducible first | exact HB.out | apply below_alloc | apply pw_below_drewN | apply below_drew1) | exact HB.out)) hb); clear HB; have HB := n0_; clear n0_; (try clear hb); (try clear hb2); (try clear hk); (try clear hi)) | ((with_reducible refine gate_callee (f := 17) rfl ?_); refine goesL_ (some 29) rfl rfl Tryz.func17 (by kernel_rfl) rfl #[.int .i64 16, .int .i64 a0] rfl (by (try simp only [List.map_toArray, List.map_cons, List.map_nil]); first | done | rfl | (simp only [List.length_drop, List.length_take]; rfl)) ?_; (with_reducible refine (pleacherref04_Digits.calls kj2 16 a0 t196 _ A11.out).mono ?_); rintro e w' ⟨rfl, ⟨nd, rfl⟩⟩; refine ⟨_, rfl, ?_⟩) | ((with_reducible refine gate_callee (f := 14) rfl ?_); refine goesL_ (some 32) rfl rfl Tryz.func14 (by kernel_rfl) rfl #[.string (((⟨#[38, 35, 120]⟩ : ByteArray) ++ t196) ++ (⟨#[59]⟩ : ByteArray))] rfl (by (try simp only [List.map_toArray, List.map_cons, List.map_nil]); first | done | rfl | (simp only [List.length_drop, List.length_take]; rfl)) ?_; (with_reducible refine (escape_Ref.calls (((⟨#[38, 35, 120]⟩ : ByteArray) ++ t196) ++ (⟨#[59]⟩ : ByteArray)) t197 t198 t199 _ ?side1 A14.out).mono ?_); (case side1 => exact GW.below HG.out (by repeat (first | (with_reducible first | exact HB.out | apply below_alloc | apply pw_below_drewN | apply below_drew1) | exact HB.out))); rintro e w54 ⟨rfl, hb⟩; refine ⟨_, rfl, ?_⟩; have n0_ := Aside0.mk (below_step (by repeat (first | (with_reducible first | exact HB.out | apply below_alloc | apply pw_below_drewN | apply below_drew1) | exact HB.out)) hb); clear HB; have HB := n0_; clear n0_; (try clear hb); (try clear hb2); (try clear hk); (try clear hi)) | ((with_reducible refine gate_callee (f := 18) rfl ?_); refine goesL_ (some 37) rfl rfl Tryz.func18 (by kernel_rfl) rfl #[.int .i64 a0] rfl (by (try simp only [List.map_toArray, List.map_cons, List.map_nil]); first | done | rfl | (simp only [List.length_drop, List.length_take]; rfl)) ?_; (with_reducible refine (utf_IsChar.calls a0 false _ A15.out).mono ?_); rintro e w55 ⟨rfl, hb⟩; refine ⟨_, rfl, ?_⟩; have n0_ := Aside0.mk (below_step (by repeat (first | (with_reducible first | exact HB.out | apply below_alloc | apply pw_below_drewN | apply below_drew1) | exact HB.out)) hb); clear HB; have HB := n0_; clear n0_; (try clear hb); (try clear hb2); (try clear hk); (try clear hi)))
                          go_ret
                          exact ⟨by first | rfl | (simp [errW_none, errW_some] <;> rfl) | (simp [*, errW_none, errW_some] <;> rfl), by repeat (first | (with_reducible first | exact HB.out | apply below_alloc | apply pw_below_drewN | apply below_drew1) | exact HB.out)⟩
                      · rw [if_neg c48] at H
                        have c48b0 : (t199 == t195) = false := beq_eq_false_iff_ne.mpr c48
                        have c48b1 : (t199 != t195) = true := bne_iff_ne.mpr c48
                        try rw [hwt196] at H
                        obtain rfl := Option.some.inj H
                        go_wp2_with (first | ((with_reducible refine gate_callee (f := 17) rfl ?_); refine goesL_ (some 20) rfl rfl Tryz.func17 (by kernel_rfl) rfl #[.int .i64 10, .int .i64 a0] rfl (by (try simp only [List.map_toArray, List.map_cons, List.map_nil]); first | done | rfl | (simp only [List.length_drop, List.length_take]; rfl)) ?_; (with_reducible refine (pleacherref04_Digits.calls kj2 10 a0 t192 _ A7.out).mono ?_); rintro e w' ⟨rfl, ⟨nd, rfl⟩⟩; refine ⟨_, rfl, ?_⟩) | ((with_reducible refine gate_callee (f := 14) rfl ?_); refine goesL_ (some 23) rfl rfl Tryz.func14 (by kernel_rfl) rfl #[.string (((⟨#[38, 35]⟩ : ByteArray) ++ t192) ++ (⟨#[59, 120]⟩ : ByteArray))] rfl (by (try simp only [List.map_toArray, List.map_cons, List.map_nil]); first | done | rfl | (simp only [List.length_drop, List.length_take]; rfl)) ?_; (with_reducible refine (escape_Ref.calls (((⟨#[38, 35]⟩ : ByteArray) ++ t192) ++ (⟨#[59, 120]⟩ : ByteArray)) t193 t194 t195 _ ?side1 A10.out).mono ?_); (case side1 => exact GW.below HG.out (by repeat (first | (with_reducible first | exact HB.out | apply below_alloc | apply pw_below_drewN | apply below_drew1) | exact HB.out))); rintro e w56 ⟨rfl, hb⟩; refine ⟨_, rfl, ?_⟩; have n0_ := Aside0.mk (below_step (by repeat (first | (with_reducible first | exact HB.out | apply below_alloc | apply pw_below_drewN | apply below_drew1) | exact HB.out)) hb); clear HB; have HB := n0_; clear n0_; (try clear hb); (try clear hb2); (try clear hk); (try clear hi)) | ((with_reducible refine gate_callee (f := 17) rfl ?_); refine goesL_ (some 29) rfl rfl Tryz.func17 (by kernel_rfl) rfl #[.int .i64 16, .int .i64 a0] rfl (by (try simp only [List.map_toArray, List.map_cons, List.map_nil]); first | done | rfl | (simp only [List.length_drop, List.length_take]; rfl)) ?_; (with_reducible refine (pleacherref04_Digits.calls kj2 16 a0 t196 _ A11.out).mono ?_); rintro e w' ⟨rfl, ⟨nd, rfl⟩⟩; refine ⟨_, rfl, ?_⟩) | ((with_reducible refine gate_callee (f := 14) rfl ?_); refine goesL_ (some 32) rfl rfl Tryz.func14 (by kernel_rfl) rfl #[.string (((⟨#[38, 35, 120]⟩ : ByteArray) ++ t196) ++ (⟨#[59]⟩ : ByteArray))] rfl (by (try simp only [List.map_toArray, List.map_cons, List.map_nil]); first | done | rfl | (simp only [List.length_drop, List.length_take]; rfl)) ?_; (with_reducible refine (escape_Ref.calls (((⟨#[38, 35, 120]⟩ : ByteArray) ++ t196) ++ (⟨#[59]⟩ : ByteArray)) t197 t198 t199 _ ?side1 A14.out).mono ?_); (case side1 => exact GW.below HG.out (by repeat (first | (with_reducible first | exact HB.out | apply below_alloc | apply pw_below_drewN | apply below_drew1) | exact HB.out))); rintro e w57 ⟨rfl, hb⟩; refine ⟨_, rfl, ?_⟩; have n0_ := Aside0.mk (below_step (by repeat (first | (with_reducible first | exact HB.out | apply below_alloc | apply pw_below_drewN | apply below_drew1) | exact HB.out)) hb); clear HB; have HB := n0_; clear n0_; (try clear hb); (try clear hb2); (try clear hk); (try clear hi)) | ((with_reducible refine gate_callee (f := 18) rfl ?_); refine goesL_ (some 37) rfl rfl Tryz.func18 (by kernel_rfl) rfl #[.int .i64 a0] rfl (by (try simp only [List.map_toArray, List.map_cons, List.map_nil]); first | done | rfl | (simp only [List.length_drop, List.length_take]; rfl)) ?_; (with_reducible refine (utf_IsChar.calls a0 false _ A15.out).mono ?_); rintro e w58 ⟨rfl, hb⟩; refine ⟨_, rfl, ?_⟩; have n0_ := Aside0.mk (below_step (by repeat (first | (with_reducible first | exact HB.out | apply below_alloc | apply pw_below_drewN | apply below_drew1) | exact HB.out)) hb); clear HB; have HB := n0_; clear n0_; (try clear hb); (try clear hb2); (try clear hk); (try clear hi)))
                        go_ret
                        exact ⟨by first | rfl | (simp [errW_none, errW_some] <;> rfl) | (simp [*, errW_none, errW_some] <;> rfl), by repeat (first | (with_reducible first | exact HB.out | apply below_alloc | apply pw_below_drewN | apply below_drew1) | exact HB.out)⟩
                    · rw [if_neg c47] at H
                      have c47b0 : (t195 == 40) = false := beq_eq_false_iff_ne.mpr c47
                      have c47b1 : (t195 != 40) = true := bne_iff_ne.mpr c47
                      try rw [hwt196] at H
                      obtain rfl := Option.some.inj H
                      go_wp2_with (first | ((with_reducible refine gate_callee (f := 17) rfl ?_); refine goesL_ (some 20) rfl rfl Tryz.func17 (by kernel_rfl) rfl #[.int .i64 10, .int .i64 a0] rfl (by (try simp only [List.map_toArray, List.map_cons, List.map_nil]); first | done | rfl | (simp only [List.length_drop, List.length_take]; rfl)) ?_; (with_reducible refine (pleacherref04_Digits.calls kj2 10 a0 t192 _ A7.out).mono ?_); rintro e w' ⟨rfl, ⟨nd, rfl⟩⟩; refine ⟨_, rfl, ?_⟩) | ((with_reducible refine gate_callee (f := 14) rfl ?_); refine goesL_ (some 23) rfl rfl Tryz.func14 (by kernel_rfl) rfl #[.string (((⟨#[38, 35]⟩ : ByteArray) ++ t192) ++ (⟨#[59, 120]⟩ : ByteArray))] rfl (by (try simp only [List.map_toArray, List.map_cons, List.map_nil]); first | done | rfl | (simp only [List.length_drop, List.length_take]; rfl)) ?_; (with_reducible refine (escape_Ref.calls (((⟨#[38, 35]⟩ : ByteArray) ++ t192) ++ (⟨#[59, 120]⟩ : ByteArray)) t193 t194 t195 _ ?side1 A10.out).mono ?_); (case side1 => exact GW.below HG.out (by repeat (first | (with_reducible first | exact HB.out | apply below_alloc | apply pw_below_drewN | apply below_drew1) | exact HB.out))); rintro e w59 ⟨rfl, hb⟩; refine ⟨_, rfl, ?_⟩; have n0_ := Aside0.mk (below_step (by repeat (first | (with_reducible first | exact HB.out | apply below_alloc | apply pw_below_drewN | apply below_drew1) | exact HB.out)) hb); clear HB; have HB := n0_; clear n0_; (try clear hb); (try clear hb2); (try clear hk); (try clear hi)) | ((with_reducible refine gate_callee (f := 17) rfl ?_); refine goesL_ (some 29) rfl rfl Tryz.func17 (by kernel_rfl) rfl #[.int .i64 16, .int .i64 a0] rfl (by (try simp only [List.map_toArray, List.map_cons, List.map_nil]); first | done | rfl | (simp only [List.length_drop, List.length_take]; rfl)) ?_; (with_reducible refine (pleacherref04_Digits.calls kj2 16 a0 t196 _ A11.out).mono ?_); rintro e w' ⟨rfl, ⟨nd, rfl⟩⟩; refine ⟨_, rfl, ?_⟩) | ((with_reducible refine gate_callee (f := 14) rfl ?_); refine goesL_ (some 32) rfl rfl Tryz.func14 (by kernel_rfl) rfl #[.string (((⟨#[38, 35, 120]⟩ : ByteArray) ++ t196) ++ (⟨#[59]⟩ : ByteArray))] rfl (by (try simp only [List.map_toArray, List.map_cons, List.map_nil]); first | done | rfl | (simp only [List.length_drop, List.length_take]; rfl)) ?_; (with_reducible refine (escape_Ref.calls (((⟨#[38, 35, 120]⟩ : ByteArray) ++ t196) ++ (⟨#[59]⟩ : ByteArray)) t197 t198 t199 _ ?side1 A14.out).mono ?_); (case side1 => exact GW.below HG.out (by repeat (first | (with_reducible first | exact HB.out | apply below_alloc | apply pw_below_drewN | apply below_drew1) | exact HB.out))); rintro e w60 ⟨rfl, hb⟩; refine ⟨_, rfl, ?_⟩; have n0_ := Aside0.mk (below_step (by repeat (first | (with_reducible first | exact HB.out | apply below_alloc | apply pw_below_drewN | apply below_drew1) | exact HB.out)) hb); clear HB; have HB := n0_; clear n0_; (try clear hb); (try clear hb2); (try clear hk); (try clear hi)) | ((with_reducible refine gate_callee (f := 18) rfl ?_); refine goesL_ (some 37) rfl rfl Tryz.func18 (by kernel_rfl) rfl #[.int .i64 a0] rfl (by (try simp only [List.map_toArray, List.map_cons, List.map_nil]); first | done | rfl | (simp only [List.length_drop, List.length_take]; rfl)) ?_; (with_reducible refine (utf_IsChar.calls a0 false _ A15.out).mono ?_); rintro e w61 ⟨rfl, hb⟩; refine ⟨_, rfl, ?_⟩; have n0_ := Aside0.mk (below_step (by repeat (first | (with_reducible first | exact HB.out | apply below_alloc | apply pw_below_drewN | apply below_drew1) | exact HB.out)) hb); clear HB; have HB := n0_; clear n0_; (try clear hb); (try clear hb2); (try clear hk); (try clear hi)))
                      go_ret
                      exact ⟨by first | rfl | (simp [errW_none, errW_some] <;> rfl) | (simp [*, errW_none, errW_some] <;> rfl), by repeat (first | (with_reducible first | exact HB.out | apply below_alloc | apply pw_below_drewN | apply below_drew1) | exact HB.out)⟩
                  · replace c46 := Bool.eq_false_iff.mpr c46
                    subst c46
                    have H1 : (some false) = some r := by rw [if_neg (show ¬ (false = true) by decide)] at H; exact H
                    clear H
                    have H := H1
                    clear H1
                    try rw [hwt196] at H
                    obtain rfl := Option.some.inj H
                    go_wp2_with (first | ((with_reducible refine gate_callee (f := 17) rfl ?_); refine goesL_ (some 20) rfl rfl Tryz.func17 (by kernel_rfl) rfl #[.int .i64 10, .int .i64 a0] rfl (by (try simp only [List.map_toArray, List.map_cons, List.map_nil]); first | done | rfl | (simp only [List.length_drop, List.length_take]; rfl)) ?_; (with_reducible refine (pleacherref04_Digits.calls kj2 10 a0 t192 _ A7.out).mono ?_); rintro e w' ⟨rfl, ⟨nd, rfl⟩⟩; refine ⟨_, rfl, ?_⟩) | ((with_reducible refine gate_callee (f := 14) rfl ?_); refine goesL_ (some 23) rfl rfl Tryz.func14 (by kernel_rfl) rfl #[.string (((⟨#[38, 35]⟩ : ByteArray) ++ t192) ++ (⟨#[59, 120]⟩ : ByteArray))] rfl (by (try simp only [List.map_toArray, List.map_cons, List.map_nil]); first | done | rfl | (simp only [List.length_drop, List.length_take]; rfl)) ?_; (with_reducible refine (escape_Ref.calls (((⟨#[38, 35]⟩ : ByteArray) ++ t192) ++ (⟨#[59, 120]⟩ : ByteArray)) t193 t194 t195 _ ?side1 A10.out).mono ?_); (case side1 => exact GW.below HG.out (by repeat (first | (with_reducible first | exact HB.out | apply below_alloc | apply pw_below_drewN | apply below_drew1) | exact HB.out))); rintro e w62 ⟨rfl, hb⟩; refine ⟨_, rfl, ?_⟩; have n0_ := Aside0.mk (below_step (by repeat (first | (with_reducible first | exact HB.out | apply below_alloc | apply pw_below_drewN | apply below_drew1) | exact HB.out)) hb); clear HB; have HB := n0_; clear n0_; (try clear hb); (try clear hb2); (try clear hk); (try clear hi)) | ((with_reducible refine gate_callee (f := 17) rfl ?_); refine goesL_ (some 29) rfl rfl Tryz.func17 (by kernel_rfl) rfl #[.int .i64 16, .int .i64 a0] rfl (by (try simp only [List.map_toArray, List.map_cons, List.map_nil]); first | done | rfl | (simp only [List.length_drop, List.length_take]; rfl)) ?_; (with_reducible refine (pleacherref04_Digits.calls kj2 16 a0 t196 _ A11.out).mono ?_); rintro e w' ⟨rfl, ⟨nd, rfl⟩⟩; refine ⟨_, rfl, ?_⟩) | ((with_reducible refine gate_callee (f := 14) rfl ?_); refine goesL_ (some 32) rfl rfl Tryz.func14 (by kernel_rfl) rfl #[.string (((⟨#[38, 35, 120]⟩ : ByteArray) ++ t196) ++ (⟨#[59]⟩ : ByteArray))] rfl (by (try simp only [List.map_toArray, List.map_cons, List.map_nil]); first | done | rfl | (simp only [List.length_drop, List.length_take]; rfl)) ?_; (with_reducible refine (escape_Ref.calls (((⟨#[38, 35, 120]⟩ : ByteArray) ++ t196) ++ (⟨#[59]⟩ : ByteArray)) t197 t198 t199 _ ?side1 A14.out).mono ?_); (case side1 => exact GW.below HG.out (by repeat (first | (with_reducible first | exact HB.out | apply below_alloc | apply pw_below_drewN | apply below_drew1) | exact HB.out))); rintro e w63 ⟨rfl, hb⟩; refine ⟨_, rfl, ?_⟩; have n0_ := Aside0.mk (below_step (by repeat (first | (with_reducible first | exact HB.out | apply below_alloc | apply pw_below_drewN | apply below_drew1) | exact HB.out)) hb); clear HB; have HB := n0_; clear n0_; (try clear hb); (try clear hb2); (try clear hk); (try clear hi)) | ((with_reducible refine gate_callee (f := 18) rfl ?_); refine goesL_ (some 37) rfl rfl Tryz.func18 (by kernel_rfl) rfl #[.int .i64 a0] rfl (by (try simp only [List.map_toArray, List.map_cons, List.map_nil]); first | done | rfl | (simp only [List.length_drop, List.length_take]; rfl)) ?_; (with_reducible refine (utf_IsChar.calls a0 false _ A15.out).mono ?_); rintro e w64 ⟨rfl, hb⟩; refine ⟨_, rfl, ?_⟩; have n0_ := Aside0.mk (below_step (by repeat (first | (with_reducible first | exact HB.out | apply below_alloc | apply pw_below_drewN | apply below_drew1) | exact HB.out)) hb); clear HB; have HB := n0_; clear n0_; (try clear hb); (try clear hb2); (try clear hk); (try clear hi)))
                    go_ret
                    exact ⟨by first | rfl | (simp [errW_none, errW_some] <;> rfl) | (simp [*, errW_none, errW_some] <;> rfl), by repeat (first | (with_reducible first | exact HB.out | apply below_alloc | apply pw_below_drewN | apply below_drew1) | exact HB.out)⟩
              · rw [if_neg c13] at H
                exact absurd H (by simp)
            · rw [if_neg c12] at H
              exact absurd H (by simp)
          · rw [if_neg c9] at H
            exact absurd H (by simp)
        · rw [if_neg c8] at H
          exact absurd H (by simp)

end Go.Proofs.YtbcjhmeeonhmaaaGreatDoor.M
end

/-
EscapeRefs: what the law computes is true.
-/
section
set_option linter.unusedVariables false
set_option maxRecDepth 100000
namespace Go.Proofs.YtbcjhmeeonhmaaaGreatDoor.H
open Go Go.RowKit Go.Proofs.YtbcjhmeeonhmaaaGreatDoorW.PrintWords Go.Proofs.YtbcjhmeeonhmaaaGreatDoorW.PrintMore Go.Proofs.YtbcjhmeeonhmaaaGreatDoor.M
theorem digits_f (b : Nat) (hb : b = 10 ∨ b = 16) (k : Nat) (hk : 70 ≤ k) (n : Nat) (hn : n ≤ 2000000) : pleacherref04_Digits.f k b n = some (putS b n) := by
  unfold pleacherref04_Digits.f
  have e : IntKind.u64.wrap (n : Int) = (n : Int) := by
    simp only [IntKind.wrap, IntKind.bits, IntKind.signed, Bool.false_and, Bool.false_eq_true, if_false]; omega
  rw [e, ref03_putI b (by omega) k (by omega) n (by omega) (by omega), Option.bind_some, Int.toNat_natCast]
theorem putS_no59 (b : Nat) (hb : b = 10 ∨ b = 16) (n : Nat) : ∀ c ∈ (putS b n).data.toList, c ≠ 59 ∧ c ≠ 120 := by
  intro c hc
  obtain ⟨d, hd, e⟩ := putS_digits b (by omega) n n (Nat.le_refl _) c hc
  have h9 : (c.toNat : Int) ≠ 59 ∧ (c.toNat : Int) ≠ 120 := by rw [e]; unfold chr; split <;> omega
  exact ⟨by rintro rfl; exact h9.1 rfl, by rintro rfl; exact h9.2 rfl⟩
theorem wrap_id (n : Nat) (hn : n ≤ 2000000) : wrap64 (n : Int) = (n : Int) := w64 (by omega) (by omega)
theorem digN_put (b : Nat) (hb : b = 10 ∨ b = 16) (n : Nat) (hn : n ≤ 2000000) : digN b (putS b n) = if isCharS (n : Int) = true then (n : Int) else 0 := by
  have hs := putS_short b hb n (by omega)
  unfold digN
  rw [getC_put b (by omega) n (by omega)]
  simp only []
  rw [wrap_id n hn]
  by_cases h : isCharS (n : Int) = true
  · rw [if_pos h, if_pos ⟨trivial, by omega, h⟩]
  · rw [if_neg h, if_neg (fun e => h e.2.2)]
theorem digS_10 (n : Nat) (hn : n ≤ 2000000) : digS (putS 10 n) = if isCharS (n : Int) = true then (n : Int) else 0 := by
  unfold digS
  have hne : (putS 10 n).data.toList.head? ≠ some 120 := by
    intro e
    have := List.mem_of_mem_head? (Option.mem_def.2 e)
    exact (putS_no59 10 (by omega) n 120 this).2 rfl
  have := pfx_not 120 (putS 10 n).data.toList hne
  rw [list_B] at this
  rw [this, if_neg (show ¬ ((putS 10 n, false).2 = true) from fun h => by cases h), digN_put 10 (by omega) n hn]
theorem digS_16 (n : Nat) (hn : n ≤ 2000000) : digS (B (120 :: (putS 16 n).data.toList)) = if isCharS (n : Int) = true then (n : Int) else 0 := by
  unfold digS
  rw [pfx_cons, if_pos rfl, list_B, digN_put 16 (by omega) n hn]
theorem ref_dec (n : Nat) (hn : n ≤ 2000000) : refS (((⟨#[38, 35]⟩ : ByteArray) ++ putS 10 n) ++ (⟨#[59, 120]⟩ : ByteArray)) = if isCharS (n : Int) = true then ((n : Int), ((putS 10 n).size : Int) + 3, 0) else (0, 0, 40) := by
  have hs := putS_short 10 (by omega) n (by omega)
  have hl := size_data (putS 10 n)
  have e : ((⟨#[38, 35]⟩ : ByteArray) ++ putS 10 n) ++ (⟨#[59, 120]⟩ : ByteArray) = B (38 :: ((35 :: (putS 10 n).data.toList) ++ 59 :: [120])) := data_ext (by rw [app_list, app_list, B_list]; simp)
  rw [e, ref_ok (by simp) (by simp; omega) (by
    intro h
    rcases List.mem_cons.1 h with h | h
    · cases h
    · exact (putS_no59 10 (by omega) n 59 h).1 rfl), bodyR_eq, if_pos (show (35 :: (putS 10 n).data.toList).head? = some 35 from rfl), List.tail_cons, list_B, digS_10 n hn]
  by_cases h : isCharS (n : Int) = true
  · have h0 : (n : Int) ≠ 0 := by intro e; rw [e] at h; revert h; decide +kernel
    rw [if_pos h, if_neg h0, if_pos h, show ((35 :: (putS 10 n).data.toList).length : Int) + 2 = ((putS 10 n).size : Int) + 3 from by rw [List.length_cons]; omega]
  · rw [if_neg h, if_pos rfl, if_neg h]
theorem ref_hex (n : Nat) (hn : n ≤ 2000000) : refS (((⟨#[38, 35, 120]⟩ : ByteArray) ++ putS 16 n) ++ (⟨#[59]⟩ : ByteArray)) = if isCharS (n : Int) = true then ((n : Int), ((putS 16 n).size : Int) + 4, 0) else (0, 0, 40) := by
  have hs := putS_short 16 (by omega) n (by omega)
  have hl := size_data (putS 16 n)
  have e : ((⟨#[38, 35, 120]⟩ : ByteArray) ++ putS 16 n) ++ (⟨#[59]⟩ : ByteArray) = B (38 :: ((35 :: 120 :: (putS 16 n).data.toList) ++ 59 :: [])) := data_ext (by rw [app_list, app_list, B_list]; simp)
  rw [e, ref_ok (by simp) (by simp; omega) (by
    intro h
    rcases List.mem_cons.1 h with h | h
    · cases h
    · rcases List.mem_cons.1 h with h | h
      · cases h
      · exact (putS_no59 16 (by omega) n 59 h).1 rfl), bodyR_eq, if_pos (show (35 :: 120 :: (putS 16 n).data.toList).head? = some 35 from rfl), List.tail_cons, digS_16 n hn]
  by_cases h : isCharS (n : Int) = true
  · have h0 : (n : Int) ≠ 0 := by intro e; rw [e] at h; revert h; decide +kernel
    rw [if_pos h, if_neg h0, if_pos h, show ((35 :: 120 :: (putS 16 n).data.toList).length : Int) + 2 = ((putS 16 n).size : Int) + 4 from by rw [List.length_cons, List.length_cons]; omega]
  · rw [if_neg h, if_pos rfl, if_neg h]
theorem ref_f (s : ByteArray) (h : s.size ≤ 1073741824) : escape_Ref.f s = some (refS s) := by unfold escape_Ref.f; rw [if_pos h]
theorem isChar_f (r : Int) : utf_IsChar.f r = some (isCharS r) := rfl
theorem refs_j (n : Nat) (hn : n ≤ 2000000) (k : Nat) (hk : 70 ≤ k) : pleacherlaw04_EscapeRefs.j0 (k + 1) n true false = some true := by
  have h10 := digits_f 10 (by omega) k hk n hn
  have h16 := digits_f 16 (by omega) k hk n hn
  have s10 := putS_short 10 (by omega) n (by omega)
  have s16 := putS_short 16 (by omega) n (by omega)
  rw [show ((10 : Nat) : Int) = 10 from rfl] at h10
  rw [show ((16 : Nat) : Int) = 16 from rfl] at h16
  have z2 : (⟨#[38, 35]⟩ : ByteArray).size = 2 := rfl
  have z3 : (⟨#[38, 35, 120]⟩ : ByteArray).size = 3 := rfl
  have z4 : (⟨#[59, 120]⟩ : ByteArray).size = 2 := rfl
  have z5 : (⟨#[59]⟩ : ByteArray).size = 1 := rfl
  rw [pleacherlaw04_EscapeRefs.j0, if_neg (by decide), h10, Option.bind_some, if_pos (by omega), if_pos (by rw [ByteArray.size_append, z2]; omega), ref_f _ (by rw [ByteArray.size_append, ByteArray.size_append, z2, z4]; omega), Option.bind_some, h16, Option.bind_some, if_pos (by omega), if_pos (by rw [ByteArray.size_append, z3]; omega), ref_f _ (by rw [ByteArray.size_append, ByteArray.size_append, z3, z5]; omega), Option.bind_some, isChar_f, Option.bind_some, ref_dec n hn, ref_hex n hn]
  by_cases h : isCharS (n : Int) = true
  · rw [if_pos h, if_pos h, if_pos h, if_pos rfl]
    simp only []
    rw [if_pos trivial, if_pos trivial, if_pos trivial, if_pos trivial, Option.bind_some, w64 (by omega) (by omega), if_pos rfl, Option.bind_some, w64 (by omega) (by omega)]
    simp
  · rw [if_neg h, if_neg h, if_neg h, if_pos rfl]
    decide
theorem escapeRefs_f (r : Int) : pleacherlaw04_EscapeRefs.f 2100 r = some true := by
  unfold pleacherlaw04_EscapeRefs.f
  rw [shown_f, Option.bind_some]
  by_cases h0 : r < 0
  · rw [if_pos h0, pleacherlaw04_EscapeRefs.j0, if_pos rfl]
  · rw [if_neg h0]
    by_cases h1 : r > 2000000
    · rw [decide_eq_true h1, pleacherlaw04_EscapeRefs.j0, if_pos rfl]
    · rw [decide_eq_false h1]
      obtain ⟨n, rfl⟩ := Int.eq_ofNat_of_zero_le (by omega : 0 ≤ r)
      exact refs_j n (by omega) 2099 (by omega)
end Go.Proofs.YtbcjhmeeonhmaaaGreatDoor.H
end

/-
The row and card of EscapeRefs.
-/
section
set_option linter.unusedVariables false
set_option linter.unusedSimpArgs false
set_option maxRecDepth 100000
namespace Go.Proofs.YtbcjhmeeonhmaaaGreatDoor.H
open Go Go.ChangeShapes Go.WideShapes Go.ChangeAt Go.RowKit Go.Proofs.YtbcjhmeeonhmaaaGreatDoorW.PrintWords Go.Proofs.YtbcjhmeeonhmaaaGreatDoorW.PrintMore Go.Proofs.YtbcjhmeeonhmaaaGreatDoor.M

theorem eR_contract (H : Type) (enc : TypeId × Value → H) (W : World) (base : Nat) (args : Array Value) (ds gs : List (DataW H)) (before : List MemPlace)
    (hval : ∀ (j : Nat) t v, Tryz.f5.params[j]? = some t → args[j]? = some v → Value.okWide Tryz.prog W .any base t v)
    (hW : DataW.Whole enc Tryz.prog Tryz.f5.params.toList Rows.escapeRefsSpec.vars false W args.toList ds gs before) (hL : laidMetH Tryz.prog Rows.escapeRefsRow.laid W) (hsh : W.ShapedOpen Tryz.prog) :
    Calls Tryz.prog 5 args W fun e W' => ∃ v, e = .returned v ∧ Rows.escapeRefsSpec.post enc Tryz.prog Tryz.f5 false true false false W args v W' := by
  have hW' := hW
  have hlt := hW.lt
  obtain ⟨p, q, hA0, hV, rfl, hfz, hnd⟩ := hW
  have hA : DataW.TrodAll enc Tryz.prog W 0 (fun _ => true) true Tryz.f5.params.toList args.toList ds p := hA0
  rw [Tryz.params5] at hA hval
  obtain ⟨v0, vs0, d0, ds0, p0, q0, hargs, rfl, rfl, h0, r0⟩ := trodAll_cons hA
  obtain ⟨rfl, rfl, rfl⟩ := trodAll_nil r0
  obtain rfl : args = #[v0] := by cases args; simp_all
  obtain ⟨rfl, rfl⟩ := trodVars_none hV
  obtain ⟨n0, rfl, _⟩ := Go.ChangeShapes.open_int Tryz.underlying3 (hval 0 3 v0 rfl rfl) h0
  refine (pleacherlaw04_EscapeRefs.calls 2100 n0 true W (gw_of_laid (laidA hL) hsh) (escapeRefs_f n0)).mono fun e W' ⟨he, hb⟩ => ?_
  subst he
  refine ⟨_, rfl, post_true hW' rfl (by kernel_rfl) ⟨rfl, rfl, rfl⟩ (pa := p0 ++ []) ?_ hb (by simp)⟩
  rw [Tryz.params5]
  exact trodAll_cons_mk (Below.trod laidOutA readI rowsI h0 hb (fun x hx => hlt x (by simpa using hx))) trodAll_mk0
/-- The witness' arguments. -/
def eR_wargs : Array Value := #[.int .i64 0]
theorem eR_reads (os : Os) {H : Type} (enc : TypeId × Value → H) : ∃ places, DataW.whole enc Tryz.prog ((World.doorLaid Tryz.prog 200 os).forCall (fun _ _ => 0) ⟨#[], eR_wargs, []⟩).memory Tryz.f5.params.toList Rows.escapeRefsSpec.vars false eR_wargs.toList 8 = some ([.lit (.int .i64 0)], [], places) :=
  ⟨[], by kernel_rfl⟩
/-- THE ROW's STEP. -/
theorem eR_lifted (os : Os) (started : os.Started) (H : Type) (enc : TypeId × Value → H) (F : Stop.Interp) :
    ReturnsInHanded {} Tryz.checked os 5 .any ((OpenSpec.ofChange Rows.escapeRefsSpec).preRow enc Tryz.prog Tryz.f5 Rows.escapeRefsRow.domain false Rows.escapeRefsRow.laid) (((OpenSpec.ofChange Rows.escapeRefsSpec).at F).post enc Tryz.prog Tryz.f5 false true false false) := by
  obtain ⟨places, hx⟩ := eR_reads os enc
  refine returnsInHanded_of_row (C := Tryz.checked) (s := OpenSpec.ofChange Rows.escapeRefsSpec) own started (by kernel_rfl) Tryz.func5
    (witness_row_atRef (enc := enc) (C := Tryz.checked) false (World.doorLaid Tryz.prog 200 os) eR_wargs rfl (by kernel_rfl) (by kernel_rfl) (by kernel_rfl)
      (OpenSpec.preRow_of_cond 8 hx (by kernel_rfl) (fun k hk => by cases hk) (by kernel_rfl) (doorA os _))) ?_
  intro W base args ds gs before hval hW _ _ _ hL hsh _
  exact eR_contract H enc W base args ds gs before hval hW hL hsh
theorem eR_said : Rows.EscapeRefsSaid :=
  OpenClaim.holds_of_cond 5 Tryz.f5 rfl rfl rfl rfl rfl rfl rfl ⟨rfl, rfl, rfl, rfl, rfl⟩ rfl rfl rfl rfl rfl (by kernel_rfl) Tryz.func5 (by kernel_rfl)
    (of_decide_eq_true (by kernel_rfl)) (by unfold Func.isWrapper; first | (rw [if_pos (by decide +kernel)]; kernel_rfl) | (rw [if_neg (by decide +kernel)]; exact ⟨rfl, rfl⟩))
    (fun os started H enc _ F => by rw [OpenClaim.pre_eq_preRow]; exact eR_lifted os started H enc F)
theorem eR_plain (f : FuncId) (fn : Func) (hf : Tryz.pinned.checked.prog.funcNamed "pleacher/pleacherlaw04.EscapeRefs" = some f) (hfn : Tryz.pinned.checked.prog.funcs[f]? = some fn) :
    true = Tryz.pinned.checked.prog.looks [] ∧ ∀ (j : Nat) t, fn.params[j]? = some t → Tryz.pinned.checked.prog.wantsStandIn t = false := by
  obtain rfl : f = 5 := Option.some.inj ((show Tryz.prog.funcNamed "pleacher/pleacherlaw04.EscapeRefs" = some 5 by kernel_rfl).symm.trans hf) |>.symm
  obtain rfl : fn = Tryz.f5 := (Option.some.inj (Tryz.func5.symm.trans hfn)).symm
  refine ⟨by kernel_rfl, fun j t ht => ?_⟩
  rw [Tryz.params5] at ht
  have ht := Array.mem_of_getElem? ht
  obtain rfl : t = 3 := by simpa using ht
  exact (show Tryz.prog.wantsStandIn 3 = false by kernel_rfl)
/-- THE CARD of EscapeRefs. -/
theorem eR_card : Rows.EscapeRefsCardSaid :=
  Claim7.holds_tied_plain_at .later [] _ _ _ _ eR_said (fun _ h => by cases h) (by kernel_rfl) (fun _ h => by cases h) escapeRefs_row_tie rfl ⟨rfl, rfl⟩ (by kernel_rfl) rfl eR_plain (by kernel_rfl)
end Go.Proofs.YtbcjhmeeonhmaaaGreatDoor.H
end
