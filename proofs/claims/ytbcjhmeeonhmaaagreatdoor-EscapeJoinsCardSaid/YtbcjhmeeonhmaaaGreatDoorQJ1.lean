/-
The card of EscapeJoins: escapes of two texts, put together, are that of both, and what raw texts stand for likewise (no condition).
-/
import Derived.Test.YtbcjhmeeonhmaaaGreatDoorQC3
set_option linter.unusedVariables false
set_option linter.unusedSimpArgs false
-- Laid by a program of this session for this claim.
section
namespace Go.Proofs.YtbcjhmeeonhmaaaGreatDoor.M
open Go.RowKit Go.Proofs.YtbcjhmeeonhmaaaGreatDoorW.PrintWords Go.Proofs.YtbcjhmeeonhmaaaGreatDoorW.PrintLast Go.Proofs.YtbcjhmeeonhmaaaGreatDoorW.PrintMore
attribute [local go_sem] max2_int min2_int max_two min_two max_three min_three max_four min_four   -- for this text's walks alone
set_option linter.unusedVariables false
set_option linter.unusedSimpArgs false

/-! ### pleacherlaw04_EscapeJoins: function 4 -/
mutual
def pleacherlaw04_EscapeJoins.j0 : Nat → ByteArray → ByteArray → Bool → Bool → Option (Bool)
  | 0, _, _, _, _ => none
  | k + 1, x0, x1, x5, x65 => if x65 = true then (some false) else ((escape_Get.f x0).bind fun bt179 => ((escape_Get.f x1).bind fun bt182 => (if x0.size + x1.size ≤ 9223372036854775807 then ((escape_Get.f (x0 ++ x1)).bind fun bt185 => (if bt179.2.2 = 0 then (if x0.toList = ([] : List UInt8) then (pleacherlaw04_EscapeJoins.j1 k x0 x5 bt179.1 bt182.1 bt182.2.1 bt182.2.2 bt185.1 bt185.2.1 bt185.2.2 false) else (if 0 ≤ (wrap64 ((x0.size : Int) - 1)) then (if (wrap64 ((x0.size : Int) - 1)) < (x0.size : Int) then (pleacherlaw04_EscapeJoins.j1 k x0 x5 bt179.1 bt182.1 bt182.2.1 bt182.2.2 bt185.1 bt185.2.1 bt185.2.2 ((bt x0 (wrap64 ((x0.size : Int) - 1))) == 13)) else (none)) else (none))) else (pleacherlaw04_EscapeJoins.j1 k x0 x5 bt179.1 bt182.1 bt182.2.1 bt182.2.2 bt185.1 bt185.2.1 bt185.2.2 true))) else (none))))
def pleacherlaw04_EscapeJoins.j1 : Nat → ByteArray → Bool → ByteArray → ByteArray → Int → Int → ByteArray → Int → Int → Bool → Option (Bool)
  | 0, _, _, _, _, _, _, _, _, _, _ => none
  | k + 1, x0, x5, x12, x15, x16, x17, x18, x19, x20, x99 => if x99 = true then (some x5) else (if x17 = 0 then (if x5 = true then (if x20 = 0 then (if x12.size + x15.size ≤ 9223372036854775807 then (some (x18.toList == (x12 ++ x15).toList)) else (none)) else (some false)) else (some false)) else (if x5 = true then (if x20 = x17 then (some (x19 == (wrap64 ((x0.size : Int) + x16)))) else (some false)) else (some false)))
end
def pleacherlaw04_EscapeJoins.f (k : Nat) (a0 : ByteArray) (a1 : ByteArray) : Option (Bool) := (pleacherlaw04_shown.f).bind fun t172 => (if 0 ≤ (mn (a0.size : Int) 250) then (if (mn (a0.size : Int) 250) ≤ (a0.size : Int) then (if 0 ≤ (mn (a1.size : Int) 250) then (if (mn (a1.size : Int) 250) ≤ (a1.size : Int) then ((escape_Put.f (a0.extract 0 ((mn (a0.size : Int) 250) : Int).toNat)).bind fun bt173 => ((escape_Put.f (a1.extract 0 ((mn (a1.size : Int) 250) : Int).toNat)).bind fun bt175 => (if (a0.extract 0 ((mn (a0.size : Int) 250) : Int).toNat).size + (a1.extract 0 ((mn (a1.size : Int) 250) : Int).toNat).size ≤ 9223372036854775807 then ((escape_Put.f ((a0.extract 0 ((mn (a0.size : Int) 250) : Int).toNat) ++ (a1.extract 0 ((mn (a1.size : Int) 250) : Int).toNat))).bind fun bt177 => (if bt173.2 = 0 then (if bt175.2 = 0 then (if bt177.2 = 0 then (if bt173.1.size + bt175.1.size ≤ 9223372036854775807 then (pleacherlaw04_EscapeJoins.j0 k (a0.extract 0 ((mn (a0.size : Int) 250) : Int).toNat) (a1.extract 0 ((mn (a1.size : Int) 250) : Int).toNat) t172 (bt177.1.toList != (bt173.1 ++ bt175.1).toList)) else (none)) else (pleacherlaw04_EscapeJoins.j0 k (a0.extract 0 ((mn (a0.size : Int) 250) : Int).toNat) (a1.extract 0 ((mn (a1.size : Int) 250) : Int).toNat) t172 true)) else (pleacherlaw04_EscapeJoins.j0 k (a0.extract 0 ((mn (a0.size : Int) 250) : Int).toNat) (a1.extract 0 ((mn (a1.size : Int) 250) : Int).toNat) t172 false)) else (pleacherlaw04_EscapeJoins.j0 k (a0.extract 0 ((mn (a0.size : Int) 250) : Int).toNat) (a1.extract 0 ((mn (a1.size : Int) 250) : Int).toNat) t172 false))) else (none)))) else (none)) else (none)) else (none)) else (none))
set_option maxHeartbeats 8000000 in
set_option maxRecDepth 100000 in
theorem pleacherlaw04_EscapeJoins.calls (k : Nat) (a0 : ByteArray) (a1 : ByteArray) (r : Bool) (w : World) (hG : GW w) (h : pleacherlaw04_EscapeJoins.f k a0 a1 = some r) :
    Calls Tryz.prog 4 #[.string a0, .string a1] w fun e w' => e = .returned (.bool r) ∧ Below w.heap.size w w' := by
  have HG := Aside0.mk hG
  clear hG
  have HB := Aside0.mk (Below.refl w.heap.size w)
  have H : ((pleacherlaw04_shown.f).bind fun t172 => (if 0 ≤ (mn (a0.size : Int) 250) then (if (mn (a0.size : Int) 250) ≤ (a0.size : Int) then (if 0 ≤ (mn (a1.size : Int) 250) then (if (mn (a1.size : Int) 250) ≤ (a1.size : Int) then ((escape_Put.f (a0.extract 0 ((mn (a0.size : Int) 250) : Int).toNat)).bind fun bt173 => ((escape_Put.f (a1.extract 0 ((mn (a1.size : Int) 250) : Int).toNat)).bind fun bt175 => (if (a0.extract 0 ((mn (a0.size : Int) 250) : Int).toNat).size + (a1.extract 0 ((mn (a1.size : Int) 250) : Int).toNat).size ≤ 9223372036854775807 then ((escape_Put.f ((a0.extract 0 ((mn (a0.size : Int) 250) : Int).toNat) ++ (a1.extract 0 ((mn (a1.size : Int) 250) : Int).toNat))).bind fun bt177 => (if bt173.2 = 0 then (if bt175.2 = 0 then (if bt177.2 = 0 then (if bt173.1.size + bt175.1.size ≤ 9223372036854775807 then (pleacherlaw04_EscapeJoins.j0 k (a0.extract 0 ((mn (a0.size : Int) 250) : Int).toNat) (a1.extract 0 ((mn (a1.size : Int) 250) : Int).toNat) t172 (bt177.1.toList != (bt173.1 ++ bt175.1).toList)) else (none)) else (pleacherlaw04_EscapeJoins.j0 k (a0.extract 0 ((mn (a0.size : Int) 250) : Int).toNat) (a1.extract 0 ((mn (a1.size : Int) 250) : Int).toNat) t172 true)) else (pleacherlaw04_EscapeJoins.j0 k (a0.extract 0 ((mn (a0.size : Int) 250) : Int).toNat) (a1.extract 0 ((mn (a1.size : Int) 250) : Int).toNat) t172 false)) else (pleacherlaw04_EscapeJoins.j0 k (a0.extract 0 ((mn (a0.size : Int) 250) : Int).toNat) (a1.extract 0 ((mn (a1.size : Int) 250) : Int).toNat) t172 false))) else (none)))) else (none)) else (none)) else (none)) else (none))) = some r := h
  clear h
  replace H := Option.bind_eq_some_iff.mp H
  obtain ⟨t172, A30, H⟩ := H
  replace H : (if 0 ≤ (mn (a0.size : Int) 250) then (if (mn (a0.size : Int) 250) ≤ (a0.size : Int) then (if 0 ≤ (mn (a1.size : Int) 250) then (if (mn (a1.size : Int) 250) ≤ (a1.size : Int) then ((escape_Put.f (a0.extract 0 ((mn (a0.size : Int) 250) : Int).toNat)).bind fun bt173 => ((escape_Put.f (a1.extract 0 ((mn (a1.size : Int) 250) : Int).toNat)).bind fun bt175 => (if (a0.extract 0 ((mn (a0.size : Int) 250) : Int).toNat).size + (a1.extract 0 ((mn (a1.size : Int) 250) : Int).toNat).size ≤ 9223372036854775807 then ((escape_Put.f ((a0.extract 0 ((mn (a0.size : Int) 250) : Int).toNat) ++ (a1.extract 0 ((mn (a1.size : Int) 250) : Int).toNat))).bind fun bt177 => (if bt173.2 = 0 then (if bt175.2 = 0 then (if bt177.2 = 0 then (if bt173.1.size + bt175.1.size ≤ 9223372036854775807 then (pleacherlaw04_EscapeJoins.j0 k (a0.extract 0 ((mn (a0.size : Int) 250) : Int).toNat) (a1.extract 0 ((mn (a1.size : Int) 250) : Int).toNat) t172 (bt177.1.toList != (bt173.1 ++ bt175.1).toList)) else (none)) else (pleacherlaw04_EscapeJoins.j0 k (a0.extract 0 ((mn (a0.size : Int) 250) : Int).toNat) (a1.extract 0 ((mn (a1.size : Int) 250) : Int).toNat) t172 true)) else (pleacherlaw04_EscapeJoins.j0 k (a0.extract 0 ((mn (a0.size : Int) 250) : Int).toNat) (a1.extract 0 ((mn (a1.size : Int) 250) : Int).toNat) t172 false)) else (pleacherlaw04_EscapeJoins.j0 k (a0.extract 0 ((mn (a0.size : Int) 250) : Int).toNat) (a1.extract 0 ((mn (a1.size : Int) 250) : Int).toNat) t172 false))) else (none)))) else (none)) else (none)) else (none)) else (none)) = some r := H
  have A3 := Aside0.mk A30
  clear A30
  obtain ⟨ji4, hji4⟩ : ∃ j_ : Int, (mn (a0.size : Int) 250) = j_ := ⟨_, rfl⟩
  replace H : (if 0 ≤ (ji4) then (if (ji4) ≤ (a0.size : Int) then (if 0 ≤ (mn (a1.size : Int) 250) then (if (mn (a1.size : Int) 250) ≤ (a1.size : Int) then ((escape_Put.f (a0.extract 0 ((ji4) : Int).toNat)).bind fun bt173 => ((escape_Put.f (a1.extract 0 ((mn (a1.size : Int) 250) : Int).toNat)).bind fun bt175 => (if (a0.extract 0 ((ji4) : Int).toNat).size + (a1.extract 0 ((mn (a1.size : Int) 250) : Int).toNat).size ≤ 9223372036854775807 then ((escape_Put.f ((a0.extract 0 ((ji4) : Int).toNat) ++ (a1.extract 0 ((mn (a1.size : Int) 250) : Int).toNat))).bind fun bt177 => (if bt173.2 = 0 then (if bt175.2 = 0 then (if bt177.2 = 0 then (if bt173.1.size + bt175.1.size ≤ 9223372036854775807 then (pleacherlaw04_EscapeJoins.j0 k (a0.extract 0 ((ji4) : Int).toNat) (a1.extract 0 ((mn (a1.size : Int) 250) : Int).toNat) t172 (bt177.1.toList != (bt173.1 ++ bt175.1).toList)) else (none)) else (pleacherlaw04_EscapeJoins.j0 k (a0.extract 0 ((ji4) : Int).toNat) (a1.extract 0 ((mn (a1.size : Int) 250) : Int).toNat) t172 true)) else (pleacherlaw04_EscapeJoins.j0 k (a0.extract 0 ((ji4) : Int).toNat) (a1.extract 0 ((mn (a1.size : Int) 250) : Int).toNat) t172 false)) else (pleacherlaw04_EscapeJoins.j0 k (a0.extract 0 ((ji4) : Int).toNat) (a1.extract 0 ((mn (a1.size : Int) 250) : Int).toNat) t172 false))) else (none)))) else (none)) else (none)) else (none)) else (none)) = some r := by first | (rw [hji4] at H; exact H) | (simp only [hji4] at H ⊢; exact H)
  (try rw [hji4] at A3)
  (try (have hji4h : ji4 ≤ 250 := by (rw [← hji4]; unfold mn; (repeat' split) <;> omega)))
  (try (have hji4g : ji4 ≤ 64 := by omega))
  (try (have hji4l : 0 ≤ ji4 := by (rw [← hji4]; unfold mn; (repeat' split) <;> omega)))
  (try (have hji4m : 0 ≤ ji4 := by omega))
  have hji4_ : (if 250 < (a0.size : Int) then 250 else (a0.size : Int)) = ji4 := hji4
  by_cases c5 : 0 ≤ (ji4)
  · rw [if_pos c5] at H
    have c5b0 := eq_true c5
    have c5b1 : decide (0 ≤ (ji4)) = true := decide_eq_true c5
    clear c5
    by_cases c6 : (ji4) ≤ (a0.size : Int)
    · rw [if_pos c6] at H
      have c6b0 := eq_true c6
      have c6b1 : decide ((ji4) ≤ (a0.size : Int)) = true := decide_eq_true c6
      clear c6
      obtain ⟨ji7, hji7⟩ : ∃ j_ : Int, (mn (a1.size : Int) 250) = j_ := ⟨_, rfl⟩
      replace H : (if 0 ≤ (ji7) then (if (ji7) ≤ (a1.size : Int) then ((escape_Put.f (a0.extract 0 ((ji4) : Int).toNat)).bind fun bt173 => ((escape_Put.f (a1.extract 0 ((ji7) : Int).toNat)).bind fun bt175 => (if (a0.extract 0 ((ji4) : Int).toNat).size + (a1.extract 0 ((ji7) : Int).toNat).size ≤ 9223372036854775807 then ((escape_Put.f ((a0.extract 0 ((ji4) : Int).toNat) ++ (a1.extract 0 ((ji7) : Int).toNat))).bind fun bt177 => (if bt173.2 = 0 then (if bt175.2 = 0 then (if bt177.2 = 0 then (if bt173.1.size + bt175.1.size ≤ 9223372036854775807 then (pleacherlaw04_EscapeJoins.j0 k (a0.extract 0 ((ji4) : Int).toNat) (a1.extract 0 ((ji7) : Int).toNat) t172 (bt177.1.toList != (bt173.1 ++ bt175.1).toList)) else (none)) else (pleacherlaw04_EscapeJoins.j0 k (a0.extract 0 ((ji4) : Int).toNat) (a1.extract 0 ((ji7) : Int).toNat) t172 true)) else (pleacherlaw04_EscapeJoins.j0 k (a0.extract 0 ((ji4) : Int).toNat) (a1.extract 0 ((ji7) : Int).toNat) t172 false)) else (pleacherlaw04_EscapeJoins.j0 k (a0.extract 0 ((ji4) : Int).toNat) (a1.extract 0 ((ji7) : Int).toNat) t172 false))) else (none)))) else (none)) else (none)) = some r := by first | (rw [hji7] at H; exact H) | (simp only [hji7] at H ⊢; exact H)
      (try rw [hji7] at A3)
      (try (have hji7h : ji7 ≤ 250 := by (rw [← hji7]; unfold mn; (repeat' split) <;> omega)))
      (try (have hji7g : ji7 ≤ 64 := by omega))
      (try (have hji7l : 0 ≤ ji7 := by (rw [← hji7]; unfold mn; (repeat' split) <;> omega)))
      (try (have hji7m : 0 ≤ ji7 := by omega))
      have hji7_ : (if 250 < (a1.size : Int) then 250 else (a1.size : Int)) = ji7 := hji7
      by_cases c8 : 0 ≤ (ji7)
      · rw [if_pos c8] at H
        have c8b0 := eq_true c8
        have c8b1 : decide (0 ≤ (ji7)) = true := decide_eq_true c8
        clear c8
        by_cases c9 : (ji7) ≤ (a1.size : Int)
        · rw [if_pos c9] at H
          have c9b0 := eq_true c9
          have c9b1 : decide ((ji7) ≤ (a1.size : Int)) = true := decide_eq_true c9
          clear c9
          replace H := Option.bind_eq_some_iff.mp H
          obtain ⟨⟨t173, t174⟩, A100, H⟩ := H
          replace H : ((escape_Put.f (a1.extract 0 ((ji7) : Int).toNat)).bind fun bt175 => (if (a0.extract 0 ((ji4) : Int).toNat).size + (a1.extract 0 ((ji7) : Int).toNat).size ≤ 9223372036854775807 then ((escape_Put.f ((a0.extract 0 ((ji4) : Int).toNat) ++ (a1.extract 0 ((ji7) : Int).toNat))).bind fun bt177 => (if t174 = 0 then (if bt175.2 = 0 then (if bt177.2 = 0 then (if t173.size + bt175.1.size ≤ 9223372036854775807 then (pleacherlaw04_EscapeJoins.j0 k (a0.extract 0 ((ji4) : Int).toNat) (a1.extract 0 ((ji7) : Int).toNat) t172 (bt177.1.toList != (t173 ++ bt175.1).toList)) else (none)) else (pleacherlaw04_EscapeJoins.j0 k (a0.extract 0 ((ji4) : Int).toNat) (a1.extract 0 ((ji7) : Int).toNat) t172 true)) else (pleacherlaw04_EscapeJoins.j0 k (a0.extract 0 ((ji4) : Int).toNat) (a1.extract 0 ((ji7) : Int).toNat) t172 false)) else (pleacherlaw04_EscapeJoins.j0 k (a0.extract 0 ((ji4) : Int).toNat) (a1.extract 0 ((ji7) : Int).toNat) t172 false))) else (none))) = some r := H
          have A10 := Aside0.mk A100
          clear A100
          replace H := Option.bind_eq_some_iff.mp H
          obtain ⟨⟨t175, t176⟩, A110, H⟩ := H
          replace H : (if (a0.extract 0 ((ji4) : Int).toNat).size + (a1.extract 0 ((ji7) : Int).toNat).size ≤ 9223372036854775807 then ((escape_Put.f ((a0.extract 0 ((ji4) : Int).toNat) ++ (a1.extract 0 ((ji7) : Int).toNat))).bind fun bt177 => (if t174 = 0 then (if t176 = 0 then (if bt177.2 = 0 then (if t173.size + t175.size ≤ 9223372036854775807 then (pleacherlaw04_EscapeJoins.j0 k (a0.extract 0 ((ji4) : Int).toNat) (a1.extract 0 ((ji7) : Int).toNat) t172 (bt177.1.toList != (t173 ++ t175).toList)) else (none)) else (pleacherlaw04_EscapeJoins.j0 k (a0.extract 0 ((ji4) : Int).toNat) (a1.extract 0 ((ji7) : Int).toNat) t172 true)) else (pleacherlaw04_EscapeJoins.j0 k (a0.extract 0 ((ji4) : Int).toNat) (a1.extract 0 ((ji7) : Int).toNat) t172 false)) else (pleacherlaw04_EscapeJoins.j0 k (a0.extract 0 ((ji4) : Int).toNat) (a1.extract 0 ((ji7) : Int).toNat) t172 false))) else (none)) = some r := H
          have A11 := Aside0.mk A110
          clear A110
          by_cases c12 : (a0.extract 0 ((ji4) : Int).toNat).size + (a1.extract 0 ((ji7) : Int).toNat).size ≤ 9223372036854775807
          · rw [if_pos c12] at H
            have c12b0 := eq_true c12
            have c12b1 : decide ((a0.extract 0 ((ji4) : Int).toNat).size + (a1.extract 0 ((ji7) : Int).toNat).size ≤ 9223372036854775807) = true := decide_eq_true c12
            try have c12b2 : (9223372036854775807 < (a0.extract 0 ((ji4) : Int).toNat).size + (a1.extract 0 ((ji7) : Int).toNat).size) = False := eq_false (Nat.not_lt.2 c12)
            replace H := Option.bind_eq_some_iff.mp H
            obtain ⟨⟨t177, t178⟩, A130, H⟩ := H
            replace H : (if t174 = 0 then (if t176 = 0 then (if t178 = 0 then (if t173.size + t175.size ≤ 9223372036854775807 then (pleacherlaw04_EscapeJoins.j0 k (a0.extract 0 ((ji4) : Int).toNat) (a1.extract 0 ((ji7) : Int).toNat) t172 (t177.toList != (t173 ++ t175).toList)) else (none)) else (pleacherlaw04_EscapeJoins.j0 k (a0.extract 0 ((ji4) : Int).toNat) (a1.extract 0 ((ji7) : Int).toNat) t172 true)) else (pleacherlaw04_EscapeJoins.j0 k (a0.extract 0 ((ji4) : Int).toNat) (a1.extract 0 ((ji7) : Int).toNat) t172 false)) else (pleacherlaw04_EscapeJoins.j0 k (a0.extract 0 ((ji4) : Int).toNat) (a1.extract 0 ((ji7) : Int).toNat) t172 false)) = some r := H
            have A13 := Aside0.mk A130
            clear A130
            have HC14 := Aside0.mk H
            clear H
            go_enter Tryz.func4, Tryz.ntmps4
            go_upto_region 7 with (first | ((with_reducible refine gate_callee (f := 10) rfl ?_); refine goesL_ (some 21) rfl rfl Tryz.func10 (by kernel_rfl) rfl #[] rfl (by (try simp only [List.map_toArray, List.map_cons, List.map_nil]); first | done | rfl | (simp only [List.length_drop, List.length_take]; rfl)) ?_; (with_reducible refine (pleacherlaw04_shown.calls  t172 _ ?side1 A3.out).mono ?_); (case side1 => exact GW.below HG.out (by repeat (first | (with_reducible first | exact HB.out | apply below_alloc | apply pw_below_drewN | apply below_drew1) | exact HB.out))); rintro e w15 ⟨rfl, hb⟩; refine ⟨_, rfl, ?_⟩; have n0_ := Aside0.mk (below_step (by repeat (first | (with_reducible first | exact HB.out | apply below_alloc | apply pw_below_drewN | apply below_drew1) | exact HB.out)) hb); clear HB; have HB := n0_; clear n0_; (try clear hb); (try clear hb2); (try clear hk); (try clear hi)) | ((with_reducible refine gate_callee (f := 16) rfl ?_); refine goesL_ (some 34) rfl rfl Tryz.func16 (by kernel_rfl) rfl #[.string (a0.extract 0 ((ji4) : Int).toNat)] rfl (by (try simp only [List.map_toArray, List.map_cons, List.map_nil]); first | done | (simp only [hji4]; rfl) | rfl | (simp only [List.length_drop, List.length_take]; rfl)) ?_; (with_reducible refine (escape_Put.calls (a0.extract 0 ((ji4) : Int).toNat) t173 t174 _ A10.out).mono ?_); rintro e w16 ⟨rfl, hb⟩; refine ⟨_, rfl, ?_⟩; have n0_ := Aside0.mk (below_step (by repeat (first | (with_reducible first | exact HB.out | apply below_alloc | apply pw_below_drewN | apply below_drew1) | exact HB.out)) hb); clear HB; have HB := n0_; clear n0_; (try clear hb); (try clear hb2); (try clear hk); (try clear hi)) | ((with_reducible refine gate_callee (f := 16) rfl ?_); refine goesL_ (some 39) rfl rfl Tryz.func16 (by kernel_rfl) rfl #[.string (a1.extract 0 ((ji7) : Int).toNat)] rfl (by (try simp only [List.map_toArray, List.map_cons, List.map_nil]); first | done | (simp only [hji7]; rfl) | rfl | (simp only [List.length_drop, List.length_take]; rfl)) ?_; (with_reducible refine (escape_Put.calls (a1.extract 0 ((ji7) : Int).toNat) t175 t176 _ A11.out).mono ?_); rintro e w17 ⟨rfl, hb⟩; refine ⟨_, rfl, ?_⟩; have n0_ := Aside0.mk (below_step (by repeat (first | (with_reducible first | exact HB.out | apply below_alloc | apply pw_below_drewN | apply below_drew1) | exact HB.out)) hb); clear HB; have HB := n0_; clear n0_; (try clear hb); (try clear hb2); (try clear hk); (try clear hi)) | ((with_reducible refine gate_callee (f := 16) rfl ?_); refine goesL_ (some 46) rfl rfl Tryz.func16 (by kernel_rfl) rfl #[.string ((a0.extract 0 ((ji4) : Int).toNat) ++ (a1.extract 0 ((ji7) : Int).toNat))] rfl (by (try simp only [List.map_toArray, List.map_cons, List.map_nil]); first | done | (simp only [hji4, hji7]; rfl) | rfl | (simp only [List.length_drop, List.length_take]; rfl)) ?_; (with_reducible refine (escape_Put.calls ((a0.extract 0 ((ji4) : Int).toNat) ++ (a1.extract 0 ((ji7) : Int).toNat)) t177 t178 _ A13.out).mono ?_); rintro e w18 ⟨rfl, hb⟩; refine ⟨_, rfl, ?_⟩; have n0_ := Aside0.mk (below_step (by repeat (first | (with_reducible first | exact HB.out | apply below_alloc | apply pw_below_drewN | apply below_drew1) | exact HB.out)) hb); clear HB; have HB := n0_; clear n0_; (try clear hb); (try clear hb2); (try clear hk); (try clear hi)))
            (try simp only [Act.put, List.setIfInBounds_toArray, List.set_cons_zero, List.set_cons_succ])
            try clear c12
            clear c12b0
            clear c12b1
            try clear c12b2
            have hz4 : (a0.extract 0 ((ji4) : Int).toNat).size ≤ 250 := by rw [ByteArray.size_extract]; omega
            have hz7 : (a1.extract 0 ((ji7) : Int).toNat).size ≤ 250 := by rw [ByteArray.size_extract]; omega
            generalize hbd : a0.extract 0 ((ji4) : Int).toNat = bd at A10 A13 HC14 hz4 ⊢
            generalize hbe : a1.extract 0 ((ji7) : Int).toNat = be at A11 A13 HC14 hz7 ⊢
            clear hbd hbe
            go_cut [65] (fun v65 wc => ∃ (kq : Nat) (x65_13 : Bool), v65 = .bool x65_13 ∧ Aside0 (pleacherlaw04_EscapeJoins.j0 kq bd be t172 x65_13 = some r) ∧ Aside0 (kq ≤ k) ∧ Aside0 (Below w.heap.size w wc))
            case first =>
              have H := HC14.out
              clear HC14
              by_cases c19 : t174 = 0
              · rw [if_pos c19] at H
                have c19b0 : (t174 == 0) = true := beq_iff_eq.mpr c19
                have c19b1 : (t174 != 0) = false := bne_eq_false_iff_eq.mpr c19
                clear c19
                (first | rw [c19b0] | (simp only [i64_w, i32_w]; rw [c19b0]) | skip)
                by_cases c20 : t176 = 0
                · rw [if_pos c20] at H
                  have c20b0 : (t176 == 0) = true := beq_iff_eq.mpr c20
                  have c20b1 : (t176 != 0) = false := bne_eq_false_iff_eq.mpr c20
                  clear c20
                  by_cases c21 : t178 = 0
                  · rw [if_pos c21] at H
                    have c21b0 : (t178 == 0) = true := beq_iff_eq.mpr c21
                    have c21b1 : (t178 != 0) = false := bne_eq_false_iff_eq.mpr c21
                    clear c21
                    by_cases c22 : t173.size + t175.size ≤ 9223372036854775807
                    · rw [if_pos c22] at H
                      have c22b0 := eq_true c22
                      have c22b1 : decide (t173.size + t175.size ≤ 9223372036854775807) = true := decide_eq_true c22
                      try have c22b2 : (9223372036854775807 < t173.size + t175.size) = False := eq_false (Nat.not_lt.2 c22)
                      have H' := Aside0.mk H
                      clear H
                      go_wp2
                      go_meet
                      case rel => exact ⟨_, ((t177.toList != (t173 ++ t175).toList)), (by first | rfl | (simp; done) | (simp [*]; done)), H', ⟨by first | omega | exact Nat.le_refl _⟩, ⟨by repeat (first | (with_reducible first | exact HB.out | apply below_alloc | apply pw_below_drewN | apply below_drew1) | exact HB.out)⟩⟩
                    · rw [if_neg c22] at H
                      exact absurd H (by simp)
                  · rw [if_neg c21] at H
                    have c21b0 : (t178 == 0) = false := beq_eq_false_iff_ne.mpr c21
                    have c21b1 : (t178 != 0) = true := bne_iff_ne.mpr c21
                    have H' := Aside0.mk H
                    clear H
                    go_wp2
                    go_meet
                    case rel => exact ⟨_, (true), (by first | rfl | (simp; done) | (simp [*]; done)), H', ⟨by first | omega | exact Nat.le_refl _⟩, ⟨by repeat (first | (with_reducible first | exact HB.out | apply below_alloc | apply pw_below_drewN | apply below_drew1) | exact HB.out)⟩⟩
                · rw [if_neg c20] at H
                  have c20b0 : (t176 == 0) = false := beq_eq_false_iff_ne.mpr c20
                  have c20b1 : (t176 != 0) = true := bne_iff_ne.mpr c20
                  have H' := Aside0.mk H
                  clear H
                  go_wp2
                  go_meet
                  case rel => exact ⟨_, (false), (by first | rfl | (simp; done) | (simp [*]; done)), H', ⟨by first | omega | exact Nat.le_refl _⟩, ⟨by repeat (first | (with_reducible first | exact HB.out | apply below_alloc | apply pw_below_drewN | apply below_drew1) | exact HB.out)⟩⟩
              · rw [if_neg c19] at H
                have c19b0 : (t174 == 0) = false := beq_eq_false_iff_ne.mpr c19
                have c19b1 : (t174 != 0) = true := bne_iff_ne.mpr c19
                (first | rw [c19b0] | (simp only [i64_w, i32_w]; rw [c19b0]) | skip)
                have H' := Aside0.mk H
                clear H
                go_wp2
                go_meet
                case rel => exact ⟨_, (false), (by first | rfl | (simp; done) | (simp [*]; done)), H', ⟨by first | omega | exact Nat.le_refl _⟩, ⟨by repeat (first | (with_reducible first | exact HB.out | apply below_alloc | apply pw_below_drewN | apply below_drew1) | exact HB.out)⟩⟩
            case rest =>
              clear HC14
              try clear c1
              try clear c2
              try clear p2
              try clear c4
              try clear c5
              try clear c5b0
              try clear c5b1
              try clear c6
              try clear c6b0
              try clear c6b1
              try clear c8
              try clear c8b0
              try clear c8b1
              try clear c9
              try clear c9b0
              try clear c9b1
              try clear c10
              try clear c12
              try clear c12b0
              try clear c12b1
              try clear c12b2
              try clear c16
              try clear c19
              try clear c19b0
              try clear c19b1
              try clear c20
              try clear c20b0
              try clear c20b1
              try clear c21
              try clear c21b0
              try clear c21b1
              try clear c22
              try clear c22b0
              try clear c22b1
              try clear c22b2
              obtain ⟨kq, x65_13, rfl, HA, HJ13, HB⟩ := hcut
              cases kq with
              | zero => exact absurd HA.out (by simp [pleacherlaw04_EscapeJoins.j0])
              | succ kj13 =>
                have H := HA.out
                clear HA
                simp only [pleacherlaw04_EscapeJoins.j0] at H
                by_cases c23 : x65_13 = true
                · subst c23
                  have H1 : (some false) = some r := by rw [if_pos rfl] at H; exact H
                  clear H
                  have H := H1
                  clear H1
                  obtain rfl := Option.some.inj H
                  go_wp2
                  go_ret
                  exact ⟨by first | rfl | (simp [errW_none, errW_some] <;> rfl) | (simp only [← hji4, ← hji7]; first | rfl | (simp [errW_none, errW_some] <;> rfl)) | (simp [*, errW_none, errW_some] <;> rfl), by repeat (first | (with_reducible first | exact HB.out | apply below_alloc | apply pw_below_drewN | apply below_drew1) | exact HB.out)⟩
                · replace c23 := Bool.eq_false_iff.mpr c23
                  subst c23
                  have H1 : ((escape_Get.f bd).bind fun bt179 => ((escape_Get.f be).bind fun bt182 => (if bd.size + be.size ≤ 9223372036854775807 then ((escape_Get.f (bd ++ be)).bind fun bt185 => (if bt179.2.2 = 0 then (if bd.toList = ([] : List UInt8) then (pleacherlaw04_EscapeJoins.j1 kj13 bd t172 bt179.1 bt182.1 bt182.2.1 bt182.2.2 bt185.1 bt185.2.1 bt185.2.2 false) else (if 0 ≤ (wrap64 ((bd.size : Int) - 1)) then (if (wrap64 ((bd.size : Int) - 1)) < (bd.size : Int) then (pleacherlaw04_EscapeJoins.j1 kj13 bd t172 bt179.1 bt182.1 bt182.2.1 bt182.2.2 bt185.1 bt185.2.1 bt185.2.2 ((bt bd (wrap64 ((bd.size : Int) - 1))) == 13)) else (none)) else (none))) else (pleacherlaw04_EscapeJoins.j1 kj13 bd t172 bt179.1 bt182.1 bt182.2.1 bt182.2.2 bt185.1 bt185.2.1 bt185.2.2 true))) else (none)))) = some r := by rw [if_neg (show ¬ (false = true) by decide)] at H; exact H
                  clear H
                  have H := H1
                  clear H1
                  replace H := Option.bind_eq_some_iff.mp H
                  obtain ⟨⟨t179, t180, t181⟩, A240, H⟩ := H
                  replace H : ((escape_Get.f be).bind fun bt182 => (if bd.size + be.size ≤ 9223372036854775807 then ((escape_Get.f (bd ++ be)).bind fun bt185 => (if t181 = 0 then (if bd.toList = ([] : List UInt8) then (pleacherlaw04_EscapeJoins.j1 kj13 bd t172 t179 bt182.1 bt182.2.1 bt182.2.2 bt185.1 bt185.2.1 bt185.2.2 false) else (if 0 ≤ (wrap64 ((bd.size : Int) - 1)) then (if (wrap64 ((bd.size : Int) - 1)) < (bd.size : Int) then (pleacherlaw04_EscapeJoins.j1 kj13 bd t172 t179 bt182.1 bt182.2.1 bt182.2.2 bt185.1 bt185.2.1 bt185.2.2 ((bt bd (wrap64 ((bd.size : Int) - 1))) == 13)) else (none)) else (none))) else (pleacherlaw04_EscapeJoins.j1 kj13 bd t172 t179 bt182.1 bt182.2.1 bt182.2.2 bt185.1 bt185.2.1 bt185.2.2 true))) else (none))) = some r := H
                  have A24 := Aside0.mk A240
                  clear A240
                  replace H := Option.bind_eq_some_iff.mp H
                  obtain ⟨⟨t182, t183, t184⟩, A250, H⟩ := H
                  replace H : (if bd.size + be.size ≤ 9223372036854775807 then ((escape_Get.f (bd ++ be)).bind fun bt185 => (if t181 = 0 then (if bd.toList = ([] : List UInt8) then (pleacherlaw04_EscapeJoins.j1 kj13 bd t172 t179 t182 t183 t184 bt185.1 bt185.2.1 bt185.2.2 false) else (if 0 ≤ (wrap64 ((bd.size : Int) - 1)) then (if (wrap64 ((bd.size : Int) - 1)) < (bd.size : Int) then (pleacherlaw04_EscapeJoins.j1 kj13 bd t172 t179 t182 t183 t184 bt185.1 bt185.2.1 bt185.2.2 ((bt bd (wrap64 ((bd.size : Int) - 1))) == 13)) else (none)) else (none))) else (pleacherlaw04_EscapeJoins.j1 kj13 bd t172 t179 t182 t183 t184 bt185.1 bt185.2.1 bt185.2.2 true))) else (none)) = some r := H
                  have A25 := Aside0.mk A250
                  clear A250
                  by_cases c26 : bd.size + be.size ≤ 9223372036854775807
                  · rw [if_pos c26] at H
                    have c26b0 := eq_true c26
                    have c26b1 : decide (bd.size + be.size ≤ 9223372036854775807) = true := decide_eq_true c26
                    try have c26b2 : (9223372036854775807 < bd.size + be.size) = False := eq_false (Nat.not_lt.2 c26)
                    replace H := Option.bind_eq_some_iff.mp H
                    obtain ⟨⟨t185, t186, t187⟩, A270, H⟩ := H
                    replace H : (if t181 = 0 then (if bd.toList = ([] : List UInt8) then (pleacherlaw04_EscapeJoins.j1 kj13 bd t172 t179 t182 t183 t184 t185 t186 t187 false) else (if 0 ≤ (wrap64 ((bd.size : Int) - 1)) then (if (wrap64 ((bd.size : Int) - 1)) < (bd.size : Int) then (pleacherlaw04_EscapeJoins.j1 kj13 bd t172 t179 t182 t183 t184 t185 t186 t187 ((bt bd (wrap64 ((bd.size : Int) - 1))) == 13)) else (none)) else (none))) else (pleacherlaw04_EscapeJoins.j1 kj13 bd t172 t179 t182 t183 t184 t185 t186 t187 true)) = some r := H
                    have A27 := Aside0.mk A270
                    clear A270
                    have HC28 := Aside0.mk H
                    clear H
                    go_upto_region 12 with (first | ((with_reducible refine gate_callee (f := 11) rfl ?_); refine goesL_ (some 68) rfl rfl Tryz.func11 (by kernel_rfl) rfl #[.string bd] rfl (by (try simp only [List.map_toArray, List.map_cons, List.map_nil]); first | done | (simp only [hji4]; rfl) | rfl | (simp only [List.length_drop, List.length_take]; rfl)) ?_; (with_reducible refine (escape_Get.calls bd t179 t180 t181 _ ?side1 A24.out).mono ?_); (case side1 => exact GW.below HG.out (by repeat (first | (with_reducible first | exact HB.out | apply below_alloc | apply pw_below_drewN | apply below_drew1) | exact HB.out))); rintro e w29 ⟨rfl, hb⟩; refine ⟨_, rfl, ?_⟩; have n0_ := Aside0.mk (below_step (by repeat (first | (with_reducible first | exact HB.out | apply below_alloc | apply pw_below_drewN | apply below_drew1) | exact HB.out)) hb); clear HB; have HB := n0_; clear n0_; (try clear hb); (try clear hb2); (try clear hk); (try clear hi)) | ((with_reducible refine gate_callee (f := 11) rfl ?_); refine goesL_ (some 74) rfl rfl Tryz.func11 (by kernel_rfl) rfl #[.string be] rfl (by (try simp only [List.map_toArray, List.map_cons, List.map_nil]); first | done | (simp only [hji7]; rfl) | rfl | (simp only [List.length_drop, List.length_take]; rfl)) ?_; (with_reducible refine (escape_Get.calls be t182 t183 t184 _ ?side1 A25.out).mono ?_); (case side1 => exact GW.below HG.out (by repeat (first | (with_reducible first | exact HB.out | apply below_alloc | apply pw_below_drewN | apply below_drew1) | exact HB.out))); rintro e w30 ⟨rfl, hb⟩; refine ⟨_, rfl, ?_⟩; have n0_ := Aside0.mk (below_step (by repeat (first | (with_reducible first | exact HB.out | apply below_alloc | apply pw_below_drewN | apply below_drew1) | exact HB.out)) hb); clear HB; have HB := n0_; clear n0_; (try clear hb); (try clear hb2); (try clear hk); (try clear hi)) | ((with_reducible refine gate_callee (f := 11) rfl ?_); refine goesL_ (some 82) rfl rfl Tryz.func11 (by kernel_rfl) rfl #[.string (bd ++ be)] rfl (by (try simp only [List.map_toArray, List.map_cons, List.map_nil]); first | done | (simp only [hji4, hji7]; rfl) | rfl | (simp only [List.length_drop, List.length_take]; rfl)) ?_; (with_reducible refine (escape_Get.calls (bd ++ be) t185 t186 t187 _ ?side1 A27.out).mono ?_); (case side1 => exact GW.below HG.out (by repeat (first | (with_reducible first | exact HB.out | apply below_alloc | apply pw_below_drewN | apply below_drew1) | exact HB.out))); rintro e w31 ⟨rfl, hb⟩; refine ⟨_, rfl, ?_⟩; have n0_ := Aside0.mk (below_step (by repeat (first | (with_reducible first | exact HB.out | apply below_alloc | apply pw_below_drewN | apply below_drew1) | exact HB.out)) hb); clear HB; have HB := n0_; clear n0_; (try clear hb); (try clear hb2); (try clear hk); (try clear hi)))
                    (try simp only [Act.put, List.setIfInBounds_toArray, List.set_cons_zero, List.set_cons_succ])
                    go_cut [99] (fun v99 wc => ∃ (kq : Nat) (x99_27 : Bool), v99 = .bool x99_27 ∧ Aside0 (pleacherlaw04_EscapeJoins.j1 kq bd t172 t179 t182 t183 t184 t185 t186 t187 x99_27 = some r) ∧ Aside0 (kq ≤ kj13) ∧ Aside0 (Below w.heap.size w wc))
                    case first =>
                      have H := HC28.out
                      clear HC28
                      by_cases c32 : t181 = 0
                      · rw [if_pos c32] at H
                        have c32b0 : (t181 == 0) = true := beq_iff_eq.mpr c32
                        have c32b1 : (t181 != 0) = false := bne_eq_false_iff_eq.mpr c32
                        clear c32
                        (first | rw [c32b0] | (simp only [i64_w, i32_w]; rw [c32b0]) | skip)
                        by_cases c33 : bd.toList = ([] : List UInt8)
                        · rw [if_pos c33] at H
                          have c33b0 : (bd.toList == ([] : List UInt8)) = true := beq_iff_eq.mpr c33
                          have c33b1 : (bd.toList != ([] : List UInt8)) = false := bne_eq_false_iff_eq.mpr c33
                          clear c33
                          have H' := Aside0.mk H
                          clear H
                          go_wp2
                          go_meet
                          case rel => exact ⟨_, (false), (by first | rfl | (simp; done) | (simp [*]; done)), H', ⟨by have := HJ13.out; first | omega | exact Nat.le_refl _⟩, ⟨by repeat (first | (with_reducible first | exact HB.out | apply below_alloc | apply pw_below_drewN | apply below_drew1) | exact HB.out)⟩⟩
                        · rw [if_neg c33] at H
                          have c33b0 : (bd.toList == ([] : List UInt8)) = false := beq_eq_false_iff_ne.mpr c33
                          have c33b1 : (bd.toList != ([] : List UInt8)) = true := bne_iff_ne.mpr c33
                          obtain ⟨ji34, hji34⟩ : ∃ j_ : Int, (wrap64 ((bd.size : Int) - 1)) = j_ := ⟨_, rfl⟩
                          replace H : (if 0 ≤ (ji34) then (if (ji34) < (bd.size : Int) then (pleacherlaw04_EscapeJoins.j1 kj13 bd t172 t179 t182 t183 t184 t185 t186 t187 ((bt bd (ji34)) == 13)) else (none)) else (none)) = some r := by first | (rw [hji34] at H; exact H) | (simp only [hji34] at H ⊢; exact H)
                          have hji34w : (IntKind.i64.wrap ((bd.size : Int) - 1)) = ji34 := (i64_w _).trans hji34
                          by_cases c35 : 0 ≤ (ji34)
                          · rw [if_pos c35] at H
                            have c35b0 : decide (0 ≤ (ji34)) = true := decide_eq_true c35
                            clear c35
                            by_cases c36 : (ji34) < (bd.size : Int)
                            · rw [if_pos c36] at H
                              have c36b0 : decide ((ji34) < (bd.size : Int)) = true := decide_eq_true c36
                              clear c36
                              have H' := Aside0.mk H
                              clear H
                              have p37 : 0 ≤ ((ji34) : Int) := of_decide_eq_true (by first | (with_reducible assumption) | assumption)
                              have q37 : (ji34) < (bd.size : Int) := of_decide_eq_true (by first | (with_reducible assumption) | assumption)
                              have hx37 := bt_at bd (ji34)
                              replace p37 := eq_true p37
                              replace q37 := eq_true q37
                              go_wp2
                              go_meet
                              case rel => exact ⟨_, (((bt bd (ji34)) == 13)), (by first | rfl | (simp; done) | (simp only [← hji4, ← hji34] <;> (first | rfl | simp)) | (simp [*]; done)), H', ⟨by have := HJ13.out; first | omega | exact Nat.le_refl _⟩, ⟨by repeat (first | (with_reducible first | exact HB.out | apply below_alloc | apply pw_below_drewN | apply below_drew1) | exact HB.out)⟩⟩
                            · rw [if_neg c36] at H
                              exact absurd H (by simp)
                          · rw [if_neg c35] at H
                            exact absurd H (by simp)
                      · rw [if_neg c32] at H
                        have c32b0 : (t181 == 0) = false := beq_eq_false_iff_ne.mpr c32
                        have c32b1 : (t181 != 0) = true := bne_iff_ne.mpr c32
                        (first | rw [c32b0] | (simp only [i64_w, i32_w]; rw [c32b0]) | skip)
                        have H' := Aside0.mk H
                        clear H
                        go_wp2
                        go_meet
                        case rel => exact ⟨_, (true), (by first | rfl | (simp; done) | (simp [*]; done)), H', ⟨by have := HJ13.out; first | omega | exact Nat.le_refl _⟩, ⟨by repeat (first | (with_reducible first | exact HB.out | apply below_alloc | apply pw_below_drewN | apply below_drew1) | exact HB.out)⟩⟩
                    case rest =>
                      clear HC28
                      try clear c1
                      try clear c2
                      try clear p2
                      try clear c3
                      try clear p3
                      try clear q3
                      try clear hx3
                      try clear c4
                      try clear c5
                      try clear c5b0
                      try clear c5b1
                      try clear c6
                      try clear c6b0
                      try clear c6b1
                      try clear p6
                      try clear c8
                      try clear c8b0
                      try clear c8b1
                      try clear c9
                      try clear c9b0
                      try clear c9b1
                      try clear c10
                      try clear c11
                      try clear c12
                      try clear c12b0
                      try clear c12b1
                      try clear c12b2
                      try clear c16
                      try clear c19
                      try clear c19b0
                      try clear c19b1
                      try clear c20
                      try clear c20b0
                      try clear c20b1
                      try clear c21
                      try clear c21b0
                      try clear c21b1
                      try clear c22
                      try clear c22b0
                      try clear c22b1
                      try clear c22b2
                      try clear c23
                      try clear c26
                      try clear c26b0
                      try clear c26b1
                      try clear c26b2
                      try clear c32
                      try clear c32b0
                      try clear c32b1
                      try clear c33
                      try clear c33b0
                      try clear c33b1
                      try clear c35
                      try clear c35b0
                      try clear c36
                      try clear c36b0
                      try clear p37
                      try clear q37
                      try clear hx37
                      try clear p2
                      try clear p37
                      try clear q37
                      obtain ⟨kq, x99_27, rfl, HA, HJ27, HB⟩ := hcut
                      cases kq with
                      | zero => exact absurd HA.out (by simp [pleacherlaw04_EscapeJoins.j1])
                      | succ kj27 =>
                        have H := HA.out
                        clear HA
                        simp only [pleacherlaw04_EscapeJoins.j1] at H
                        by_cases c38 : x99_27 = true
                        · subst c38
                          have H1 : (some t172) = some r := by rw [if_pos rfl] at H; exact H
                          clear H
                          have H := H1
                          clear H1
                          obtain rfl := Option.some.inj H
                          go_wp2
                          go_ret
                          exact ⟨by first | rfl | (simp [errW_none, errW_some] <;> rfl) | (simp only [← hji4, ← hji7]; first | rfl | (simp [errW_none, errW_some] <;> rfl)) | (simp [*, errW_none, errW_some] <;> rfl), by repeat (first | (with_reducible first | exact HB.out | apply below_alloc | apply pw_below_drewN | apply below_drew1) | exact HB.out)⟩
                        · replace c38 := Bool.eq_false_iff.mpr c38
                          subst c38
                          have H1 : (if t184 = 0 then (if t172 = true then (if t187 = 0 then (if t179.size + t182.size ≤ 9223372036854775807 then (some (t185.toList == (t179 ++ t182).toList)) else (none)) else (some false)) else (some false)) else (if t172 = true then (if t187 = t184 then (some (t186 == (wrap64 ((bd.size : Int) + t183)))) else (some false)) else (some false))) = some r := by rw [if_neg (show ¬ (false = true) by decide)] at H; exact H
                          clear H
                          have H := H1
                          clear H1
                          by_cases c39 : t184 = 0
                          · rw [if_pos c39] at H
                            have c39b0 : (t184 == 0) = true := beq_iff_eq.mpr c39
                            have c39b1 : (t184 != 0) = false := bne_eq_false_iff_eq.mpr c39
                            clear c39
                            by_cases c40 : t172 = true
                            · subst c40
                              have H1 : (if t187 = 0 then (if t179.size + t182.size ≤ 9223372036854775807 then (some (t185.toList == (t179 ++ t182).toList)) else (none)) else (some false)) = some r := by rw [if_pos rfl] at H; exact H
                              clear H
                              have H := H1
                              clear H1
                              by_cases c41 : t187 = 0
                              · rw [if_pos c41] at H
                                have c41b0 : (t187 == 0) = true := beq_iff_eq.mpr c41
                                have c41b1 : (t187 != 0) = false := bne_eq_false_iff_eq.mpr c41
                                clear c41
                                by_cases c42 : t179.size + t182.size ≤ 9223372036854775807
                                · rw [if_pos c42] at H
                                  have c42b0 := eq_true c42
                                  have c42b1 : decide (t179.size + t182.size ≤ 9223372036854775807) = true := decide_eq_true c42
                                  try have c42b2 : (9223372036854775807 < t179.size + t182.size) = False := eq_false (Nat.not_lt.2 c42)
                                  obtain rfl := Option.some.inj H
                                  go_wp2
                                  go_ret
                                  exact ⟨by first | rfl | (simp [errW_none, errW_some] <;> rfl) | (simp only [← hji4, ← hji7]; first | rfl | (simp [errW_none, errW_some] <;> rfl)) | (simp [*, errW_none, errW_some] <;> rfl), by repeat (first | (with_reducible first | exact HB.out | apply below_alloc | apply pw_below_drewN | apply below_drew1) | exact HB.out)⟩
                                · rw [if_neg c42] at H
                                  exact absurd H (by simp)
                              · rw [if_neg c41] at H
                                have c41b0 : (t187 == 0) = false := beq_eq_false_iff_ne.mpr c41
                                have c41b1 : (t187 != 0) = true := bne_iff_ne.mpr c41
                                obtain rfl := Option.some.inj H
                                go_wp2
                                go_ret
                                exact ⟨by first | rfl | (simp [errW_none, errW_some] <;> rfl) | (simp only [← hji4, ← hji7]; first | rfl | (simp [errW_none, errW_some] <;> rfl)) | (simp [*, errW_none, errW_some] <;> rfl), by repeat (first | (with_reducible first | exact HB.out | apply below_alloc | apply pw_below_drewN | apply below_drew1) | exact HB.out)⟩
                            · replace c40 := Bool.eq_false_iff.mpr c40
                              subst c40
                              have H1 : (some false) = some r := by rw [if_neg (show ¬ (false = true) by decide)] at H; exact H
                              clear H
                              have H := H1
                              clear H1
                              obtain rfl := Option.some.inj H
                              go_wp2
                              go_ret
                              exact ⟨by first | rfl | (simp [errW_none, errW_some] <;> rfl) | (simp only [← hji4, ← hji7]; first | rfl | (simp [errW_none, errW_some] <;> rfl)) | (simp [*, errW_none, errW_some] <;> rfl), by repeat (first | (with_reducible first | exact HB.out | apply below_alloc | apply pw_below_drewN | apply below_drew1) | exact HB.out)⟩
                          · rw [if_neg c39] at H
                            have c39b0 : (t184 == 0) = false := beq_eq_false_iff_ne.mpr c39
                            have c39b1 : (t184 != 0) = true := bne_iff_ne.mpr c39
                            by_cases c43 : t172 = true
                            · subst c43
                              have H1 : (if t187 = t184 then (some (t186 == (wrap64 ((bd.size : Int) + t183)))) else (some false)) = some r := by rw [if_pos rfl] at H; exact H
                              clear H
                              have H := H1
                              clear H1
                              by_cases c44 : t187 = t184
                              · rw [if_pos c44] at H
                                have c44b0 : (t187 == t184) = true := beq_iff_eq.mpr c44
                                have c44b1 : (t187 != t184) = false := bne_eq_false_iff_eq.mpr c44
                                clear c44
                                obtain rfl := Option.some.inj H
                                go_wp2
                                go_ret
                                exact ⟨by first | rfl | (simp [errW_none, errW_some] <;> rfl) | (simp only [← hji4, ← hji7]; first | rfl | (simp [errW_none, errW_some] <;> rfl)) | (simp [*, errW_none, errW_some] <;> rfl), by repeat (first | (with_reducible first | exact HB.out | apply below_alloc | apply pw_below_drewN | apply below_drew1) | exact HB.out)⟩
                              · rw [if_neg c44] at H
                                have c44b0 : (t187 == t184) = false := beq_eq_false_iff_ne.mpr c44
                                have c44b1 : (t187 != t184) = true := bne_iff_ne.mpr c44
                                obtain rfl := Option.some.inj H
                                go_wp2
                                go_ret
                                exact ⟨by first | rfl | (simp [errW_none, errW_some] <;> rfl) | (simp only [← hji4, ← hji7]; first | rfl | (simp [errW_none, errW_some] <;> rfl)) | (simp [*, errW_none, errW_some] <;> rfl), by repeat (first | (with_reducible first | exact HB.out | apply below_alloc | apply pw_below_drewN | apply below_drew1) | exact HB.out)⟩
                            · replace c43 := Bool.eq_false_iff.mpr c43
                              subst c43
                              have H1 : (some false) = some r := by rw [if_neg (show ¬ (false = true) by decide)] at H; exact H
                              clear H
                              have H := H1
                              clear H1
                              obtain rfl := Option.some.inj H
                              go_wp2
                              go_ret
                              exact ⟨by first | rfl | (simp [errW_none, errW_some] <;> rfl) | (simp only [← hji4, ← hji7]; first | rfl | (simp [errW_none, errW_some] <;> rfl)) | (simp [*, errW_none, errW_some] <;> rfl), by repeat (first | (with_reducible first | exact HB.out | apply below_alloc | apply pw_below_drewN | apply below_drew1) | exact HB.out)⟩
                  · rw [if_neg c26] at H
                    exact absurd H (by simp)
          · rw [if_neg c12] at H
            exact absurd H (by simp)
        · rw [if_neg c9] at H
          exact absurd H (by simp)
      · rw [if_neg c8] at H
        exact absurd H (by simp)
    · rw [if_neg c6] at H
      exact absurd H (by simp)
  · rw [if_neg c5] at H
    exact absurd H (by simp)

end Go.Proofs.YtbcjhmeeonhmaaaGreatDoor.M
end

/-
EscapeJoins: what the law computes is true.
-/
section
set_option linter.unusedVariables false
set_option maxRecDepth 100000
namespace Go.Proofs.YtbcjhmeeonhmaaaGreatDoor.H
open Go Go.RowKit Go.Proofs.YtbcjhmeeonhmaaaGreatDoorW.PrintWords Go.Proofs.YtbcjhmeeonhmaaaGreatDoorW.PrintMore Go.Proofs.YtbcjhmeeonhmaaaGreatDoor.M
/-- What is wrong is no 0, and it stands in the text. -/
theorem eg_bad : ∀ (k : Nat) (s : ByteArray) (why : Int) (m : Nat), s.size ≤ k → (eg s).2 = some (why, m) → why ≠ 0 ∧ m ≤ s.size := by
  intro k
  induction k with
  | zero => intro s why m hs h; rw [eg_nil (by omega)] at h; cases h
  | succ k ih =>
    intro s why m hs h
    by_cases h0 : s.size = 0
    · rw [eg_nil h0] at h; cases h
    · cases hr : runeE s with
      | error w =>
        rw [eg_err h0 hr] at h
        injection h with h
        injection h with h1 h2
        subst h1 h2
        refine ⟨?_, Nat.le_refl _⟩
        unfold runeE at hr
        by_cases c1 : (decR s).2.2 ≠ 0
        · rw [if_pos c1] at hr; injection hr with hr; rw [← hr]; decide
        rw [if_neg c1] at hr
        by_cases c2 : (decR s).1 = 60
        · rw [if_pos c2] at hr; injection hr with hr; rw [← hr]; decide
        rw [if_neg c2] at hr
        by_cases c3 : isCharS (decR s).1 = false
        · rw [if_pos c3] at hr; injection hr with hr; rw [← hr]; decide
        rw [if_neg c3] at hr
        by_cases c4 : (decR s).1 = 38
        · rw [if_pos c4] at hr
          by_cases c5 : (refS s).2.2 ≠ 0
          · rw [if_pos c5] at hr; injection hr with hr; rw [← hr]; exact c5
          · rw [if_neg c5] at hr; cases hr
        · rw [if_neg c4] at hr; cases hr
      | ok x =>
        obtain ⟨out, n⟩ := x
        have hb := runeE_bd hr
        rw [eg_ok hr] at h
        have := ih (s.extract n s.size) why m (by rw [ByteArray.size_extract]; omega) h
        rw [ByteArray.size_extract] at this
        exact ⟨this.1, by omega⟩
theorem egS_zero (s : ByteArray) : ((egS s).2.2 = 0 ↔ (eg s).2 = none) := by
  unfold egS
  cases h : (eg s).2 with
  | none => simp
  | some z =>
    obtain ⟨a, b⟩ := z
    have := (eg_bad _ s a b (Nat.le_refl _) h).1
    simp [this]
theorem eg_len : ∀ (k : Nat) (s : ByteArray), s.size ≤ k → (eg s).1.size ≤ 4 * s.size := by
  intro k
  induction k with
  | zero => intro s hs; rw [eg_nil (by omega)]; exact Nat.zero_le _
  | succ k ih =>
    intro s hs
    by_cases h0 : s.size = 0
    · rw [eg_nil h0]; exact Nat.zero_le _
    · cases hr : runeE s with
      | error w => rw [eg_err h0 hr]; exact Nat.zero_le _
      | ok x =>
        obtain ⟨out, n⟩ := x
        have hb := runeE_bd hr
        have := ih (s.extract n s.size) (by rw [ByteArray.size_extract]; omega)
        rw [ByteArray.size_extract] at this
        rw [eg_ok hr, ByteArray.size_append]
        omega
theorem egS_len (s : ByteArray) : (egS s).1.size ≤ 4 * s.size := by
  have := eg_len _ s (Nat.le_refl _)
  unfold egS
  cases (eg s).2 with
  | none => exact this
  | some z => exact Nat.zero_le _
/-- TWO RAW TEXTS TOGETHER. -/
theorem egS_app {s : ByteArray} (t : ByteArray) (h : (egS s).2.2 = 0) (hl : s.data.toList.getLast? ≠ some 13) :
    ((egS t).2.2 = 0 → egS (s ++ t) = ((egS s).1 ++ (egS t).1, 0, 0)) ∧ ((egS t).2.2 ≠ 0 → (egS (s ++ t)).2.2 = (egS t).2.2 ∧ (egS (s ++ t)).2.1 = (s.size : Int) + (egS t).2.1) := by
  rw [egS_zero] at h
  have ha := eg_app _ s t (Nat.le_refl _) h hl
  have e1 : (egS s).1 = (eg s).1 := by unfold egS; rw [h]
  constructor
  · intro ht
    rw [egS_zero] at ht
    have e2 : (egS t).1 = (eg t).1 := by unfold egS; rw [ht]
    rw [e1, e2]
    unfold egS
    rw [ha]
    simp only [ht]
  · intro ht
    have ht' : (eg t).2 ≠ none := fun e => ht ((egS_zero t).2 e)
    cases hz : (eg t).2 with
    | none => exact absurd hz ht'
    | some z =>
      obtain ⟨a, b⟩ := z
      unfold egS
      rw [ha]
      simp only [hz]
      refine ⟨trivial, ?_⟩
      rw [ByteArray.size_append]
      omega
theorem joins_1 (k : Nat) (s t : ByteArray) (hs : s.size ≤ 250) (ht : t.size ≤ 250) (b : Bool) (hb : b = false → (egS s).2.2 = 0 ∧ s.data.toList.getLast? ≠ some 13) :
    pleacherlaw04_EscapeJoins.j1 (k + 1) s true (egS s).1 (egS t).1 (egS t).2.1 (egS t).2.2 (egS (s ++ t)).1 (egS (s ++ t)).2.1 (egS (s ++ t)).2.2 b = some true := by
  rw [pleacherlaw04_EscapeJoins.j1]
  cases b with
  | true => rfl
  | false =>
    obtain ⟨h1, h2⟩ := hb rfl
    obtain ⟨y, n⟩ := egS_app t h1 h2
    have l1 := egS_len s
    have l2 := egS_len t
    rw [if_neg (by decide)]
    by_cases h : (egS t).2.2 = 0
    · rw [if_pos h, if_pos rfl, y h, if_pos rfl, if_pos (by omega)]
      simp
    · obtain ⟨n1, n2⟩ := n h
      have hbd : -1000 ≤ (s.size : Int) + (egS t).2.1 ∧ (s.size : Int) + (egS t).2.1 ≤ 1000 := by
        have : 0 ≤ (egS t).2.1 ∧ (egS t).2.1 ≤ t.size := by
          unfold egS
          cases hz : (eg t).2 with
          | none => exact ⟨Int.le_refl 0, Int.natCast_nonneg _⟩
          | some z =>
            obtain ⟨a, b⟩ := z
            have := (eg_bad _ t a b (Nat.le_refl _) hz).2
            simp only []
            omega
        omega
      rw [if_neg h, if_pos rfl, n1, if_pos rfl, n2, w64 (by omega) (by omega)]
      simp
theorem joins_0 (k : Nat) (s t : ByteArray) (hs : s.size ≤ 250) (ht : t.size ≤ 250) : pleacherlaw04_EscapeJoins.j0 (k + 2) s t true false = some true := by
  have hl := size_data s
  rw [pleacherlaw04_EscapeJoins.j0, if_neg (by decide), get_f _ (by omega), Option.bind_some, get_f _ (by omega), Option.bind_some, if_pos (by omega), get_f _ (by rw [ByteArray.size_append]; omega), Option.bind_some]
  by_cases h : (egS s).2.2 = 0
  · rw [if_pos h]
    by_cases he : s.toList = ([] : List UInt8)
    · rw [if_pos he]
      rw [toList_data] at he
      exact joins_1 k s t hs ht false (fun _ => ⟨h, by rw [he]; simp⟩)
    · have hz : s.size ≠ 0 := by
        intro e
        apply he
        rw [toList_data]
        exact List.eq_nil_of_length_eq_zero (by omega)
      have hw : wrap64 ((s.size : Int) - 1) = ((s.size - 1 : Nat) : Int) := by rw [w64 (by omega) (by omega)]; omega
      rw [if_neg he, hw, if_pos (by omega), if_pos (by omega)]
      refine joins_1 k s t hs ht _ (fun hb => ⟨h, fun hlast => ?_⟩)
      rw [List.getLast?_eq_getElem?, hl] at hlast
      have := bt_list s (s.size - 1) 13 hlast
      rw [this] at hb
      revert hb; decide
  · rw [if_neg h]
    exact joins_1 k s t hs ht true (fun e => by cases e)
theorem escapeJoins_f (a b : ByteArray) : pleacherlaw04_EscapeJoins.f 2100 a b = some true := by
  unfold pleacherlaw04_EscapeJoins.f
  have h0 := mn_le (a.size : Int) 250
  have h1 := mn_le (b.size : Int) 250
  obtain ⟨s, hs⟩ : ∃ s, a.extract 0 ((mn (a.size : Int) 250)).toNat = s := ⟨_, rfl⟩
  obtain ⟨t, ht⟩ : ∃ t, b.extract 0 ((mn (b.size : Int) 250)).toNat = t := ⟨_, rfl⟩
  have zs : s.size ≤ 250 := by rw [← hs, ByteArray.size_extract]; omega
  have zt : t.size ≤ 250 := by rw [← ht, ByteArray.size_extract]; omega
  have hls := size_data s
  have hlt := size_data t
  rw [shown_f, Option.bind_some, if_pos (by omega), if_pos (by omega), if_pos (by omega), if_pos (by omega), hs, ht, put_f _ (by omega), Option.bind_some, put_f _ (by omega), Option.bind_some, if_pos (by omega), put_f _ (by rw [ByteArray.size_append]; omega), Option.bind_some]
  have j := joins_0 2098 s t zs zt
  by_cases e1 : isTextS s = true
  · by_cases e2 : isTextS t = true
    · have e3 := isText_app e1 e2
      have b1 := escT_size s.data.toList
      have b2 := escT_size t.data.toList
      rw [put_text e1, put_text e2, put_text e3, if_pos rfl, if_pos rfl, if_pos rfl, if_pos (by rw [B_size, B_size]; omega), app_list, escT_app, B_app]
      rw [show ((B (escT s.data.toList) ++ B (escT t.data.toList)).toList != (B (escT s.data.toList) ++ B (escT t.data.toList)).toList) = false from by simp]
      exact j
    · rw [put_text e1, put_none e2, if_pos rfl, if_neg (by decide)]
      exact j
  · rw [put_none e1, if_neg (by decide)]
    exact j
end Go.Proofs.YtbcjhmeeonhmaaaGreatDoor.H
end

/-
The row and card of EscapeJoins.
-/
section
set_option linter.unusedVariables false
set_option linter.unusedSimpArgs false
set_option maxRecDepth 100000
namespace Go.Proofs.YtbcjhmeeonhmaaaGreatDoor.H
open Go Go.ChangeShapes Go.WideShapes Go.ChangeAt Go.RowKit Go.Proofs.YtbcjhmeeonhmaaaGreatDoorW.PrintWords Go.Proofs.YtbcjhmeeonhmaaaGreatDoorW.PrintMore Go.Proofs.YtbcjhmeeonhmaaaGreatDoor.M

theorem eJ_contract (H : Type) (enc : TypeId × Value → H) (W : World) (base : Nat) (args : Array Value) (ds gs : List (DataW H)) (before : List MemPlace)
    (hval : ∀ (j : Nat) t v, Tryz.f4.params[j]? = some t → args[j]? = some v → Value.okWide Tryz.prog W .any base t v)
    (hW : DataW.Whole enc Tryz.prog Tryz.f4.params.toList Rows.escapeJoinsSpec.vars false W args.toList ds gs before) (hL : laidMetH Tryz.prog Rows.escapeJoinsRow.laid W) (hsh : W.ShapedOpen Tryz.prog) :
    Calls Tryz.prog 4 args W fun e W' => ∃ v, e = .returned v ∧ Rows.escapeJoinsSpec.post enc Tryz.prog Tryz.f4 false true false false W args v W' := by
  have hW' := hW
  have hlt := hW.lt
  obtain ⟨p, q, hA0, hV, rfl, hfz, hnd⟩ := hW
  have hA : DataW.TrodAll enc Tryz.prog W 0 (fun _ => true) true Tryz.f4.params.toList args.toList ds p := hA0
  rw [Tryz.params4] at hA hval
  obtain ⟨v0, vs0, d0, ds0, p0, q0, hargs, rfl, rfl, h0, r0⟩ := trodAll_cons hA
  obtain ⟨v1, vs1, d1, ds1, p1, q1, hargs1, rfl, rfl, h1, r1⟩ := trodAll_cons r0
  obtain ⟨rfl, rfl, rfl⟩ := trodAll_nil r1
  obtain rfl : args = #[v0, v1] := by cases args; simp_all
  obtain ⟨rfl, rfl⟩ := trodVars_none hV
  obtain ⟨n0, rfl, _⟩ := Go.ChangeMaps.open_string Tryz.underlying9 (hval 0 9 v0 rfl rfl) h0
  obtain ⟨n1, rfl, _⟩ := Go.ChangeMaps.open_string Tryz.underlying9 (hval 1 9 v1 rfl rfl) h1
  refine (pleacherlaw04_EscapeJoins.calls 2100 n0 n1 true W (gw_of_laid (laidA hL) hsh) (escapeJoins_f n0 n1)).mono fun e W' ⟨he, hb⟩ => ?_
  subst he
  refine ⟨_, rfl, post_true hW' rfl (by kernel_rfl) ⟨rfl, rfl, rfl⟩ (pa := p0 ++ (p1 ++ [])) ?_ hb (by simp)⟩
  rw [Tryz.params4]
  exact trodAll_cons_mk (Below.trod laidOutA readS rowsS h0 hb (fun x hx => hlt x (by simp [hx]))) (trodAll_cons_mk (Below.trod laidOutA readS rowsS h1 hb (fun x hx => hlt x (by simp [hx]))) trodAll_mk0)
/-- The witness' arguments. -/
def eJ_wargs : Array Value := #[.string ⟨#[]⟩, .string ⟨#[]⟩]
theorem eJ_reads (os : Os) {H : Type} (enc : TypeId × Value → H) : ∃ places, DataW.whole enc Tryz.prog ((World.doorLaid Tryz.prog 200 os).forCall (fun _ _ => 0) ⟨#[], eJ_wargs, []⟩).memory Tryz.f4.params.toList Rows.escapeJoinsSpec.vars false eJ_wargs.toList 8 = some ([.lit (.string []), .lit (.string [])], [], places) :=
  ⟨[], by kernel_rfl⟩
/-- THE ROW's STEP. -/
theorem eJ_lifted (os : Os) (started : os.Started) (H : Type) (enc : TypeId × Value → H) (F : Stop.Interp) :
    ReturnsInHanded {} Tryz.checked os 4 .any ((OpenSpec.ofChange Rows.escapeJoinsSpec).preRow enc Tryz.prog Tryz.f4 Rows.escapeJoinsRow.domain false Rows.escapeJoinsRow.laid) (((OpenSpec.ofChange Rows.escapeJoinsSpec).at F).post enc Tryz.prog Tryz.f4 false true false false) := by
  obtain ⟨places, hx⟩ := eJ_reads os enc
  refine returnsInHanded_of_row (C := Tryz.checked) (s := OpenSpec.ofChange Rows.escapeJoinsSpec) own started (by kernel_rfl) Tryz.func4
    (witness_row_atRef (enc := enc) (C := Tryz.checked) false (World.doorLaid Tryz.prog 200 os) eJ_wargs rfl (by kernel_rfl) (by kernel_rfl) (by kernel_rfl)
      (OpenSpec.preRow_of_cond 8 hx (by kernel_rfl) (fun k hk => by cases hk) (by kernel_rfl) (doorA os _))) ?_
  intro W base args ds gs before hval hW _ _ _ hL hsh _
  exact eJ_contract H enc W base args ds gs before hval hW hL hsh
theorem eJ_said : Rows.EscapeJoinsSaid :=
  OpenClaim.holds_of_cond 4 Tryz.f4 rfl rfl rfl rfl rfl rfl rfl ⟨rfl, rfl, rfl, rfl, rfl⟩ rfl rfl rfl rfl rfl (by kernel_rfl) Tryz.func4 (by kernel_rfl)
    (of_decide_eq_true (by kernel_rfl)) (by unfold Func.isWrapper; first | (rw [if_pos (by decide +kernel)]; kernel_rfl) | (rw [if_neg (by decide +kernel)]; exact ⟨rfl, rfl⟩))
    (fun os started H enc _ F => by rw [OpenClaim.pre_eq_preRow]; exact eJ_lifted os started H enc F)
theorem eJ_plain (f : FuncId) (fn : Func) (hf : Tryz.pinned.checked.prog.funcNamed "pleacher/pleacherlaw04.EscapeJoins" = some f) (hfn : Tryz.pinned.checked.prog.funcs[f]? = some fn) :
    true = Tryz.pinned.checked.prog.looks [] ∧ ∀ (j : Nat) t, fn.params[j]? = some t → Tryz.pinned.checked.prog.wantsStandIn t = false := by
  obtain rfl : f = 4 := Option.some.inj ((show Tryz.prog.funcNamed "pleacher/pleacherlaw04.EscapeJoins" = some 4 by kernel_rfl).symm.trans hf) |>.symm
  obtain rfl : fn = Tryz.f4 := (Option.some.inj (Tryz.func4.symm.trans hfn)).symm
  refine ⟨by kernel_rfl, fun j t ht => ?_⟩
  rw [Tryz.params4] at ht
  have ht := Array.mem_of_getElem? ht
  obtain rfl : t = 9 := by simpa using ht
  exact (show Tryz.prog.wantsStandIn 9 = false by kernel_rfl)
/-- THE CARD of EscapeJoins. -/
theorem eJ_card : Rows.EscapeJoinsCardSaid :=
  Claim7.holds_tied_plain_at .later [] _ _ _ _ eJ_said (fun _ h => by cases h) (by kernel_rfl) (fun _ h => by cases h) escapeJoins_row_tie rfl ⟨rfl, rfl⟩ (by kernel_rfl) rfl eJ_plain (by kernel_rfl)
end Go.Proofs.YtbcjhmeeonhmaaaGreatDoor.H
end
