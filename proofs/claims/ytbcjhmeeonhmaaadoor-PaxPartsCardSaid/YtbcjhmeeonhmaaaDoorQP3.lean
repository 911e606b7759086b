/-
The statement about PaxParts, as a card: for every argument the law's answer is 'true'. There is no condition.
-/
import Derived.Test.YtbcjhmeeonhmaaaDoorQP2
set_option linter.unusedVariables false
set_option linter.unusedSimpArgs false
-- Laid by a program of this session for this claim.
section
namespace Go.Proofs.YtbcjhmeeonhmaaaDoor.M
open Go.RowKit Go.Proofs.YtbcjhmeeonhmaaaDoorW.PrintWords Go.Proofs.YtbcjhmeeonhmaaaDoorW.PrintLast Go.Proofs.YtbcjhmeeonhmaaaDoorW.PrintMore
attribute [local go_sem] max2_int min2_int max_two min_two max_three min_three max_four min_four   -- for this text's walks alone
set_option linter.unusedVariables false
set_option linter.unusedSimpArgs false

/-! ### pleacherlaw09_PaxParts: function 7 -/
def pleacherlaw09_PaxParts.l0 : Nat → List (S31) → List (S31) → Bool → ByteArray → Int → ByteArray → Int → ByteArray → Int → Bool → Int → Option (Bool)
  | 0, _, _, _, _, _, _, _, _, _, _, _ => none
  | k + 1, x0, x1, x5, x6, x7, x8, x9, x11, x12, x13, x14 => if x14 < (x0.length : Int) then (if 0 ≤ x14 then ((pax_Find.f k x1 ((rd_T31 x0 x14).f0)).bind fun bt327 => (if x13 = true then (pleacherlaw09_PaxParts.l0 k x0 x1 x5 x6 x7 x8 x9 x11 x12 (!bt327.2) (wrap64 (x14 + 1))) else (pleacherlaw09_PaxParts.l0 k x0 x1 x5 x6 x7 x8 x9 x11 x12 false (wrap64 (x14 + 1))))) else (none)) else (if x7 = 0 then (if x9 = 0 then (if x13 = true then (if x5 = true then (if x12 = 0 then (if x6.size + x8.size ≤ 9223372036854775807 then (some (x11.toList == (x6 ++ x8).toList)) else (none)) else (some false)) else (some false)) else (if x5 = true then (if x12 = 90 then (some (x11.toList == ([] : List UInt8))) else (some false)) else (some false))) else (if x5 = true then (if x12 = 90 then (some (x11.toList == ([] : List UInt8))) else (some false)) else (some false))) else (if x5 = true then (if x12 = 90 then (some (x11.toList == ([] : List UInt8))) else (some false)) else (some false)))
def pleacherlaw09_PaxParts.f (k : Nat) (l0 : List (S31)) (l1 : List (S31)) : Option (Bool) := (pleacherlaw09_shown.f).bind fun t299 => (if 0 ≤ (mn (l0.length : Int) 15) then (if (mn (l0.length : Int) 15) ≤ (l0.length : Int) then ((pleacherlaw09_Few.f k (l0.take ((mn (l0.length : Int) 15) : Int).toNat)).bind fun t304 => (if 0 ≤ (mn (l1.length : Int) 15) then (if (mn (l1.length : Int) 15) ≤ (l1.length : Int) then ((pleacherlaw09_Few.f k (l1.take ((mn (l1.length : Int) 15) : Int).toNat)).bind fun t311 => ((pax_Put.f t304).bind fun bt314 => ((pax_Put.f t311).bind fun bt316 => (if ([] : List (S31)).length + t304.length < 4398046511104 then ((some (([] : List (S31)) ++ t304 : List (S31))).bind fun y318 => (if y318.length + t311.length < 4398046511104 then ((pax_Put.f (y318 ++ t311)).bind fun bt324 => (pleacherlaw09_PaxParts.l0 k t304 t311 t299 bt314.1 bt314.2 bt316.1 bt316.2 bt324.1 bt324.2 true 0)) else (none))) else (none))))) else (none)) else (none))) else (none)) else (none))
set_option maxHeartbeats 8000000 in
set_option maxRecDepth 100000 in
theorem pleacherlaw09_PaxParts.calls (k : Nat) (A0 : Option Addr) (c0 : Nat) (l0 : List (S31)) (A1 : Option Addr) (c1 : Nat) (l1 : List (S31)) (r : Bool) (w : World) (hr0 : Kd.C k31 w A0 l0.length l0) (hc0 : l0.length ≤ c0) (hr1 : Kd.C k31 w A1 l1.length l1) (hc1 : l1.length ≤ c1) (hG : GW w) (h : pleacherlaw09_PaxParts.f k l0 l1 = some r) :
    Calls Tryd.prog 7 #[.slice A0 l0.length c0, .slice A1 l1.length c1] w fun e w' => e = .returned (.bool r) ∧ Below w.heap.size w w' := by
  have HG := Aside0.mk hG
  clear hG
  have HR0 := Aside0.mk hr0
  have HC0 := Aside0.mk hc0
  clear hr0 hc0
  have HR1 := Aside0.mk hr1
  have HC1 := Aside0.mk hc1
  clear hr1 hc1
  have HB := Aside0.mk (Below.refl w.heap.size w)
  have H : ((pleacherlaw09_shown.f).bind fun t299 => (if 0 ≤ (mn (l0.length : Int) 15) then (if (mn (l0.length : Int) 15) ≤ (l0.length : Int) then ((pleacherlaw09_Few.f k (l0.take ((mn (l0.length : Int) 15) : Int).toNat)).bind fun t304 => (if 0 ≤ (mn (l1.length : Int) 15) then (if (mn (l1.length : Int) 15) ≤ (l1.length : Int) then ((pleacherlaw09_Few.f k (l1.take ((mn (l1.length : Int) 15) : Int).toNat)).bind fun t311 => ((pax_Put.f t304).bind fun bt314 => ((pax_Put.f t311).bind fun bt316 => (if ([] : List (S31)).length + t304.length < 4398046511104 then ((some (([] : List (S31)) ++ t304 : List (S31))).bind fun y318 => (if y318.length + t311.length < 4398046511104 then ((pax_Put.f (y318 ++ t311)).bind fun bt324 => (pleacherlaw09_PaxParts.l0 k t304 t311 t299 bt314.1 bt314.2 bt316.1 bt316.2 bt324.1 bt324.2 true 0)) else (none))) else (none))))) else (none)) else (none))) else (none)) else (none))) = some r := h
  clear h
  replace H := Option.bind_eq_some_iff.mp H
  obtain ⟨t299, A30, H⟩ := H
  replace H : (if 0 ≤ (mn (l0.length : Int) 15) then (if (mn (l0.length : Int) 15) ≤ (l0.length : Int) then ((pleacherlaw09_Few.f k (l0.take ((mn (l0.length : Int) 15) : Int).toNat)).bind fun t304 => (if 0 ≤ (mn (l1.length : Int) 15) then (if (mn (l1.length : Int) 15) ≤ (l1.length : Int) then ((pleacherlaw09_Few.f k (l1.take ((mn (l1.length : Int) 15) : Int).toNat)).bind fun t311 => ((pax_Put.f t304).bind fun bt314 => ((pax_Put.f t311).bind fun bt316 => (if ([] : List (S31)).length + t304.length < 4398046511104 then ((some (([] : List (S31)) ++ t304 : List (S31))).bind fun y318 => (if y318.length + t311.length < 4398046511104 then ((pax_Put.f (y318 ++ t311)).bind fun bt324 => (pleacherlaw09_PaxParts.l0 k t304 t311 t299 bt314.1 bt314.2 bt316.1 bt316.2 bt324.1 bt324.2 true 0)) else (none))) else (none))))) else (none)) else (none))) else (none)) else (none)) = some r := H
  have A3 := Aside0.mk A30
  clear A30
  obtain ⟨ji4, hji4⟩ : ∃ j_ : Int, (mn (l0.length : Int) 15) = j_ := ⟨_, rfl⟩
  replace H : (if 0 ≤ (ji4) then (if (ji4) ≤ (l0.length : Int) then ((pleacherlaw09_Few.f k (l0.take ((ji4) : Int).toNat)).bind fun t304 => (if 0 ≤ (mn (l1.length : Int) 15) then (if (mn (l1.length : Int) 15) ≤ (l1.length : Int) then ((pleacherlaw09_Few.f k (l1.take ((mn (l1.length : Int) 15) : Int).toNat)).bind fun t311 => ((pax_Put.f t304).bind fun bt314 => ((pax_Put.f t311).bind fun bt316 => (if ([] : List (S31)).length + t304.length < 4398046511104 then ((some (([] : List (S31)) ++ t304 : List (S31))).bind fun y318 => (if y318.length + t311.length < 4398046511104 then ((pax_Put.f (y318 ++ t311)).bind fun bt324 => (pleacherlaw09_PaxParts.l0 k t304 t311 t299 bt314.1 bt314.2 bt316.1 bt316.2 bt324.1 bt324.2 true 0)) else (none))) else (none))))) else (none)) else (none))) else (none)) else (none)) = some r := by first | (rw [hji4] at H; exact H) | (simp only [hji4] at H ⊢; exact H)
  (try rw [hji4] at A3)
  (try (have hji4h : ji4 ≤ 15 := by (rw [← hji4]; unfold mn; (repeat' split) <;> omega)))
  (try (have hji4g : ji4 ≤ 64 := by omega))
  (try (have hji4l : 0 ≤ ji4 := by (rw [← hji4]; unfold mn; (repeat' split) <;> omega)))
  (try (have hji4m : 0 ≤ ji4 := by omega))
  have hji4_ : (if 15 < (l0.length : Int) then 15 else (l0.length : Int)) = ji4 := hji4
  by_cases c5 : 0 ≤ (ji4)
  · rw [if_pos c5] at H
    have c5b0 := eq_true c5
    have c5b1 : decide (0 ≤ (ji4)) = true := decide_eq_true c5
    clear c5
    by_cases c6 : (ji4) ≤ (l0.length : Int)
    · rw [if_pos c6] at H
      have c6b0 := eq_true c6
      have c6b1 : decide ((ji4) ≤ (l0.length : Int)) = true := decide_eq_true c6
      clear c6
      obtain ⟨y300, hy300⟩ : ∃ y_ : List (S31), y_ = (l0.take ((ji4) : Int).toNat) := ⟨_, rfl⟩
      replace H : ((pleacherlaw09_Few.f k y300).bind fun t304 => (if 0 ≤ (mn (l1.length : Int) 15) then (if (mn (l1.length : Int) 15) ≤ (l1.length : Int) then ((pleacherlaw09_Few.f k (l1.take ((mn (l1.length : Int) 15) : Int).toNat)).bind fun t311 => ((pax_Put.f t304).bind fun bt314 => ((pax_Put.f t311).bind fun bt316 => (if ([] : List (S31)).length + t304.length < 4398046511104 then ((some (([] : List (S31)) ++ t304 : List (S31))).bind fun y318 => (if y318.length + t311.length < 4398046511104 then ((pax_Put.f (y318 ++ t311)).bind fun bt324 => (pleacherlaw09_PaxParts.l0 k t304 t311 t299 bt314.1 bt314.2 bt316.1 bt316.2 bt324.1 bt324.2 true 0)) else (none))) else (none))))) else (none)) else (none))) = some r := by first | (rw [hy300]; with_reducible exact H) | (have H2_ := (Option.bind_some _ _).symm.trans H; rw [hy300]; with_reducible exact H2_) | (have H2_ := (Option.bind_some _ _).symm.trans H; with_reducible exact H2_) | with_reducible exact H | (rw [hy300]; exact H) | exact H
      have Ny300 := Aside0.mk hy300
      clear hy300
      replace H := Option.bind_eq_some_iff.mp H
      obtain ⟨t304, A70, H⟩ := H
      replace H : (if 0 ≤ (mn (l1.length : Int) 15) then (if (mn (l1.length : Int) 15) ≤ (l1.length : Int) then ((pleacherlaw09_Few.f k (l1.take ((mn (l1.length : Int) 15) : Int).toNat)).bind fun t311 => ((pax_Put.f t304).bind fun bt314 => ((pax_Put.f t311).bind fun bt316 => (if ([] : List (S31)).length + t304.length < 4398046511104 then ((some (([] : List (S31)) ++ t304 : List (S31))).bind fun y318 => (if y318.length + t311.length < 4398046511104 then ((pax_Put.f (y318 ++ t311)).bind fun bt324 => (pleacherlaw09_PaxParts.l0 k t304 t311 t299 bt314.1 bt314.2 bt316.1 bt316.2 bt324.1 bt324.2 true 0)) else (none))) else (none))))) else (none)) else (none)) = some r := H
      have A7 := Aside0.mk A70
      clear A70
      obtain ⟨ji8, hji8⟩ : ∃ j_ : Int, (mn (l1.length : Int) 15) = j_ := ⟨_, rfl⟩
      replace H : (if 0 ≤ (ji8) then (if (ji8) ≤ (l1.length : Int) then ((pleacherlaw09_Few.f k (l1.take ((ji8) : Int).toNat)).bind fun t311 => ((pax_Put.f t304).bind fun bt314 => ((pax_Put.f t311).bind fun bt316 => (if ([] : List (S31)).length + t304.length < 4398046511104 then ((some (([] : List (S31)) ++ t304 : List (S31))).bind fun y318 => (if y318.length + t311.length < 4398046511104 then ((pax_Put.f (y318 ++ t311)).bind fun bt324 => (pleacherlaw09_PaxParts.l0 k t304 t311 t299 bt314.1 bt314.2 bt316.1 bt316.2 bt324.1 bt324.2 true 0)) else (none))) else (none))))) else (none)) else (none)) = some r := by first | (rw [hji8] at H; exact H) | (simp only [hji8] at H ⊢; exact H)
      (try rw [hji8] at A3)
      (try rw [hji8] at A7)
      (try (have hji8h : ji8 ≤ 15 := by (rw [← hji8]; unfold mn; (repeat' split) <;> omega)))
      (try (have hji8g : ji8 ≤ 64 := by omega))
      (try (have hji8l : 0 ≤ ji8 := by (rw [← hji8]; unfold mn; (repeat' split) <;> omega)))
      (try (have hji8m : 0 ≤ ji8 := by omega))
      have hji8_ : (if 15 < (l1.length : Int) then 15 else (l1.length : Int)) = ji8 := hji8
      by_cases c9 : 0 ≤ (ji8)
      · rw [if_pos c9] at H
        have c9b0 := eq_true c9
        have c9b1 : decide (0 ≤ (ji8)) = true := decide_eq_true c9
        clear c9
        by_cases c10 : (ji8) ≤ (l1.length : Int)
        · rw [if_pos c10] at H
          have c10b0 := eq_true c10
          have c10b1 : decide ((ji8) ≤ (l1.length : Int)) = true := decide_eq_true c10
          clear c10
          obtain ⟨y307, hy307⟩ : ∃ y_ : List (S31), y_ = (l1.take ((ji8) : Int).toNat) := ⟨_, rfl⟩
          replace H : ((pleacherlaw09_Few.f k y307).bind fun t311 => ((pax_Put.f t304).bind fun bt314 => ((pax_Put.f t311).bind fun bt316 => (if ([] : List (S31)).length + t304.length < 4398046511104 then ((some (([] : List (S31)) ++ t304 : List (S31))).bind fun y318 => (if y318.length + t311.length < 4398046511104 then ((pax_Put.f (y318 ++ t311)).bind fun bt324 => (pleacherlaw09_PaxParts.l0 k t304 t311 t299 bt314.1 bt314.2 bt316.1 bt316.2 bt324.1 bt324.2 true 0)) else (none))) else (none))))) = some r := by first | (rw [hy307]; with_reducible exact H) | (have H2_ := (Option.bind_some _ _).symm.trans H; rw [hy307]; with_reducible exact H2_) | (have H2_ := (Option.bind_some _ _).symm.trans H; with_reducible exact H2_) | with_reducible exact H | (rw [hy307]; exact H) | exact H
          have Ny307 := Aside0.mk hy307
          clear hy307
          replace H := Option.bind_eq_some_iff.mp H
          obtain ⟨t311, A110, H⟩ := H
          replace H : ((pax_Put.f t304).bind fun bt314 => ((pax_Put.f t311).bind fun bt316 => (if ([] : List (S31)).length + t304.length < 4398046511104 then ((some (([] : List (S31)) ++ t304 : List (S31))).bind fun y318 => (if y318.length + t311.length < 4398046511104 then ((pax_Put.f (y318 ++ t311)).bind fun bt324 => (pleacherlaw09_PaxParts.l0 k t304 t311 t299 bt314.1 bt314.2 bt316.1 bt316.2 bt324.1 bt324.2 true 0)) else (none))) else (none)))) = some r := H
          have A11 := Aside0.mk A110
          clear A110
          replace H := Option.bind_eq_some_iff.mp H
          obtain ⟨⟨t314, t315⟩, A120, H⟩ := H
          replace H : ((pax_Put.f t311).bind fun bt316 => (if ([] : List (S31)).length + t304.length < 4398046511104 then ((some (([] : List (S31)) ++ t304 : List (S31))).bind fun y318 => (if y318.length + t311.length < 4398046511104 then ((pax_Put.f (y318 ++ t311)).bind fun bt324 => (pleacherlaw09_PaxParts.l0 k t304 t311 t299 t314 t315 bt316.1 bt316.2 bt324.1 bt324.2 true 0)) else (none))) else (none))) = some r := H
          have A12 := Aside0.mk A120
          clear A120
          replace H := Option.bind_eq_some_iff.mp H
          obtain ⟨⟨t316, t317⟩, A130, H⟩ := H
          replace H : (if ([] : List (S31)).length + t304.length < 4398046511104 then ((some (([] : List (S31)) ++ t304 : List (S31))).bind fun y318 => (if y318.length + t311.length < 4398046511104 then ((pax_Put.f (y318 ++ t311)).bind fun bt324 => (pleacherlaw09_PaxParts.l0 k t304 t311 t299 t314 t315 t316 t317 bt324.1 bt324.2 true 0)) else (none))) else (none)) = some r := H
          have A13 := Aside0.mk A130
          clear A130
          by_cases c14 : ([] : List (S31)).length + t304.length < 4398046511104
          · rw [if_pos c14] at H
            have LMc14 := Aside0.mk c14
            clear c14
            obtain ⟨y318, hy318⟩ : ∃ y_ : List (S31), y_ = (([] : List (S31)) ++ t304) := ⟨_, rfl⟩
            replace H : (if y318.length + t311.length < 4398046511104 then ((pax_Put.f (y318 ++ t311)).bind fun bt324 => (pleacherlaw09_PaxParts.l0 k t304 t311 t299 t314 t315 t316 t317 bt324.1 bt324.2 true 0)) else (none)) = some r := by first | (rw [hy318]; with_reducible exact H) | (have H2_ := (Option.bind_some _ _).symm.trans H; rw [hy318]; with_reducible exact H2_) | (have H2_ := (Option.bind_some _ _).symm.trans H; with_reducible exact H2_) | with_reducible exact H | (rw [hy318]; exact H) | exact H
            have Ny318 := Aside0.mk hy318
            clear hy318
            by_cases c15 : y318.length + t311.length < 4398046511104
            · rw [if_pos c15] at H
              have LMc15 := Aside0.mk c15
              clear c15
              obtain ⟨y321, hy321⟩ : ∃ y_ : List (S31), y_ = (y318 ++ t311) := ⟨_, rfl⟩
              replace H : ((pax_Put.f y321).bind fun bt324 => (pleacherlaw09_PaxParts.l0 k t304 t311 t299 t314 t315 t316 t317 bt324.1 bt324.2 true 0)) = some r := by first | (rw [hy321]; with_reducible exact H) | (have H2_ := (Option.bind_some _ _).symm.trans H; rw [hy321]; with_reducible exact H2_) | (have H2_ := (Option.bind_some _ _).symm.trans H; with_reducible exact H2_) | with_reducible exact H | (rw [hy321]; exact H) | exact H
              have Ny321 := Aside0.mk hy321
              clear hy321
              replace H := Option.bind_eq_some_iff.mp H
              obtain ⟨⟨t324, t325⟩, A160, H⟩ := H
              replace H : (pleacherlaw09_PaxParts.l0 k t304 t311 t299 t314 t315 t316 t317 t324 t325 true 0) = some r := H
              have A16 := Aside0.mk A160
              clear A160
              have H' := Aside0.mk H
              clear H
              go_enter Tryd.func7, Tryd.ntmps7
              go_wp2_with (first | ((with_reducible refine gate_callee (f := 9) rfl ?_); refine goesL_ (some 17) rfl rfl Tryd.func9 (by kernel_rfl) rfl #[] rfl (by (try simp only [List.map_toArray, List.map_cons, List.map_nil]); first | done | rfl | (simp only [List.length_drop, List.length_take]; rfl)) ?_; (with_reducible refine (pleacherlaw09_shown.calls  t299 _ ?side1 A3.out).mono ?_); (case side1 => exact GW.below HG.out (by repeat (first | (with_reducible first | exact HB.out | apply below_alloc | apply pw_below_drewN | apply below_drew1) | exact HB.out))); rintro e w17 ⟨rfl, hb⟩; refine ⟨_, rfl, ?_⟩; have n0_ := Aside0.mk (below_step (by repeat (first | (with_reducible first | exact HB.out | apply below_alloc | apply pw_below_drewN | apply below_drew1) | exact HB.out)) hb); clear HB; have HB := n0_; clear n0_; (try clear hb); (try clear hb2); (try clear hk); (try clear hi); have q18 : ((ji4) : Int) ≤ ((l0.length : Int) : Int) := of_decide_eq_true (by first | (with_reducible assumption) | assumption); obtain ⟨i018, hi018, _, hsz18, _⟩ := info_parts info31; have hroom18 : l0.length ≤ c0 := HC0.out; have hC18 : Kd.C k31 _ A0 l0.length l0 := HR0.out; have hcut18 := cut_to (P := Tryd.prog) 23 31 .i64 Tryd.underlying23 hi018 A0 l0.length c0 (ji4) (of_decide_eq_true (by first | (with_reducible assumption) | assumption)) q18 hroom18; have hr18 := Kd.C_take (m := ((ji4) : Int).toNat) hC18 (by omega); have hy18 : y300.length = ((ji4) : Int).toNat := (by rw [Ny300.out, List.length_take]; omega); rw [← Ny300.out] at hr18; rw [← hy18] at hcut18; have HR303 := Aside0.mk hr18; have HC303 := Aside0.mk (show y300.length ≤ c0 from by omega); clear hr18 hC18 hroom18 hi018 hsz18; have KY18 := Aside0.mk hy18; clear hy18; replace q18 := eq_true q18) | ((with_reducible refine gate_callee (f := 16) rfl ?_); refine goesL_ (some 23) rfl rfl Tryd.func16 (by kernel_rfl) rfl #[.slice A0 y300.length c0] rfl (by (try simp only [List.map_toArray, List.map_cons, List.map_nil]); first | done | rfl | (simp only [List.length_drop, List.length_take]; rfl)) ?_; (with_reducible refine (pleacherlaw09_Few.calls k _ _ y300 t304 _ ?side1 ?side2 A7.out).mono ?_); (case side1 => repeat (first | exact (Kd.C_below HR303.out HB.out) | (with_reducible refine Kd.C_alloc ?_ _) | (with_reducible refine Kd.C_drewN ?_ _) | (with_reducible refine Kd.C_drew ?_))); (case side2 => exact HC303.out); rintro e w19 ⟨v305, rfl, ho0, hb⟩; refine ⟨_, rfl, ?_⟩; have n0_ := Aside0.mk (Kd.R_lower ho0 (below_size (by repeat (first | (with_reducible first | exact HB.out | apply below_alloc | apply pw_below_drewN | apply below_drew1) | exact HB.out)))); have n1_ := Aside0.mk (below_step (by repeat (first | (with_reducible first | exact HB.out | apply below_alloc | apply pw_below_drewN | apply below_drew1) | exact HB.out)) hb); clear HB; have HO306 := n0_; have HB := n1_; clear n0_ n1_; (try clear hb); (try clear hb2); (try clear hk); (try clear hi); (try clear ho0); have q20 : ((ji8) : Int) ≤ ((l1.length : Int) : Int) := of_decide_eq_true (by first | (with_reducible assumption) | assumption); obtain ⟨i020, hi020, _, hsz20, _⟩ := info_parts info31; have hroom20 : l1.length ≤ c1 := HC1.out; have hC20 : Kd.C k31 _ A1 l1.length l1 := HR1.out; have hcut20 := cut_to (P := Tryd.prog) 23 31 .i64 Tryd.underlying23 hi020 A1 l1.length c1 (ji8) (of_decide_eq_true (by first | (with_reducible assumption) | assumption)) q20 hroom20; have hr20 := Kd.C_take (m := ((ji8) : Int).toNat) hC20 (by omega); have hy20 : y307.length = ((ji8) : Int).toNat := (by rw [Ny307.out, List.length_take]; omega); rw [← Ny307.out] at hr20; rw [← hy20] at hcut20; have HR310 := Aside0.mk hr20; have HC310 := Aside0.mk (show y307.length ≤ c1 from by omega); clear hr20 hC20 hroom20 hi020 hsz20; have KY20 := Aside0.mk hy20; clear hy20; replace q20 := eq_true q20) | ((with_reducible refine gate_callee (f := 16) rfl ?_); refine goesL_ (some 29) rfl rfl Tryd.func16 (by kernel_rfl) rfl #[.slice A1 y307.length c1] rfl (by (try simp only [List.map_toArray, List.map_cons, List.map_nil]); first | done | rfl | (simp only [List.length_drop, List.length_take]; rfl)) ?_; (with_reducible refine (pleacherlaw09_Few.calls k _ _ y307 t311 _ ?side1 ?side2 A11.out).mono ?_); (case side1 => repeat (first | exact (Kd.C_below HR310.out HB.out) | (with_reducible refine Kd.C_alloc ?_ _) | (with_reducible refine Kd.C_drewN ?_ _) | (with_reducible refine Kd.C_drew ?_))); (case side2 => exact HC310.out); rintro e w21 ⟨v312, rfl, ho0, hb⟩; refine ⟨_, rfl, ?_⟩; have n0_ := Aside0.mk (Kd.R_elder' (by (with_reducible repeat (first | apply Kd.R_alloc | apply Kd.R_drewN | apply Kd.R_drew)); exact HO306.out) (Kd.R_base ho0) hb); have n1_ := Aside0.mk (Kd.R_lower (Kd.R_new' ho0 (Kd.R_lt (by (with_reducible repeat (first | apply Kd.R_alloc | apply Kd.R_drewN | apply Kd.R_drew)); exact HO306.out))) (below_size (by repeat (first | (with_reducible first | exact HB.out | apply below_alloc | apply pw_below_drewN | apply below_drew1) | exact HB.out)))); have n2_ := Aside0.mk (below_step (by repeat (first | (with_reducible first | exact HB.out | apply below_alloc | apply pw_below_drewN | apply below_drew1) | exact HB.out)) hb); clear HO306; clear HB; have HO306 := n0_; have HO313 := n1_; have HB := n2_; clear n0_ n1_ n2_; (try clear hb); (try clear hb2); (try clear hk); (try clear hi); (try clear ho0); obtain ⟨Ao22, co22, eo22⟩ := Kd.R_slice HO306.out; subst eo22) | ((with_reducible refine gate_callee (f := 17) rfl ?_); refine goesL_ (some 32) rfl rfl Tryd.func17 (by kernel_rfl) rfl #[.slice Ao22 t304.length co22] rfl (by (try simp only [List.map_toArray, List.map_cons, List.map_nil]); first | done | rfl | (simp only [List.length_drop, List.length_take]; rfl)) ?_; (with_reducible refine (pax_Put.calls _ _ t304 t314 t315 _ ?side1 ?side2 A12.out).mono ?_); (case side1 => repeat (first | exact (Kd.R_reads' HO306.out).2.2 | (with_reducible refine Kd.C_alloc ?_ _) | (with_reducible refine Kd.C_drewN ?_ _) | (with_reducible refine Kd.C_drew ?_))); (case side2 => exact (Kd.R_reads' HO306.out).2.1); rintro e w23 ⟨rfl, hb⟩; refine ⟨_, rfl, ?_⟩; have n0_ := Aside0.mk (Kd.R_below (by (with_reducible repeat (first | apply Kd.R_alloc | apply Kd.R_drewN | apply Kd.R_drew)); exact HO306.out) hb); have n1_ := Aside0.mk (Kd.R_below (by (with_reducible repeat (first | apply Kd.R_alloc | apply Kd.R_drewN | apply Kd.R_drew)); exact HO313.out) hb); have n2_ := Aside0.mk (below_step (by repeat (first | (with_reducible first | exact HB.out | apply below_alloc | apply pw_below_drewN | apply below_drew1) | exact HB.out)) hb); clear HO306; clear HO313; clear HB; have HO306 := n0_; have HO313 := n1_; have HB := n2_; clear n0_ n1_ n2_; (try clear hb); (try clear hb2); (try clear hk); (try clear hi); obtain ⟨Ao24, co24, eo24⟩ := Kd.R_slice HO313.out; subst eo24) | ((with_reducible refine gate_callee (f := 17) rfl ?_); refine goesL_ (some 37) rfl rfl Tryd.func17 (by kernel_rfl) rfl #[.slice Ao24 t311.length co24] rfl (by (try simp only [List.map_toArray, List.map_cons, List.map_nil]); first | done | rfl | (simp only [List.length_drop, List.length_take]; rfl)) ?_; (with_reducible refine (pax_Put.calls _ _ t311 t316 t317 _ ?side1 ?side2 A13.out).mono ?_); (case side1 => repeat (first | exact (Kd.R_reads' HO313.out).2.2 | (with_reducible refine Kd.C_alloc ?_ _) | (with_reducible refine Kd.C_drewN ?_ _) | (with_reducible refine Kd.C_drew ?_))); (case side2 => exact (Kd.R_reads' HO313.out).2.1); rintro e w25 ⟨rfl, hb⟩; refine ⟨_, rfl, ?_⟩; have n0_ := Aside0.mk (Kd.R_below (by (with_reducible repeat (first | apply Kd.R_alloc | apply Kd.R_drewN | apply Kd.R_drew)); exact HO306.out) hb); have n1_ := Aside0.mk (Kd.R_below (by (with_reducible repeat (first | apply Kd.R_alloc | apply Kd.R_drewN | apply Kd.R_drew)); exact HO313.out) hb); have n2_ := Aside0.mk (below_step (by repeat (first | (with_reducible first | exact HB.out | apply below_alloc | apply pw_below_drewN | apply below_drew1) | exact HB.out)) hb); clear HO306; clear HO313; clear HB; have HO306 := n0_; have HO313 := n1_; have HB := n2_; clear n0_ n1_ n2_; (try clear hb); (try clear hb2); (try clear hk); (try clear hi)) | ((with_reducible refine gate_builtin (b := .append) (xs := #[.tmp 40, .tmp 41]) rfl ?_); at_builtin; refine Kd.R_append_rows k31 (w0 := w) w.heap.size rfl (.tmp 40) (.tmp 41) 23 31 (.agg #[(.string ⟨#[]⟩), (.string ⟨#[]⟩)]) 32 rfl Tryd.underlying23 info31 rfl (by decide) (by omega) (.slice none 0 0) ([] : List (S31)) t304 _ _ _ (fun k_ => some k_ ≠ (.slice Ao22 t304.length co22 : Value).ownBlock ∧ some k_ ≠ (.slice Ao24 t311.length co24 : Value).ownBlock) (fun _ => False) rfl rfl ?aO ?aR (fun _ _ h => h) (fun _ h => h.elim) ?aF ?aB ?aS ?aL ?_; (case aR => repeat (first | exact (Kd.R_reads' HO306.out).2.2 | (with_reducible refine Kd.C_alloc ?_ _) | (with_reducible refine Kd.C_drewN ?_ _) | (with_reducible refine Kd.C_drew ?_))); (case aB => exact (by repeat (first | (with_reducible first | exact HB.out | apply below_alloc | apply pw_below_drewN | apply below_drew1) | exact HB.out))); (case aF => exact (fun k_ hk => ⟨Kd.fresh' (Kd.R_lt (by (with_reducible repeat (first | apply Kd.R_alloc | apply Kd.R_drewN | apply Kd.R_drew)); exact HO306.out)) k_ hk, Kd.fresh' (Kd.R_lt (by (with_reducible repeat (first | apply Kd.R_alloc | apply Kd.R_drewN | apply Kd.R_drew)); exact HO313.out)) k_ hk⟩)); (case aO => exact ((Kd.R_nil _ _ _ _ (fun k_ => some k_ ≠ (.slice Ao22 t304.length co22 : Value).ownBlock ∧ some k_ ≠ (.slice Ao24 t311.length co24 : Value).ownBlock)))); (case aS => exact (below_size (by repeat (first | (with_reducible first | exact HB.out | apply below_alloc | apply pw_below_drewN | apply below_drew1) | exact HB.out)))); (case aL => have := LMc14.out; omega); intro v319 w26 ho hb hg hat; rw [← Ny318.out] at ho; have n0_ := Aside0.mk (Kd.R_after (Kd.R_apart_nil (by (with_reducible repeat (first | apply Kd.R_alloc | apply Kd.R_drewN | apply Kd.R_drew)); exact HO306.out)) hg hat); have n1_ := Aside0.mk (Kd.R_after (Kd.R_apart_nil (by (with_reducible repeat (first | apply Kd.R_alloc | apply Kd.R_drewN | apply Kd.R_drew)); exact HO313.out)) hg hat); have n2_ := Aside0.mk (hb); have n3_ := Aside0.mk (ho); clear HO306; clear HO313; clear HB; have HO306 := n0_; have HO313 := n1_; have HB := n2_; have HO320 := n3_; clear n0_ n1_ n2_ n3_; clear ho hb hg hat) | ((with_reducible refine gate_builtin (b := .append) (xs := #[.tmp 42, .tmp 43]) rfl ?_); at_builtin; refine Kd.R_append_rows k31 (w0 := w) w.heap.size rfl (.tmp 42) (.tmp 43) 23 31 (.agg #[(.string ⟨#[]⟩), (.string ⟨#[]⟩)]) 32 rfl Tryd.underlying23 info31 rfl (by decide) (by omega) v319 y318 t311 _ _ _ (fun k_ => some k_ ≠ (.slice Ao22 t304.length co22 : Value).ownBlock ∧ some k_ ≠ (.slice Ao24 t311.length co24 : Value).ownBlock) (fun _ => False) rfl rfl ?aO ?aR (fun _ _ h => h) (fun _ h => h.elim) ?aF ?aB ?aS ?aL ?_; (case aR => repeat (first | exact (Kd.R_reads' HO313.out).2.2 | (with_reducible refine Kd.C_alloc ?_ _) | (with_reducible refine Kd.C_drewN ?_ _) | (with_reducible refine Kd.C_drew ?_))); (case aB => exact (by repeat (first | (with_reducible first | exact HB.out | apply below_alloc | apply pw_below_drewN | apply below_drew1) | exact HB.out))); (case aF => exact (fun k_ hk => ⟨Kd.fresh' (Kd.R_lt (by (with_reducible repeat (first | apply Kd.R_alloc | apply Kd.R_drewN | apply Kd.R_drew)); exact HO306.out)) k_ hk, Kd.fresh' (Kd.R_lt (by (with_reducible repeat (first | apply Kd.R_alloc | apply Kd.R_drewN | apply Kd.R_drew)); exact HO313.out)) k_ hk⟩)); (case aO => exact (by (with_reducible repeat (first | apply Kd.R_alloc | apply Kd.R_drewN | apply Kd.R_drew)); exact HO320.out)); (case aS => exact (below_size (by repeat (first | (with_reducible first | exact HB.out | apply below_alloc | apply pw_below_drewN | apply below_drew1) | exact HB.out)))); (case aL => have := LMc15.out; omega); intro v322 w27 ho hb hg hat; rw [← Ny321.out] at ho; have n0_ := Aside0.mk (Kd.R_after (ok := (fun k_ => some k_ ≠ (.slice Ao24 t311.length co24 : Value).ownBlock)) (by (with_reducible repeat (first | apply Kd.R_alloc | apply Kd.R_drewN | apply Kd.R_drew)); exact Kd.R_mono HO306.out (fun _ hk => ⟨hk.1.2, hk.2⟩)) hg hat); have n1_ := Aside0.mk (Kd.R_after (ok := (fun k_ => some k_ ≠ (.slice Ao22 t304.length co22 : Value).ownBlock)) (by (with_reducible repeat (first | apply Kd.R_alloc | apply Kd.R_drewN | apply Kd.R_drew)); exact Kd.R_mono HO313.out (fun _ hk => ⟨hk.1.2, hk.2⟩)) hg hat); have n2_ := Aside0.mk (hb); have n3_ := Aside0.mk (ho); clear HO306; clear HO313; clear HB; clear HO320; have HO306 := n0_; have HO313 := n1_; have HB := n2_; have HO323 := n3_; clear n0_ n1_ n2_ n3_; clear ho hb hg hat; obtain ⟨Ao28, co28, eo28⟩ := Kd.R_slice HO323.out; subst eo28) | ((with_reducible refine gate_callee (f := 17) rfl ?_); refine goesL_ (some 47) rfl rfl Tryd.func17 (by kernel_rfl) rfl #[.slice Ao28 y321.length co28] rfl (by (try simp only [List.map_toArray, List.map_cons, List.map_nil]); first | done | rfl | (simp only [List.length_drop, List.length_take]; rfl)) ?_; (with_reducible refine (pax_Put.calls _ _ y321 t324 t325 _ ?side1 ?side2 A16.out).mono ?_); (case side1 => repeat (first | exact (Kd.R_reads' HO323.out).2.2 | (with_reducible refine Kd.C_alloc ?_ _) | (with_reducible refine Kd.C_drewN ?_ _) | (with_reducible refine Kd.C_drew ?_))); (case side2 => exact (Kd.R_reads' HO323.out).2.1); rintro e w29 ⟨rfl, hb⟩; refine ⟨_, rfl, ?_⟩; have n0_ := Aside0.mk (Kd.R_below (by (with_reducible repeat (first | apply Kd.R_alloc | apply Kd.R_drewN | apply Kd.R_drew)); exact HO306.out) hb); have n1_ := Aside0.mk (Kd.R_below (by (with_reducible repeat (first | apply Kd.R_alloc | apply Kd.R_drewN | apply Kd.R_drew)); exact HO313.out) hb); have n2_ := Aside0.mk (Kd.R_below (by (with_reducible repeat (first | apply Kd.R_alloc | apply Kd.R_drewN | apply Kd.R_drew)); exact HO323.out) hb); have n3_ := Aside0.mk (below_step (by repeat (first | (with_reducible first | exact HB.out | apply below_alloc | apply pw_below_drewN | apply below_drew1) | exact HB.out)) hb); clear HO306; clear HO313; clear HO323; clear HB; have HO306 := n0_; have HO313 := n1_; have HO323 := n2_; have HB := n3_; clear n0_ n1_ n2_ n3_; (try clear hb); (try clear hb2); (try clear hk); (try clear hi)))
              go_loopg [13, 14] k (fun kq v13 v14 w' => ∃ (x13_1 : Bool) (x14_1 : Int), v13 = .bool x13_1 ∧ v14 = .int .i64 x14_1 ∧ Aside0 (pleacherlaw09_PaxParts.l0 kq t304 t311 t299 t314 t315 t316 t317 t324 t325 x13_1 x14_1 = some r) ∧ Aside0 (kq ≤ k) ∧ Aside0 (Kd.R k31 31 w' w.heap.size (fun k_ => some k_ ≠ ((.slice Ao24 t311.length co24) : Value).ownBlock) (.slice Ao22 t304.length co22) t304) ∧ Aside0 (Kd.R k31 31 w' w.heap.size (fun k_ => some k_ ≠ ((.slice Ao22 t304.length co22) : Value).ownBlock) (.slice Ao24 t311.length co24) t311) ∧ Aside0 (Below w.heap.size w w'))
              case atStart => exact ⟨(true), (0), (by first | rfl | (simp; done) | (simp [*]; done)), (by first | rfl | (simp; done) | (simp [*]; done)), H', ⟨Nat.le_refl _⟩, ⟨by (with_reducible repeat (first | apply Kd.R_alloc | apply Kd.R_drewN | apply Kd.R_drew)); exact Kd.R_mono HO306.out (fun _ hk => hk.1)⟩, ⟨by (with_reducible repeat (first | apply Kd.R_alloc | apply Kd.R_drewN | apply Kd.R_drew)); exact Kd.R_mono HO313.out (fun _ hk => hk.1)⟩, ⟨by repeat (first | (with_reducible first | exact HB.out | apply below_alloc | apply pw_below_drewN | apply below_drew1) | exact HB.out)⟩⟩
              case round =>
                clear H'
                try clear c1
                try clear q1
                try clear p2
                try clear q2
                try clear c5
                try clear c5b0
                try clear c5b1
                try clear c6
                try clear c6b0
                try clear c6b1
                try clear c7
                try clear c9
                try clear c9b0
                try clear c9b1
                try clear c10
                try clear c10b0
                try clear c10b1
                try clear c14
                try clear c15
                try clear c16
                try clear c17
                try clear q18
                try clear q20
                try clear q18
                try clear q20
                obtain ⟨x13_1, x14_1, rfl, rfl, HA, HK1, HO_0, HO_1, HB⟩ := hrel
                cases gk with
                | zero => exact absurd HA.out (by simp [pleacherlaw09_PaxParts.l0])
                | succ k1 =>
                  have H := HA.out
                  clear HA
                  simp only [pleacherlaw09_PaxParts.l0] at H
                  by_cases c30 : x14_1 < (t304.length : Int)
                  · rw [if_pos c30] at H
                    have c30b0 : decide (x14_1 < (t304.length : Int)) = true := decide_eq_true c30
                    clear c30
                    by_cases c31 : 0 ≤ x14_1
                    · rw [if_pos c31] at H
                      have c31b0 : decide (0 ≤ x14_1) = true := decide_eq_true c31
                      clear c31
                      replace H := Option.bind_eq_some_iff.mp H
                      obtain ⟨⟨t327, t328⟩, A320, H⟩ := H
                      replace H : (if x13_1 = true then (pleacherlaw09_PaxParts.l0 k1 t304 t311 t299 t314 t315 t316 t317 t324 t325 (!t328) (wrap64 (x14_1 + 1))) else (pleacherlaw09_PaxParts.l0 k1 t304 t311 t299 t314 t315 t316 t317 t324 t325 false (wrap64 (x14_1 + 1)))) = some r := H
                      have A32 := Aside0.mk A320
                      clear A320
                      by_cases c33 : x13_1 = true
                      · subst c33
                        have H1 : (pleacherlaw09_PaxParts.l0 k1 t304 t311 t299 t314 t315 t316 t317 t324 t325 (!t328) (wrap64 (x14_1 + 1))) = some r := by rw [if_pos rfl] at H; exact H
                        clear H
                        have H := H1
                        clear H1
                        have H' := Aside0.mk H
                        clear H
                        have p326 : 0 ≤ (x14_1 : Int) := of_decide_eq_true (by first | (with_reducible assumption) | assumption)
                        have q326 : x14_1 < (t304.length : Int) := of_decide_eq_true (by first | (with_reducible assumption) | assumption)
                        obtain ⟨ad326, e326, hx326_0, hx326_1⟩ := at_T31 (Kd.R_reads' HO_0.out).2.2 x14_1 p326 q326
                        cases e326
                        replace p326 := eq_true p326
                        replace q326 := eq_true q326
                        go_wp2_with (first | ((with_reducible refine gate_callee (f := 20) rfl ?_); refine goesL_ (some 63) rfl rfl Tryd.func20 (by kernel_rfl) rfl #[.slice Ao24 t311.length co24, .string ((rd_T31 t304 x14_1).f0)] rfl (by (try simp only [List.map_toArray, List.map_cons, List.map_nil]); first | done | rfl | (simp only [List.length_drop, List.length_take]; rfl)) ?_; (with_reducible refine (pax_Find.calls k1 _ _ t311 ((rd_T31 t304 x14_1).f0) t327 t328 _ ?side1 ?side2 A32.out).mono ?_); (case side1 => repeat (first | exact (Kd.R_reads' HO_1.out).2.2 | (with_reducible refine Kd.C_alloc ?_ _) | (with_reducible refine Kd.C_drewN ?_ _) | (with_reducible refine Kd.C_drew ?_))); (case side2 => exact (Kd.R_reads' HO_1.out).2.1); rintro e w34 ⟨rfl, hb⟩; refine ⟨_, rfl, ?_⟩; have n0_ := Aside0.mk (Kd.R_below (by (with_reducible repeat (first | apply Kd.R_alloc | apply Kd.R_drewN | apply Kd.R_drew)); exact HO_0.out) hb); have n1_ := Aside0.mk (Kd.R_below (by (with_reducible repeat (first | apply Kd.R_alloc | apply Kd.R_drewN | apply Kd.R_drew)); exact HO_1.out) hb); have n2_ := Aside0.mk (below_step (by repeat (first | (with_reducible first | exact HB.out | apply below_alloc | apply pw_below_drewN | apply below_drew1) | exact HB.out)) hb); clear HO_0; clear HO_1; clear HB; have HO_0 := n0_; have HO_1 := n1_; have HB := n2_; clear n0_ n1_ n2_; (try clear hb); (try clear hb2); (try clear hk); (try clear hi)))
                        go_roundg k1
                        case measure => have := HK1.out; omega
                        case rel => exact ⟨(!t328), (wrap64 (x14_1 + 1)), (by first | rfl | (simp; done) | (simp [*]; done)), (by first | rfl | (simp; done) | (simp [*]; done)), H', ⟨by have := HK1.out; omega⟩, ⟨by (with_reducible repeat (first | apply Kd.R_alloc | apply Kd.R_drewN | apply Kd.R_drew)); exact HO_0.out⟩, ⟨by (with_reducible repeat (first | apply Kd.R_alloc | apply Kd.R_drewN | apply Kd.R_drew)); exact HO_1.out⟩, ⟨by repeat (first | (with_reducible first | exact HB.out | apply below_alloc | apply pw_below_drewN | apply below_drew1) | exact HB.out)⟩⟩
                      · replace c33 := Bool.eq_false_iff.mpr c33
                        subst c33
                        have H1 : (pleacherlaw09_PaxParts.l0 k1 t304 t311 t299 t314 t315 t316 t317 t324 t325 false (wrap64 (x14_1 + 1))) = some r := by rw [if_neg (show ¬ (false = true) by decide)] at H; exact H
                        clear H
                        have H := H1
                        clear H1
                        have H' := Aside0.mk H
                        clear H
                        have p326 : 0 ≤ (x14_1 : Int) := of_decide_eq_true (by first | (with_reducible assumption) | assumption)
                        have q326 : x14_1 < (t304.length : Int) := of_decide_eq_true (by first | (with_reducible assumption) | assumption)
                        obtain ⟨ad326, e326, hx326_0, hx326_1⟩ := at_T31 (Kd.R_reads' HO_0.out).2.2 x14_1 p326 q326
                        cases e326
                        replace p326 := eq_true p326
                        replace q326 := eq_true q326
                        go_wp2_with (first | ((with_reducible refine gate_callee (f := 20) rfl ?_); refine goesL_ (some 63) rfl rfl Tryd.func20 (by kernel_rfl) rfl #[.slice Ao24 t311.length co24, .string ((rd_T31 t304 x14_1).f0)] rfl (by (try simp only [List.map_toArray, List.map_cons, List.map_nil]); first | done | rfl | (simp only [List.length_drop, List.length_take]; rfl)) ?_; (with_reducible refine (pax_Find.calls k1 _ _ t311 ((rd_T31 t304 x14_1).f0) t327 t328 _ ?side1 ?side2 A32.out).mono ?_); (case side1 => repeat (first | exact (Kd.R_reads' HO_1.out).2.2 | (with_reducible refine Kd.C_alloc ?_ _) | (with_reducible refine Kd.C_drewN ?_ _) | (with_reducible refine Kd.C_drew ?_))); (case side2 => exact (Kd.R_reads' HO_1.out).2.1); rintro e w35 ⟨rfl, hb⟩; refine ⟨_, rfl, ?_⟩; have n0_ := Aside0.mk (Kd.R_below (by (with_reducible repeat (first | apply Kd.R_alloc | apply Kd.R_drewN | apply Kd.R_drew)); exact HO_0.out) hb); have n1_ := Aside0.mk (Kd.R_below (by (with_reducible repeat (first | apply Kd.R_alloc | apply Kd.R_drewN | apply Kd.R_drew)); exact HO_1.out) hb); have n2_ := Aside0.mk (below_step (by repeat (first | (with_reducible first | exact HB.out | apply below_alloc | apply pw_below_drewN | apply below_drew1) | exact HB.out)) hb); clear HO_0; clear HO_1; clear HB; have HO_0 := n0_; have HO_1 := n1_; have HB := n2_; clear n0_ n1_ n2_; (try clear hb); (try clear hb2); (try clear hk); (try clear hi)))
                        go_roundg k1
                        case measure => have := HK1.out; omega
                        case rel => exact ⟨(false), (wrap64 (x14_1 + 1)), (by first | rfl | (simp; done) | (simp [*]; done)), (by first | rfl | (simp; done) | (simp [*]; done)), H', ⟨by have := HK1.out; omega⟩, ⟨by (with_reducible repeat (first | apply Kd.R_alloc | apply Kd.R_drewN | apply Kd.R_drew)); exact HO_0.out⟩, ⟨by (with_reducible repeat (first | apply Kd.R_alloc | apply Kd.R_drewN | apply Kd.R_drew)); exact HO_1.out⟩, ⟨by repeat (first | (with_reducible first | exact HB.out | apply below_alloc | apply pw_below_drewN | apply below_drew1) | exact HB.out)⟩⟩
                    · rw [if_neg c31] at H
                      exact absurd H (by simp)
                  · rw [if_neg c30] at H
                    have c30b0 : decide (x14_1 < (t304.length : Int)) = false := decide_eq_false c30
                    clear c30
                    by_cases c36 : t315 = 0
                    · rw [if_pos c36] at H
                      have c36b0 : (t315 == 0) = true := beq_iff_eq.mpr c36
                      have c36b1 : (t315 != 0) = false := bne_eq_false_iff_eq.mpr c36
                      clear c36
                      by_cases c37 : t317 = 0
                      · rw [if_pos c37] at H
                        have c37b0 : (t317 == 0) = true := beq_iff_eq.mpr c37
                        have c37b1 : (t317 != 0) = false := bne_eq_false_iff_eq.mpr c37
                        clear c37
                        by_cases c38 : x13_1 = true
                        · subst c38
                          have H1 : (if t299 = true then (if t325 = 0 then (if t314.size + t316.size ≤ 9223372036854775807 then (some (t324.toList == (t314 ++ t316).toList)) else (none)) else (some false)) else (some false)) = some r := by rw [if_pos rfl] at H; exact H
                          clear H
                          have H := H1
                          clear H1
                          by_cases c39 : t299 = true
                          · subst c39
                            have H1 : (if t325 = 0 then (if t314.size + t316.size ≤ 9223372036854775807 then (some (t324.toList == (t314 ++ t316).toList)) else (none)) else (some false)) = some r := by rw [if_pos rfl] at H; exact H
                            clear H
                            have H := H1
                            clear H1
                            by_cases c40 : t325 = 0
                            · rw [if_pos c40] at H
                              have c40b0 : (t325 == 0) = true := beq_iff_eq.mpr c40
                              have c40b1 : (t325 != 0) = false := bne_eq_false_iff_eq.mpr c40
                              clear c40
                              by_cases c41 : t314.size + t316.size ≤ 9223372036854775807
                              · rw [if_pos c41] at H
                                have c41b0 := eq_true c41
                                have c41b1 : decide (t314.size + t316.size ≤ 9223372036854775807) = true := decide_eq_true c41
                                try have c41b2 : (9223372036854775807 < t314.size + t316.size) = False := eq_false (Nat.not_lt.2 c41)
                                obtain rfl := Option.some.inj H
                                go_wp2
                                go_ret
                                exact ⟨by first | rfl | (simp [errW_none, errW_some] <;> rfl) | (simp only [← hji4, ← hji8]; first | rfl | (simp [errW_none, errW_some] <;> rfl)) | (simp [*, errW_none, errW_some] <;> rfl), by repeat (first | (with_reducible first | exact HB.out | apply below_alloc | apply pw_below_drewN | apply below_drew1) | exact HB.out)⟩
                              · rw [if_neg c41] at H
                                exact absurd H (by simp)
                            · rw [if_neg c40] at H
                              have c40b0 : (t325 == 0) = false := beq_eq_false_iff_ne.mpr c40
                              have c40b1 : (t325 != 0) = true := bne_iff_ne.mpr c40
                              obtain rfl := Option.some.inj H
                              go_wp2
                              go_ret
                              exact ⟨by first | rfl | (simp [errW_none, errW_some] <;> rfl) | (simp only [← hji4, ← hji8]; first | rfl | (simp [errW_none, errW_some] <;> rfl)) | (simp [*, errW_none, errW_some] <;> rfl), by repeat (first | (with_reducible first | exact HB.out | apply below_alloc | apply pw_below_drewN | apply below_drew1) | exact HB.out)⟩
                          · replace c39 := Bool.eq_false_iff.mpr c39
                            subst c39
                            have H1 : (some false) = some r := by rw [if_neg (show ¬ (false = true) by decide)] at H; exact H
                            clear H
                            have H := H1
                            clear H1
                            obtain rfl := Option.some.inj H
                            go_wp2
                            go_ret
                            exact ⟨by first | rfl | (simp [errW_none, errW_some] <;> rfl) | (simp only [← hji4, ← hji8]; first | rfl | (simp [errW_none, errW_some] <;> rfl)) | (simp [*, errW_none, errW_some] <;> rfl), by repeat (first | (with_reducible first | exact HB.out | apply below_alloc | apply pw_below_drewN | apply below_drew1) | exact HB.out)⟩
                        · replace c38 := Bool.eq_false_iff.mpr c38
                          subst c38
                          have H1 : (if t299 = true then (if t325 = 90 then (some (t324.toList == ([] : List UInt8))) else (some false)) else (some false)) = some r := by rw [if_neg (show ¬ (false = true) by decide)] at H; exact H
                          clear H
                          have H := H1
                          clear H1
                          by_cases c42 : t299 = true
                          · subst c42
                            have H1 : (if t325 = 90 then (some (t324.toList == ([] : List UInt8))) else (some false)) = some r := by rw [if_pos rfl] at H; exact H
                            clear H
                            have H := H1
                            clear H1
                            by_cases c43 : t325 = 90
                            · rw [if_pos c43] at H
                              have c43b0 : (t325 == 90) = true := beq_iff_eq.mpr c43
                              have c43b1 : (t325 != 90) = false := bne_eq_false_iff_eq.mpr c43
                              clear c43
                              obtain rfl := Option.some.inj H
                              go_wp2
                              go_ret
                              exact ⟨by first | rfl | (simp [errW_none, errW_some] <;> rfl) | (simp only [← hji4, ← hji8]; first | rfl | (simp [errW_none, errW_some] <;> rfl)) | (simp [*, errW_none, errW_some] <;> rfl), by repeat (first | (with_reducible first | exact HB.out | apply below_alloc | apply pw_below_drewN | apply below_drew1) | exact HB.out)⟩
                            · rw [if_neg c43] at H
                              have c43b0 : (t325 == 90) = false := beq_eq_false_iff_ne.mpr c43
                              have c43b1 : (t325 != 90) = true := bne_iff_ne.mpr c43
                              obtain rfl := Option.some.inj H
                              go_wp2
                              go_ret
                              exact ⟨by first | rfl | (simp [errW_none, errW_some] <;> rfl) | (simp only [← hji4, ← hji8]; first | rfl | (simp [errW_none, errW_some] <;> rfl)) | (simp [*, errW_none, errW_some] <;> rfl), by repeat (first | (with_reducible first | exact HB.out | apply below_alloc | apply pw_below_drewN | apply below_drew1) | exact HB.out)⟩
                          · replace c42 := Bool.eq_false_iff.mpr c42
                            subst c42
                            have H1 : (some false) = some r := by rw [if_neg (show ¬ (false = true) by decide)] at H; exact H
                            clear H
                            have H := H1
                            clear H1
                            obtain rfl := Option.some.inj H
                            go_wp2
                            go_ret
                            exact ⟨by first | rfl | (simp [errW_none, errW_some] <;> rfl) | (simp only [← hji4, ← hji8]; first | rfl | (simp [errW_none, errW_some] <;> rfl)) | (simp [*, errW_none, errW_some] <;> rfl), by repeat (first | (with_reducible first | exact HB.out | apply below_alloc | apply pw_below_drewN | apply below_drew1) | exact HB.out)⟩
                      · rw [if_neg c37] at H
                        have c37b0 : (t317 == 0) = false := beq_eq_false_iff_ne.mpr c37
                        have c37b1 : (t317 != 0) = true := bne_iff_ne.mpr c37
                        by_cases c44 : t299 = true
                        · subst c44
                          have H1 : (if t325 = 90 then (some (t324.toList == ([] : List UInt8))) else (some false)) = some r := by rw [if_pos rfl] at H; exact H
                          clear H
                          have H := H1
                          clear H1
                          by_cases c45 : t325 = 90
                          · rw [if_pos c45] at H
                            have c45b0 : (t325 == 90) = true := beq_iff_eq.mpr c45
                            have c45b1 : (t325 != 90) = false := bne_eq_false_iff_eq.mpr c45
                            clear c45
                            obtain rfl := Option.some.inj H
                            go_wp2
                            go_ret
                            exact ⟨by first | rfl | (simp [errW_none, errW_some] <;> rfl) | (simp only [← hji4, ← hji8]; first | rfl | (simp [errW_none, errW_some] <;> rfl)) | (simp [*, errW_none, errW_some] <;> rfl), by repeat (first | (with_reducible first | exact HB.out | apply below_alloc | apply pw_below_drewN | apply below_drew1) | exact HB.out)⟩
                          · rw [if_neg c45] at H
                            have c45b0 : (t325 == 90) = false := beq_eq_false_iff_ne.mpr c45
                            have c45b1 : (t325 != 90) = true := bne_iff_ne.mpr c45
                            obtain rfl := Option.some.inj H
                            go_wp2
                            go_ret
                            exact ⟨by first | rfl | (simp [errW_none, errW_some] <;> rfl) | (simp only [← hji4, ← hji8]; first | rfl | (simp [errW_none, errW_some] <;> rfl)) | (simp [*, errW_none, errW_some] <;> rfl), by repeat (first | (with_reducible first | exact HB.out | apply below_alloc | apply pw_below_drewN | apply below_drew1) | exact HB.out)⟩
                        · replace c44 := Bool.eq_false_iff.mpr c44
                          subst c44
                          have H1 : (some false) = some r := by rw [if_neg (show ¬ (false = true) by decide)] at H; exact H
                          clear H
                          have H := H1
                          clear H1
                          obtain rfl := Option.some.inj H
                          go_wp2
                          go_ret
                          exact ⟨by first | rfl | (simp [errW_none, errW_some] <;> rfl) | (simp only [← hji4, ← hji8]; first | rfl | (simp [errW_none, errW_some] <;> rfl)) | (simp [*, errW_none, errW_some] <;> rfl), by repeat (first | (with_reducible first | exact HB.out | apply below_alloc | apply pw_below_drewN | apply below_drew1) | exact HB.out)⟩
                    · rw [if_neg c36] at H
                      have c36b0 : (t315 == 0) = false := beq_eq_false_iff_ne.mpr c36
                      have c36b1 : (t315 != 0) = true := bne_iff_ne.mpr c36
                      by_cases c46 : t299 = true
                      · subst c46
                        have H1 : (if t325 = 90 then (some (t324.toList == ([] : List UInt8))) else (some false)) = some r := by rw [if_pos rfl] at H; exact H
                        clear H
                        have H := H1
                        clear H1
                        by_cases c47 : t325 = 90
                        · rw [if_pos c47] at H
                          have c47b0 : (t325 == 90) = true := beq_iff_eq.mpr c47
                          have c47b1 : (t325 != 90) = false := bne_eq_false_iff_eq.mpr c47
                          clear c47
                          obtain rfl := Option.some.inj H
                          go_wp2
                          go_ret
                          exact ⟨by first | rfl | (simp [errW_none, errW_some] <;> rfl) | (simp only [← hji4, ← hji8]; first | rfl | (simp [errW_none, errW_some] <;> rfl)) | (simp [*, errW_none, errW_some] <;> rfl), by repeat (first | (with_reducible first | exact HB.out | apply below_alloc | apply pw_below_drewN | apply below_drew1) | exact HB.out)⟩
                        · rw [if_neg c47] at H
                          have c47b0 : (t325 == 90) = false := beq_eq_false_iff_ne.mpr c47
                          have c47b1 : (t325 != 90) = true := bne_iff_ne.mpr c47
                          obtain rfl := Option.some.inj H
                          go_wp2
                          go_ret
                          exact ⟨by first | rfl | (simp [errW_none, errW_some] <;> rfl) | (simp only [← hji4, ← hji8]; first | rfl | (simp [errW_none, errW_some] <;> rfl)) | (simp [*, errW_none, errW_some] <;> rfl), by repeat (first | (with_reducible first | exact HB.out | apply below_alloc | apply pw_below_drewN | apply below_drew1) | exact HB.out)⟩
                      · replace c46 := Bool.eq_false_iff.mpr c46
                        subst c46
                        have H1 : (some false) = some r := by rw [if_neg (show ¬ (false = true) by decide)] at H; exact H
                        clear H
                        have H := H1
                        clear H1
                        obtain rfl := Option.some.inj H
                        go_wp2
                        go_ret
                        exact ⟨by first | rfl | (simp [errW_none, errW_some] <;> rfl) | (simp only [← hji4, ← hji8]; first | rfl | (simp [errW_none, errW_some] <;> rfl)) | (simp [*, errW_none, errW_some] <;> rfl), by repeat (first | (with_reducible first | exact HB.out | apply below_alloc | apply pw_below_drewN | apply below_drew1) | exact HB.out)⟩
            · rw [if_neg c15] at H
              exact absurd H (by simp)
          · rw [if_neg c14] at H
            exact absurd H (by simp)
        · rw [if_neg c10] at H
          exact absurd H (by simp)
      · rw [if_neg c9] at H
        exact absurd H (by simp)
    · rw [if_neg c6] at H
      exact absurd H (by simp)
  · rw [if_neg c5] at H
    exact absurd H (by simp)

end Go.Proofs.YtbcjhmeeonhmaaaDoor.M
end

/-
PaxParts: what the law computes is true.
-/
section
set_option linter.unusedVariables false
set_option maxRecDepth 100000
namespace Go.Proofs.YtbcjhmeeonhmaaaDoor.H
open Go Go.RowKit Go.Proofs.YtbcjhmeeonhmaaaDoorW.PrintWords Go.Proofs.YtbcjhmeeonhmaaaDoorW.PrintMore Go.Proofs.YtbcjhmeeonhmaaaDoor.M
/-- Are the names of a's records no names of b's? -/
def apartS (a b : List At) : Bool := a.all fun x => !(findS b x.f0).2
theorem apartS_iff (a b : List At) : apartS a b = true ↔ ∀ x ∈ a, x.f0 ∉ b.map (·.f0) := by
  unfold apartS
  rw [List.all_eq_true]
  refine forall_congr' fun x => forall_congr' fun _ => ?_
  rw [Bool.not_eq_true', Bool.eq_false_iff, ne_eq, findS_iff]
/-- What Put makes of two lists in one. -/
theorem puts_app (a b : List At) (ha : a.length ≤ 15) (hb : b.length ≤ 15) :
    ((putsS a).2 = 0 ∧ (putsS b).2 = 0 ∧ apartS a b = true → putsS (a ++ b) = ((putsS a).1 ++ (putsS b).1, 0)) ∧ (¬ ((putsS a).2 = 0 ∧ (putsS b).2 = 0 ∧ apartS a b = true) → putsS (a ++ b) = (⟨#[]⟩, 90)) := by
  unfold putsS
  have hab := putR_iff (a ++ b) [] ⟨#[]⟩
  have hA := putR_iff a [] ⟨#[]⟩
  have hB := putR_iff b [] ⟨#[]⟩
  have hap := apartS_iff a b
  have hiff : (putR [] ⟨#[]⟩ (a ++ b)).2 = 0 ↔ (putR [] ⟨#[]⟩ a).2 = 0 ∧ (putR [] ⟨#[]⟩ b).2 = 0 ∧ apartS a b = true := by
    rw [hab, hA, hB, hap]
    constructor
    · rintro ⟨e1, e2, e3, e4⟩
      rw [List.map_append, List.nodup_append] at e3
      refine ⟨⟨fun x hx => e1 x (List.mem_append_left _ hx), .inr (by simp; omega), e3.1, by simp⟩, ⟨fun x hx => e1 x (List.mem_append_right _ hx), .inr (by simp; omega), e3.2.1, by simp⟩, fun x hx e => ?_⟩
      exact e3.2.2 _ (List.mem_map_of_mem hx) _ e rfl
    · rintro ⟨⟨e1, _, e3, _⟩, ⟨f1, _, f3, _⟩, g⟩
      refine ⟨fun x hx => ?_, .inr (by simp; omega), ?_, by simp⟩
      · rcases List.mem_append.1 hx with hx | hx
        · exact e1 x hx
        · exact f1 x hx
      · rw [List.map_append, List.nodup_append]
        refine ⟨e3, f3, fun u hu v hv e => ?_⟩
        obtain ⟨x, hx, rfl⟩ := List.mem_map.1 hu
        exact g x hx (e ▸ hv)
  constructor
  · intro h
    have h0 := hiff.2 h
    have e := putR_app a b [] ⟨#[]⟩ h.1
    rw [e] at h0 ⊢
    have e2 := putR_acc b _ [] _ h0 h.2.1
    exact Prod.ext e2 h0
  · intro h
    rcases putR_err (a ++ b) [] ⟨#[]⟩ with h0 | h0
    · exact absurd (hiff.1 h0) h
    · exact h0
theorem parts_end (a b : List At) (ha : a.length ≤ 15) (hb : b.length ≤ 15) (hz : (putsS a).1.size + (putsS b).1.size ≤ 9223372036854775807) :
    (if (putsS a).2 = 0 then (if (putsS b).2 = 0 then (if apartS a b = true then (if (true : Bool) = true then (if (putsS (a ++ b)).2 = 0 then (if (putsS a).1.size + (putsS b).1.size ≤ 9223372036854775807 then (some ((putsS (a ++ b)).1.toList == ((putsS a).1 ++ (putsS b).1).toList)) else (none)) else (some false)) else (some false)) else (if (true : Bool) = true then (if (putsS (a ++ b)).2 = 90 then (some ((putsS (a ++ b)).1.toList == ([] : List UInt8))) else (some false)) else (some false))) else (if (true : Bool) = true then (if (putsS (a ++ b)).2 = 90 then (some ((putsS (a ++ b)).1.toList == ([] : List UInt8))) else (some false)) else (some false))) else (if (true : Bool) = true then (if (putsS (a ++ b)).2 = 90 then (some ((putsS (a ++ b)).1.toList == ([] : List UInt8))) else (some false)) else (some false))) = some true := by
  have h := puts_app a b ha hb
  by_cases h1 : (putsS a).2 = 0
  · rw [if_pos h1]
    by_cases h2 : (putsS b).2 = 0
    · rw [if_pos h2]
      by_cases h3 : apartS a b = true
      · rw [if_pos h3, h.1 ⟨h1, h2, h3⟩]; simp; omega
      · rw [if_neg h3, h.2 (fun e => h3 e.2.2)]; simp [nil_toList]
    · rw [if_neg h2, h.2 (fun e => h2 e.2.1)]; simp [nil_toList]
  · rw [if_neg h1, h.2 (fun e => h1 e.1)]; simp [nil_toList]
theorem parts_l (a b : List At) (ha : a.length ≤ 15) (hb : b.length ≤ 15) : ∀ (k i m : Nat), i + m = a.length → m ≤ k →
    pleacherlaw09_PaxParts.l0 (k + 1 + 40) a b true (putsS a).1 (putsS a).2 (putsS b).1 (putsS b).2 (putsS (a ++ b)).1 (putsS (a ++ b)).2 (apartS (a.take i) b) i = some true := by
  have hz : (putsS a).1.size + (putsS b).1.size ≤ 9223372036854775807 := by
    have h1 := puts_size a [] ⟨#[]⟩
    have h2 := puts_size b [] ⟨#[]⟩
    have e0 : (⟨#[]⟩ : ByteArray).size = 0 := rfl
    rw [e0] at h1 h2
    unfold putsS
    omega
  intro k
  induction k with
  | zero =>
    intro i m h1 h2
    rw [show 0 + 1 + 40 = 40 + 1 from rfl, pleacherlaw09_PaxParts.l0, if_neg (by omega), List.take_of_length_le (by omega)]
    exact parts_end a b ha hb hz
  | succ k ih =>
    intro i m h1 h2
    rw [show k + 1 + 1 + 40 = (k + 1 + 40) + 1 from by omega, pleacherlaw09_PaxParts.l0]
    by_cases h : i < a.length
    · rw [if_pos (by omega), if_pos (by omega), rd_at a i h, find_f b _ (by omega) _ (by omega), Option.bind_some]
      have hnext := ih (i + 1) (m - 1) (by omega) (by omega)
      have hw : wrap64 ((i : Int) + 1) = ((i + 1 : Nat) : Int) := by rw [w64 (by omega) (by omega)]; omega
      have hst : apartS (a.take (i + 1)) b = (apartS (a.take i) b && !(findS b a[i].f0).2) := by
        unfold apartS
        rw [List.take_add_one, List.getElem?_eq_getElem h, List.all_append]; simp
      rw [hw]
      by_cases hm : apartS (a.take i) b = true
      · rw [if_pos hm]; rw [hst, hm, Bool.true_and] at hnext; exact hnext
      · rw [if_neg hm]
        have hmf : apartS (a.take i) b = false := by simpa using hm
        rw [hst, hmf, Bool.false_and] at hnext; exact hnext
    · rw [if_neg (by omega), List.take_of_length_le (by omega)]
      exact parts_end a b ha hb hz
theorem few_len2 (l : List At) : (few l).length ≤ l.length := by unfold few; rw [List.length_map, List.length_take]; omega
theorem paxParts_f (a b : List At) : pleacherlaw09_PaxParts.f 2100 a b = some true := by
  unfold pleacherlaw09_PaxParts.f
  have ha := mn_le (a.length : Int) 15
  have hb := mn_le (b.length : Int) 15
  have ea : (mn (a.length : Int) 15).toNat = min a.length 15 := by omega
  have eb : (mn (b.length : Int) 15).toNat = min b.length 15 := by omega
  have la := few_len2 (a.take (min a.length 15))
  have lb := few_len2 (b.take (min b.length 15))
  rw [List.length_take] at la lb
  rw [shown_f, Option.bind_some, if_pos (by omega), if_pos (by omega), ea, few_f _ _ (by omega), Option.bind_some, if_pos (by omega), if_pos (by omega), eb, few_f _ _ (by omega), Option.bind_some,
    put_f _ (by omega), Option.bind_some, put_f _ (by omega), Option.bind_some, if_pos (by simp; omega), Option.bind_some, if_pos (by simp; omega)]
  rw [List.nil_append, put_f _ (by rw [List.length_append]; omega), Option.bind_some]
  have := parts_l (few (a.take (min a.length 15))) (few (b.take (min b.length 15))) (by omega) (by omega) 2059 0 (few (a.take (min a.length 15))).length (by omega) (by omega)
  exact this
end Go.Proofs.YtbcjhmeeonhmaaaDoor.H
end

/-
The row and card of PaxParts.
-/
section
set_option linter.unusedVariables false
set_option maxRecDepth 100000
namespace Go.Proofs.YtbcjhmeeonhmaaaDoor.H
open Go Go.ChangeShapes Go.WideShapes Go.ChangeAt Go.RowKit Go.Proofs.YtbcjhmeeonhmaaaDoorW.PrintWords Go.Proofs.YtbcjhmeeonhmaaaDoorW.PrintMore Go.Proofs.YtbcjhmeeonhmaaaDoor.M

/-- two lists of records. -/
theorem parts_contract (H : Type) (enc : TypeId × Value → H) (W : World) (base : Nat) (args : Array Value) (ds gs : List (DataW H)) (before : List MemPlace)
    (hval : ∀ (j : Nat) t v, Tryd.f7.params[j]? = some t → args[j]? = some v → Value.okWide Tryd.prog W .any base t v)
    (hW : DataW.Whole enc Tryd.prog Tryd.f7.params.toList Rows.paxPartsSpec.vars false W args.toList ds gs before) (hL : laidMetH Tryd.prog Rows.paxPartsRow.laid W) :
    Calls Tryd.prog 7 args W fun e W' => ∃ v, e = .returned v ∧ Rows.paxPartsSpec.post enc Tryd.prog Tryd.f7 false true false false W args v W' := by
  have hW' := hW
  have hlt := hW.lt
  obtain ⟨p, q, hA0, hV, rfl, hfz, hnd⟩ := hW
  have hA : DataW.TrodAll enc Tryd.prog W 0 (fun _ => true) true Tryd.f7.params.toList args.toList ds p := hA0
  rw [Tryd.params7] at hA hval
  obtain ⟨v0, vs0, d0, ds0, p0, q0, hargs, rfl, rfl, h0, r0⟩ := trodAll_cons hA
  obtain ⟨v1, vs1, d1, ds1, p1, q1, hargs1, rfl, rfl, h1, r1⟩ := trodAll_cons r0
  obtain ⟨rfl, rfl, rfl⟩ := trodAll_nil r1
  obtain rfl : args = #[v0, v1] := by cases args; simp_all
  obtain ⟨rfl, rfl⟩ := trodVars_none hV
  obtain ⟨A, c, l, rfl, hc, hK⟩ := open_attrs (hval 0 23 v0 rfl rfl) h0
  obtain ⟨A2, c2, l2, rfl, hc2, hK2⟩ := open_attrs (hval 1 23 v1 rfl rfl) h1
  refine (pleacherlaw09_PaxParts.calls 2100 A c l A2 c2 l2 true W hK hc hK2 hc2 (gw_of_laid hL) (paxParts_f l l2)).mono fun e W' ⟨he, hb⟩ => ?_
  subst he
  refine ⟨_, rfl, post_true hW' rfl (by kernel_rfl) ⟨rfl, rfl, rfl⟩ (pa := p0 ++ (p1 ++ [])) ?_ hb (by simp)⟩
  rw [Tryd.params7]
  have hl2 : ∀ x ∈ p0 ++ p1, x.block < W.heap.size := fun x hx => hlt x (by simpa using hx)
  exact trodAll_cons_mk (Below.trod laidOutA readA rowsA h0 hb (fun x hx => hl2 x (List.mem_append_left _ hx))) (trodAll_cons_mk (Below.trod laidOutA readA rowsA h1 hb (fun x hx => hl2 x (List.mem_append_right _ hx))) trodAll_mk0)
/-- The witness' arguments: two lists. -/
def wargsP : Array Value := #[.slice none 0 0, .slice none 0 0]
theorem parts_reads (os : Os) {H : Type} (enc : TypeId × Value → H) : ∃ places, DataW.whole enc Tryd.prog ((World.doorLaid Tryd.prog 54 os).forCall (fun _ _ => 0) ⟨#[], wargsP, []⟩).memory Tryd.f7.params.toList Rows.paxPartsSpec.vars false wargsP.toList 8 = some ([.nil, .nil], [], places) :=
  ⟨[], by kernel_rfl⟩
/-- THE ROW's STEP. -/
theorem parts_lifted (os : Os) (started : os.Started) (H : Type) (enc : TypeId × Value → H) (F : Stop.Interp) :
    ReturnsInHanded {} Tryd.checked os 7 .any ((OpenSpec.ofChange Rows.paxPartsSpec).preRow enc Tryd.prog Tryd.f7 Rows.paxPartsRow.domain false Rows.paxPartsRow.laid) (((OpenSpec.ofChange Rows.paxPartsSpec).at F).post enc Tryd.prog Tryd.f7 false true false false) := by
  obtain ⟨places, hx⟩ := parts_reads os enc
  refine returnsInHanded_of_row (C := Tryd.checked) (s := OpenSpec.ofChange Rows.paxPartsSpec) own started (by kernel_rfl) Tryd.func7
    (witness_row_atRef (enc := enc) (C := Tryd.checked) false (World.doorLaid Tryd.prog 54 os) wargsP rfl (by kernel_rfl) (by kernel_rfl) (by kernel_rfl)
      (OpenSpec.preRow_of_cond 8 hx (by kernel_rfl) (fun k hk => by cases hk) (by kernel_rfl) (door_met os _))) ?_
  intro W base args ds gs before hval hW _ _ _ hL _ _
  exact parts_contract H enc W base args ds gs before hval hW hL
theorem parts_said : Rows.PaxPartsSaid :=
  OpenClaim.holds_of_cond 7 Tryd.f7 rfl rfl rfl rfl rfl rfl rfl ⟨rfl, rfl, rfl, rfl, rfl⟩ rfl rfl rfl rfl rfl (by kernel_rfl) Tryd.func7 (by kernel_rfl)
    (of_decide_eq_true (by kernel_rfl)) (by unfold Func.isWrapper; first | (rw [if_pos (by decide +kernel)]; kernel_rfl) | (rw [if_neg (by decide +kernel)]; exact ⟨rfl, rfl⟩))
    (fun os started H enc _ F => by rw [OpenClaim.pre_eq_preRow]; exact parts_lifted os started H enc F)
theorem parts_plain (f : FuncId) (fn : Func) (hf : Tryd.pinned.checked.prog.funcNamed "pleacher/pleacherlaw09.PaxParts" = some f) (hfn : Tryd.pinned.checked.prog.funcs[f]? = some fn) :
    true = Tryd.pinned.checked.prog.looks [] ∧ ∀ (j : Nat) t, fn.params[j]? = some t → Tryd.pinned.checked.prog.wantsStandIn t = false := by
  obtain rfl : f = 7 := Option.some.inj ((show Tryd.prog.funcNamed "pleacher/pleacherlaw09.PaxParts" = some 7 by kernel_rfl).symm.trans hf) |>.symm
  obtain rfl : fn = Tryd.f7 := (Option.some.inj (Tryd.func7.symm.trans hfn)).symm
  refine ⟨by kernel_rfl, fun j t ht => ?_⟩
  rw [Tryd.params7] at ht
  have ht := Array.mem_of_getElem? ht
  simp only [List.mem_toArray, List.mem_cons, List.not_mem_nil, or_false] at ht
  obtain rfl : t = 23 := by rcases ht with h | h <;> exact h
  exact (show Tryd.prog.wantsStandIn 23 = false by kernel_rfl)
/-- THE CARD of PaxParts. -/
theorem parts_card : Rows.PaxPartsCardSaid :=
  Claim7.holds_tied_plain_at .later [] _ _ _ _ parts_said (fun _ h => by cases h) (by kernel_rfl) (fun _ h => by cases h) paxParts_row_tie rfl ⟨rfl, rfl⟩ (by kernel_rfl) rfl parts_plain (by kernel_rfl)
end Go.Proofs.YtbcjhmeeonhmaaaDoor.H
end
