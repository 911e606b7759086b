/-
The statement about PaxGets, as a card: for every argument the law's answer is 'true'. There is no condition.
-/
import Derived.Test.YtbcjhmeeonhmaaaDoorQG3
set_option linter.unusedVariables false
set_option linter.unusedSimpArgs false
-- Laid by a program of this session for this claim.
section
namespace Go.Proofs.YtbcjhmeeonhmaaaDoor.M
open Go.RowKit Go.Proofs.YtbcjhmeeonhmaaaDoorW.PrintWords Go.Proofs.YtbcjhmeeonhmaaaDoorW.PrintLast Go.Proofs.YtbcjhmeeonhmaaaDoorW.PrintMore
attribute [local go_sem] max2_int min2_int max_two min_two max_three min_three max_four min_four   -- for this text's walks alone
set_option linter.unusedVariables false
set_option linter.unusedSimpArgs false

/-! ### pleacherref09_Get: function 12 -/
def pleacherref09_Get.l0 : Nat → ByteArray → List (S31) → Int → Option ((List (S31)) × Int × Int)
  | 0, _, _, _ => none
  | k + 1, x0, x5, x6 => if x6 < (x0.size : Int) then (if 0 ≤ x6 then (if x6 ≤ (x0.size : Int) then ((pleacherref09_first.f k (x0.extract (x6 : Int).toNat x0.size)).bind fun bt242 => ((pleacherref09_Find.f k x5 bt242.1).bind fun bt246 => (if bt242.2.2 = 0 then (some (([] : List (S31)), x6, 90)) else (if bt246.2 = true then (some (([] : List (S31)), x6, 90)) else (if (x5.length : Int) = 30 then (some (([] : List (S31)), x6, 90)) else (if x5.length < 4398046511104 then (pleacherref09_Get.l0 k x0 (x5 ++ [(⟨bt242.1, bt242.2.1⟩ : S31)]) (wrap64 (x6 + bt242.2.2))) else (none))))))) else (none)) else (none)) else (some (x5, 0, 0))
def pleacherref09_Get.f (k : Nat) (a0 : ByteArray) : Option ((List (S31)) × Int × Int) := pleacherref09_Get.l0 k a0 ([] : List (S31)) 0
set_option maxHeartbeats 8000000 in
set_option maxRecDepth 100000 in
theorem pleacherref09_Get.calls (k : Nat) (a0 : ByteArray) (r1 : List (S31)) (r2 : Int) (r3 : Int) (w : World) (h : pleacherref09_Get.f k a0 = some (r1, r2, r3)) :
    Calls Tryd.prog 12 #[.string a0] w fun e w' => ∃ v0_ : Value, e = .returned (.tuple #[v0_, .int .i64 r2, .int .i64 r3]) ∧ Kd.R k31 31 w' w.heap.size (fun _ => True) v0_ r1 ∧ Below w.heap.size w w' := by
  have hu31 := Tryd.underlying31
  have HB := Aside0.mk (Below.refl w.heap.size w)
  have H : (pleacherref09_Get.l0 k a0 ([] : List (S31)) 0) = some (r1, r2, r3) := h
  clear h
  have H' := Aside0.mk H
  clear H
  go_enter Tryd.func12, Tryd.ntmps12
  go_wp2
  go_loopg [5, 6] k (fun kq v5 v6 w' => ∃ (x5_1 : List (S31)) (x6_1 : Int), v6 = .int .i64 x6_1 ∧ Aside0 (pleacherref09_Get.l0 kq a0 x5_1 x6_1 = some (r1, r2, r3)) ∧ Aside0 (kq ≤ k) ∧ Aside0 (Kd.R k31 31 w' w.heap.size (fun _ => True) v5 x5_1) ∧ Aside0 (Below w.heap.size w w'))
  case atStart => exact ⟨(([] : List (S31))), (0), (by first | rfl | (simp; done) | (simp [*]; done)), H', ⟨Nat.le_refl _⟩, ⟨by first | exact Kd.R_nil _ _ _ _ _ | exact Kd.N_nil _ _ _ _ _ | exact Kd.V_nil _ _ _ _ _ | exact Kd.Q_nil _ _ _ _ _ | exact Kd.S_nil _ _ _ _ _⟩, ⟨by repeat (first | (with_reducible first | exact HB.out | apply below_alloc | apply pw_below_drewN | apply below_drew1) | exact HB.out)⟩⟩
  case round =>
    clear H'
    try clear c1
    obtain ⟨x5_1, x6_1, rfl, HA, HK1, HO_5, HB⟩ := hrel
    cases gk with
    | zero => exact absurd HA.out (by simp [pleacherref09_Get.l0])
    | succ k1 =>
      have H := HA.out
      clear HA
      simp only [pleacherref09_Get.l0] at H
      by_cases c2 : x6_1 < (a0.size : Int)
      · rw [if_pos c2] at H
        have c2b0 : decide (x6_1 < (a0.size : Int)) = true := decide_eq_true c2
        clear c2
        by_cases c3 : 0 ≤ x6_1
        · rw [if_pos c3] at H
          have c3b0 := eq_true c3
          have c3b1 : decide (0 ≤ x6_1) = true := decide_eq_true c3
          clear c3
          by_cases c4 : x6_1 ≤ (a0.size : Int)
          · rw [if_pos c4] at H
            have c4b0 := eq_true c4
            have c4b1 : decide (x6_1 ≤ (a0.size : Int)) = true := decide_eq_true c4
            clear c4
            replace H := Option.bind_eq_some_iff.mp H
            obtain ⟨⟨t242, t243, t244⟩, A50, H⟩ := H
            replace H : ((pleacherref09_Find.f k1 x5_1 t242).bind fun bt246 => (if t244 = 0 then (some (([] : List (S31)), x6_1, 90)) else (if bt246.2 = true then (some (([] : List (S31)), x6_1, 90)) else (if (x5_1.length : Int) = 30 then (some (([] : List (S31)), x6_1, 90)) else (if x5_1.length < 4398046511104 then (pleacherref09_Get.l0 k1 a0 (x5_1 ++ [(⟨t242, t243⟩ : S31)]) (wrap64 (x6_1 + t244))) else (none)))))) = some (r1, r2, r3) := H
            have A5 := Aside0.mk A50
            clear A50
            replace H := Option.bind_eq_some_iff.mp H
            obtain ⟨⟨t246, t247⟩, A60, H⟩ := H
            replace H : (if t244 = 0 then (some (([] : List (S31)), x6_1, 90)) else (if t247 = true then (some (([] : List (S31)), x6_1, 90)) else (if (x5_1.length : Int) = 30 then (some (([] : List (S31)), x6_1, 90)) else (if x5_1.length < 4398046511104 then (pleacherref09_Get.l0 k1 a0 (x5_1 ++ [(⟨t242, t243⟩ : S31)]) (wrap64 (x6_1 + t244))) else (none))))) = some (r1, r2, r3) := H
            have A6 := Aside0.mk A60
            clear A60
            by_cases c7 : t244 = 0
            · rw [if_pos c7] at H
              have c7b0 : (t244 == 0) = true := beq_iff_eq.mpr c7
              have c7b1 : (t244 != 0) = false := bne_eq_false_iff_eq.mpr c7
              clear c7
              simp only [Option.some.injEq, Prod.mk.injEq] at H
              obtain ⟨rfl, rfl, rfl⟩ := H
              go_wp2_with (first | ((with_reducible refine gate_callee (f := 24) rfl ?_); refine goesL_ (some 19) rfl rfl Tryd.func24 (by kernel_rfl) rfl #[.string (a0.extract (x6_1 : Int).toNat a0.size)] rfl (by (try simp only [List.map_toArray, List.map_cons, List.map_nil]); first | done | rfl | (simp only [List.length_drop, List.length_take]; rfl)) ?_; (with_reducible refine (pleacherref09_first.calls k1 (a0.extract (x6_1 : Int).toNat a0.size) t242 t243 t244 _ A5.out).mono ?_); rintro e w8 ⟨rfl, hb⟩; refine ⟨_, rfl, ?_⟩; have n0_ := Aside0.mk (Kd.R_below (by (with_reducible repeat (first | apply Kd.R_alloc | apply Kd.R_drewN | apply Kd.R_drew)); exact HO_5.out) hb); have n1_ := Aside0.mk (below_step (by repeat (first | (with_reducible first | exact HB.out | apply below_alloc | apply pw_below_drewN | apply below_drew1) | exact HB.out)) hb); clear HO_5; clear HB; have HO_5 := n0_; have HB := n1_; clear n0_ n1_; (try clear hb); (try clear hb2); (try clear hk); (try clear hi)) | ((with_reducible refine gate_dst (N := 7) rfl ?_); (try (refine gate_guard (by rfl) ?_; dsimp only)); refine box_event ?hg (N := 7) ?hd (cs := #[.string (⟨#[]⟩ : ByteArray), .string (⟨#[]⟩ : ByteArray)]) (t := 31) ?hr ?_; (case hd => rfl); (case hg => rfl); (case hr => first | (go_simp; done) | (go_simp; rfl)); intro gb245 hg w9 hbox hb; have n0_ := Aside0.mk (Kd.R_below (Kd.R_elderB (by (with_reducible repeat (first | apply Kd.R_alloc | apply Kd.R_drewN | apply Kd.R_drew)); exact HO_5.out) gb245 (Nat.le_of_eq hg.symm)) hb); have n1_ := Aside0.mk (below_step (by repeat (first | (with_reducible first | exact HB.out | apply below_alloc | apply pw_below_drewN | apply below_drew1) | exact HB.out)) hb); have n2_ := Aside0.mk (hbox); have n3_ := Aside0.mk ((by rw [hg]; exact (below_size (by repeat (first | (with_reducible first | exact HB.out | apply below_alloc | apply pw_below_drewN | apply below_drew1) | exact HB.out))) : w.heap.size ≤ gb245)); have n4_ := Aside0.mk ((by rw [hg]; exact (below_size (by repeat (first | (with_reducible first | exact HB.out | apply below_alloc | apply pw_below_drewN | apply below_drew1) | exact HB.out))) : w.heap.size ≤ gb245)); clear HO_5; clear HB; have HO_5 := n0_; have HB := n1_; have BK245 := n2_; have GW245 := n3_; have GE245 := n4_; clear n0_ n1_ n2_ n3_ n4_; clear hb hbox hg; have hcz10_0 : w9.cell? ⟨gb245, 0, none⟩ = some (.string (⟨#[]⟩ : ByteArray)) := (blk_cell BK245.out 0).trans rfl; have hcz10_1 : w9.cell? ⟨gb245, 1, none⟩ = some (.string (⟨#[]⟩ : ByteArray)) := (blk_cell BK245.out 1).trans rfl; have hfz10_0 := blk_frozen BK245.out 0; have hfz10_1 := blk_frozen BK245.out 1; obtain ⟨Ao11, co11, eo11⟩ := Kd.R_slice HO_5.out; subst eo11) | ((with_reducible refine gate_callee (f := 21) rfl ?_); refine goesL_ (some 26) rfl rfl Tryd.func21 (by kernel_rfl) rfl #[.slice Ao11 x5_1.length co11, .string t242] rfl (by (try simp only [List.map_toArray, List.map_cons, List.map_nil]); first | done | rfl | (simp only [List.length_drop, List.length_take]; rfl)) ?_; (with_reducible refine (pleacherref09_Find.calls k1 _ _ x5_1 t242 t246 t247 _ ?side1 ?side2 A6.out).mono ?_); (case side1 => refine (Kd.R_reads' (e := 31) (base := w.heap.size) (ok := fun k_ => (True ∧ k_ ≠ gb245)) (n := x5_1.length) (c := co11) ?_).2.2; exact (by (with_reducible repeat (first | apply Kd.R_alloc | apply Kd.R_drewN | apply Kd.R_drew)); exact (Kd.R_mono (Kd.R_far (p := ⟨gb245, 1, none⟩) (Kd.R_far (p := ⟨gb245, 0, none⟩) (Kd.R_mono HO_5.out (fun k_ hk => (⟨hk, hk.2⟩ : _ ∧ k_ ≠ gb245))) (fun _ hk => hk.2) (.string t242)) (fun _ hk => hk.2) (.string t243)) (fun _ h_ => h_.1)))); (case side2 => exact (Kd.R_reads' HO_5.out).2.1); rintro e w' ⟨rfl, ⟨nd, rfl⟩⟩; refine ⟨_, rfl, ?_⟩))
              go_ret3
              exact ⟨_, by first | rfl | (simp [errW_none, errW_some] <;> rfl) | (simp [*, errW_none, errW_some] <;> rfl), by first | exact Kd.R_nil _ _ _ _ _ | exact Kd.N_nil _ _ _ _ _ | exact Kd.V_nil _ _ _ _ _ | exact Kd.Q_nil _ _ _ _ _ | exact Kd.S_nil _ _ _ _ _, by repeat (first | (with_reducible first | exact HB.out | apply below_alloc | apply pw_below_drewN | apply below_drew1 | refine below_set ?_ GE245.out) | exact HB.out)⟩
            · rw [if_neg c7] at H
              have c7b0 : (t244 == 0) = false := beq_eq_false_iff_ne.mpr c7
              have c7b1 : (t244 != 0) = true := bne_iff_ne.mpr c7
              by_cases c12 : t247 = true
              · subst c12
                have H1 : (some (([] : List (S31)), x6_1, 90)) = some (r1, r2, r3) := by rw [if_pos rfl] at H; exact H
                clear H
                have H := H1
                clear H1
                simp only [Option.some.injEq, Prod.mk.injEq] at H
                obtain ⟨rfl, rfl, rfl⟩ := H
                go_wp2_with (first | ((with_reducible refine gate_callee (f := 24) rfl ?_); refine goesL_ (some 19) rfl rfl Tryd.func24 (by kernel_rfl) rfl #[.string (a0.extract (x6_1 : Int).toNat a0.size)] rfl (by (try simp only [List.map_toArray, List.map_cons, List.map_nil]); first | done | rfl | (simp only [List.length_drop, List.length_take]; rfl)) ?_; (with_reducible refine (pleacherref09_first.calls k1 (a0.extract (x6_1 : Int).toNat a0.size) t242 t243 t244 _ A5.out).mono ?_); rintro e w13 ⟨rfl, hb⟩; refine ⟨_, rfl, ?_⟩; have n0_ := Aside0.mk (Kd.R_below (by (with_reducible repeat (first | apply Kd.R_alloc | apply Kd.R_drewN | apply Kd.R_drew)); exact HO_5.out) hb); have n1_ := Aside0.mk (below_step (by repeat (first | (with_reducible first | exact HB.out | apply below_alloc | apply pw_below_drewN | apply below_drew1) | exact HB.out)) hb); clear HO_5; clear HB; have HO_5 := n0_; have HB := n1_; clear n0_ n1_; (try clear hb); (try clear hb2); (try clear hk); (try clear hi)) | ((with_reducible refine gate_dst (N := 7) rfl ?_); (try (refine gate_guard (by rfl) ?_; dsimp only)); refine box_event ?hg (N := 7) ?hd (cs := #[.string (⟨#[]⟩ : ByteArray), .string (⟨#[]⟩ : ByteArray)]) (t := 31) ?hr ?_; (case hd => rfl); (case hg => rfl); (case hr => first | (go_simp; done) | (go_simp; rfl)); intro gb245 hg w14 hbox hb; have n0_ := Aside0.mk (Kd.R_below (Kd.R_elderB (by (with_reducible repeat (first | apply Kd.R_alloc | apply Kd.R_drewN | apply Kd.R_drew)); exact HO_5.out) gb245 (Nat.le_of_eq hg.symm)) hb); have n1_ := Aside0.mk (below_step (by repeat (first | (with_reducible first | exact HB.out | apply below_alloc | apply pw_below_drewN | apply below_drew1) | exact HB.out)) hb); have n2_ := Aside0.mk (hbox); have n3_ := Aside0.mk ((by rw [hg]; exact (below_size (by repeat (first | (with_reducible first | exact HB.out | apply below_alloc | apply pw_below_drewN | apply below_drew1) | exact HB.out))) : w.heap.size ≤ gb245)); have n4_ := Aside0.mk ((by rw [hg]; exact (below_size (by repeat (first | (with_reducible first | exact HB.out | apply below_alloc | apply pw_below_drewN | apply below_drew1) | exact HB.out))) : w.heap.size ≤ gb245)); clear HO_5; clear HB; have HO_5 := n0_; have HB := n1_; have BK245 := n2_; have GW245 := n3_; have GE245 := n4_; clear n0_ n1_ n2_ n3_ n4_; clear hb hbox hg; have hcz15_0 : w14.cell? ⟨gb245, 0, none⟩ = some (.string (⟨#[]⟩ : ByteArray)) := (blk_cell BK245.out 0).trans rfl; have hcz15_1 : w14.cell? ⟨gb245, 1, none⟩ = some (.string (⟨#[]⟩ : ByteArray)) := (blk_cell BK245.out 1).trans rfl; have hfz15_0 := blk_frozen BK245.out 0; have hfz15_1 := blk_frozen BK245.out 1; obtain ⟨Ao16, co16, eo16⟩ := Kd.R_slice HO_5.out; subst eo16) | ((with_reducible refine gate_callee (f := 21) rfl ?_); refine goesL_ (some 26) rfl rfl Tryd.func21 (by kernel_rfl) rfl #[.slice Ao16 x5_1.length co16, .string t242] rfl (by (try simp only [List.map_toArray, List.map_cons, List.map_nil]); first | done | rfl | (simp only [List.length_drop, List.length_take]; rfl)) ?_; (with_reducible refine (pleacherref09_Find.calls k1 _ _ x5_1 t242 t246 true _ ?side1 ?side2 A6.out).mono ?_); (case side1 => refine (Kd.R_reads' (e := 31) (base := w.heap.size) (ok := fun k_ => (True ∧ k_ ≠ gb245)) (n := x5_1.length) (c := co16) ?_).2.2; exact (by (with_reducible repeat (first | apply Kd.R_alloc | apply Kd.R_drewN | apply Kd.R_drew)); exact (Kd.R_mono (Kd.R_far (p := ⟨gb245, 1, none⟩) (Kd.R_far (p := ⟨gb245, 0, none⟩) (Kd.R_mono HO_5.out (fun k_ hk => (⟨hk, hk.2⟩ : _ ∧ k_ ≠ gb245))) (fun _ hk => hk.2) (.string t242)) (fun _ hk => hk.2) (.string t243)) (fun _ h_ => h_.1)))); (case side2 => exact (Kd.R_reads' HO_5.out).2.1); rintro e w' ⟨rfl, ⟨nd, rfl⟩⟩; refine ⟨_, rfl, ?_⟩))
                go_ret3
                exact ⟨_, by first | rfl | (simp [errW_none, errW_some] <;> rfl) | (simp [*, errW_none, errW_some] <;> rfl), by first | exact Kd.R_nil _ _ _ _ _ | exact Kd.N_nil _ _ _ _ _ | exact Kd.V_nil _ _ _ _ _ | exact Kd.Q_nil _ _ _ _ _ | exact Kd.S_nil _ _ _ _ _, by repeat (first | (with_reducible first | exact HB.out | apply below_alloc | apply pw_below_drewN | apply below_drew1 | refine below_set ?_ GE245.out) | exact HB.out)⟩
              · replace c12 := Bool.eq_false_iff.mpr c12
                subst c12
                have H1 : (if (x5_1.length : Int) = 30 then (some (([] : List (S31)), x6_1, 90)) else (if x5_1.length < 4398046511104 then (pleacherref09_Get.l0 k1 a0 (x5_1 ++ [(⟨t242, t243⟩ : S31)]) (wrap64 (x6_1 + t244))) else (none))) = some (r1, r2, r3) := by rw [if_neg (show ¬ (false = true) by decide)] at H; exact H
                clear H
                have H := H1
                clear H1
                by_cases c17 : (x5_1.length : Int) = 30
                · rw [if_pos c17] at H
                  have c17b0 : ((x5_1.length : Int) == 30) = true := beq_iff_eq.mpr c17
                  have c17b1 : ((x5_1.length : Int) != 30) = false := bne_eq_false_iff_eq.mpr c17
                  clear c17
                  simp only [Option.some.injEq, Prod.mk.injEq] at H
                  obtain ⟨rfl, rfl, rfl⟩ := H
                  go_wp2_with (first | ((with_reducible refine gate_callee (f := 24) rfl ?_); refine goesL_ (some 19) rfl rfl Tryd.func24 (by kernel_rfl) rfl #[.string (a0.extract (x6_1 : Int).toNat a0.size)] rfl (by (try simp only [List.map_toArray, List.map_cons, List.map_nil]); first | done | rfl | (simp only [List.length_drop, List.length_take]; rfl)) ?_; (with_reducible refine (pleacherref09_first.calls k1 (a0.extract (x6_1 : Int).toNat a0.size) t242 t243 t244 _ A5.out).mono ?_); rintro e w18 ⟨rfl, hb⟩; refine ⟨_, rfl, ?_⟩; have n0_ := Aside0.mk (Kd.R_below (by (with_reducible repeat (first | apply Kd.R_alloc | apply Kd.R_drewN | apply Kd.R_drew)); exact HO_5.out) hb); have n1_ := Aside0.mk (below_step (by repeat (first | (with_reducible first | exact HB.out | apply below_alloc | apply pw_below_drewN | apply below_drew1) | exact HB.out)) hb); clear HO_5; clear HB; have HO_5 := n0_; have HB := n1_; clear n0_ n1_; (try clear hb); (try clear hb2); (try clear hk); (try clear hi)) | ((with_reducible refine gate_dst (N := 7) rfl ?_); (try (refine gate_guard (by rfl) ?_; dsimp only)); refine box_event ?hg (N := 7) ?hd (cs := #[.string (⟨#[]⟩ : ByteArray), .string (⟨#[]⟩ : ByteArray)]) (t := 31) ?hr ?_; (case hd => rfl); (case hg => rfl); (case hr => first | (go_simp; done) | (go_simp; rfl)); intro gb245 hg w19 hbox hb; have n0_ := Aside0.mk (Kd.R_below (Kd.R_elderB (by (with_reducible repeat (first | apply Kd.R_alloc | apply Kd.R_drewN | apply Kd.R_drew)); exact HO_5.out) gb245 (Nat.le_of_eq hg.symm)) hb); have n1_ := Aside0.mk (below_step (by repeat (first | (with_reducible first | exact HB.out | apply below_alloc | apply pw_below_drewN | apply below_drew1) | exact HB.out)) hb); have n2_ := Aside0.mk (hbox); have n3_ := Aside0.mk ((by rw [hg]; exact (below_size (by repeat (first | (with_reducible first | exact HB.out | apply below_alloc | apply pw_below_drewN | apply below_drew1) | exact HB.out))) : w.heap.size ≤ gb245)); have n4_ := Aside0.mk ((by rw [hg]; exact (below_size (by repeat (first | (with_reducible first | exact HB.out | apply below_alloc | apply pw_below_drewN | apply below_drew1) | exact HB.out))) : w.heap.size ≤ gb245)); clear HO_5; clear HB; have HO_5 := n0_; have HB := n1_; have BK245 := n2_; have GW245 := n3_; have GE245 := n4_; clear n0_ n1_ n2_ n3_ n4_; clear hb hbox hg; have hcz20_0 : w19.cell? ⟨gb245, 0, none⟩ = some (.string (⟨#[]⟩ : ByteArray)) := (blk_cell BK245.out 0).trans rfl; have hcz20_1 : w19.cell? ⟨gb245, 1, none⟩ = some (.string (⟨#[]⟩ : ByteArray)) := (blk_cell BK245.out 1).trans rfl; have hfz20_0 := blk_frozen BK245.out 0; have hfz20_1 := blk_frozen BK245.out 1; obtain ⟨Ao21, co21, eo21⟩ := Kd.R_slice HO_5.out; subst eo21) | ((with_reducible refine gate_callee (f := 21) rfl ?_); refine goesL_ (some 26) rfl rfl Tryd.func21 (by kernel_rfl) rfl #[.slice Ao21 x5_1.length co21, .string t242] rfl (by (try simp only [List.map_toArray, List.map_cons, List.map_nil]); first | done | rfl | (simp only [List.length_drop, List.length_take]; rfl)) ?_; (with_reducible refine (pleacherref09_Find.calls k1 _ _ x5_1 t242 t246 false _ ?side1 ?side2 A6.out).mono ?_); (case side1 => refine (Kd.R_reads' (e := 31) (base := w.heap.size) (ok := fun k_ => (True ∧ k_ ≠ gb245)) (n := x5_1.length) (c := co21) ?_).2.2; exact (by (with_reducible repeat (first | apply Kd.R_alloc | apply Kd.R_drewN | apply Kd.R_drew)); exact (Kd.R_mono (Kd.R_far (p := ⟨gb245, 1, none⟩) (Kd.R_far (p := ⟨gb245, 0, none⟩) (Kd.R_mono HO_5.out (fun k_ hk => (⟨hk, hk.2⟩ : _ ∧ k_ ≠ gb245))) (fun _ hk => hk.2) (.string t242)) (fun _ hk => hk.2) (.string t243)) (fun _ h_ => h_.1)))); (case side2 => exact (Kd.R_reads' HO_5.out).2.1); rintro e w' ⟨rfl, ⟨nd, rfl⟩⟩; refine ⟨_, rfl, ?_⟩))
                  go_ret3
                  exact ⟨_, by first | rfl | (simp [errW_none, errW_some] <;> rfl) | (simp [*, errW_none, errW_some] <;> rfl), by first | exact Kd.R_nil _ _ _ _ _ | exact Kd.N_nil _ _ _ _ _ | exact Kd.V_nil _ _ _ _ _ | exact Kd.Q_nil _ _ _ _ _ | exact Kd.S_nil _ _ _ _ _, by repeat (first | (with_reducible first | exact HB.out | apply below_alloc | apply pw_below_drewN | apply below_drew1 | refine below_set ?_ GE245.out) | exact HB.out)⟩
                · rw [if_neg c17] at H
                  have c17b0 : ((x5_1.length : Int) == 30) = false := beq_eq_false_iff_ne.mpr c17
                  have c17b1 : ((x5_1.length : Int) != 30) = true := bne_iff_ne.mpr c17
                  by_cases c22 : x5_1.length < 4398046511104
                  · rw [if_pos c22] at H
                    have LMc22 := Aside0.mk c22
                    clear c22
                    obtain ⟨y248, hy248⟩ : ∃ y_ : List (S31), y_ = (x5_1 ++ [(⟨t242, t243⟩ : S31)]) := ⟨_, rfl⟩
                    replace H : (pleacherref09_Get.l0 k1 a0 y248 (wrap64 (x6_1 + t244))) = some (r1, r2, r3) := by first | (rw [hy248]; with_reducible exact H) | (have H2_ := (Option.bind_some _ _).symm.trans H; rw [hy248]; with_reducible exact H2_) | (have H2_ := (Option.bind_some _ _).symm.trans H; with_reducible exact H2_) | with_reducible exact H | (rw [hy248]; exact H) | exact H
                    have Ny248 := Aside0.mk hy248
                    clear hy248
                    have H' := Aside0.mk H
                    clear H
                    go_wp2_with (first | ((with_reducible refine gate_callee (f := 24) rfl ?_); refine goesL_ (some 19) rfl rfl Tryd.func24 (by kernel_rfl) rfl #[.string (a0.extract (x6_1 : Int).toNat a0.size)] rfl (by (try simp only [List.map_toArray, List.map_cons, List.map_nil]); first | done | rfl | (simp only [List.length_drop, List.length_take]; rfl)) ?_; (with_reducible refine (pleacherref09_first.calls k1 (a0.extract (x6_1 : Int).toNat a0.size) t242 t243 t244 _ A5.out).mono ?_); rintro e w23 ⟨rfl, hb⟩; refine ⟨_, rfl, ?_⟩; have n0_ := Aside0.mk (Kd.R_below (by (with_reducible repeat (first | apply Kd.R_alloc | apply Kd.R_drewN | apply Kd.R_drew)); exact HO_5.out) hb); have n1_ := Aside0.mk (below_step (by repeat (first | (with_reducible first | exact HB.out | apply below_alloc | apply pw_below_drewN | apply below_drew1) | exact HB.out)) hb); clear HO_5; clear HB; have HO_5 := n0_; have HB := n1_; clear n0_ n1_; (try clear hb); (try clear hb2); (try clear hk); (try clear hi)) | ((with_reducible refine gate_dst (N := 7) rfl ?_); (try (refine gate_guard (by rfl) ?_; dsimp only)); refine box_event ?hg (N := 7) ?hd (cs := #[.string (⟨#[]⟩ : ByteArray), .string (⟨#[]⟩ : ByteArray)]) (t := 31) ?hr ?_; (case hd => rfl); (case hg => rfl); (case hr => first | (go_simp; done) | (go_simp; rfl)); intro gb245 hg w24 hbox hb; have n0_ := Aside0.mk (Kd.R_below (Kd.R_elderB (by (with_reducible repeat (first | apply Kd.R_alloc | apply Kd.R_drewN | apply Kd.R_drew)); exact HO_5.out) gb245 (Nat.le_of_eq hg.symm)) hb); have n1_ := Aside0.mk (below_step (by repeat (first | (with_reducible first | exact HB.out | apply below_alloc | apply pw_below_drewN | apply below_drew1) | exact HB.out)) hb); have n2_ := Aside0.mk (hbox); have n3_ := Aside0.mk ((by rw [hg]; exact (below_size (by repeat (first | (with_reducible first | exact HB.out | apply below_alloc | apply pw_below_drewN | apply below_drew1) | exact HB.out))) : w.heap.size ≤ gb245)); have n4_ := Aside0.mk ((by rw [hg]; exact (below_size (by repeat (first | (with_reducible first | exact HB.out | apply below_alloc | apply pw_below_drewN | apply below_drew1) | exact HB.out))) : w.heap.size ≤ gb245)); clear HO_5; clear HB; have HO_5 := n0_; have HB := n1_; have BK245 := n2_; have GW245 := n3_; have GE245 := n4_; clear n0_ n1_ n2_ n3_ n4_; clear hb hbox hg; have hcz25_0 : w24.cell? ⟨gb245, 0, none⟩ = some (.string (⟨#[]⟩ : ByteArray)) := (blk_cell BK245.out 0).trans rfl; have hcz25_1 : w24.cell? ⟨gb245, 1, none⟩ = some (.string (⟨#[]⟩ : ByteArray)) := (blk_cell BK245.out 1).trans rfl; have hfz25_0 := blk_frozen BK245.out 0; have hfz25_1 := blk_frozen BK245.out 1; obtain ⟨Ao26, co26, eo26⟩ := Kd.R_slice HO_5.out; subst eo26) | ((with_reducible refine gate_callee (f := 21) rfl ?_); refine goesL_ (some 26) rfl rfl Tryd.func21 (by kernel_rfl) rfl #[.slice Ao26 x5_1.length co26, .string t242] rfl (by (try simp only [List.map_toArray, List.map_cons, List.map_nil]); first | done | rfl | (simp only [List.length_drop, List.length_take]; rfl)) ?_; (with_reducible refine (pleacherref09_Find.calls k1 _ _ x5_1 t242 t246 false _ ?side1 ?side2 A6.out).mono ?_); (case side1 => refine (Kd.R_reads' (e := 31) (base := w.heap.size) (ok := fun k_ => (True ∧ k_ ≠ gb245)) (n := x5_1.length) (c := co26) ?_).2.2; exact (by (with_reducible repeat (first | apply Kd.R_alloc | apply Kd.R_drewN | apply Kd.R_drew)); exact (Kd.R_mono (Kd.R_far (p := ⟨gb245, 1, none⟩) (Kd.R_far (p := ⟨gb245, 0, none⟩) (Kd.R_mono HO_5.out (fun k_ hk => (⟨hk, hk.2⟩ : _ ∧ k_ ≠ gb245))) (fun _ hk => hk.2) (.string t242)) (fun _ hk => hk.2) (.string t243)) (fun _ h_ => h_.1)))); (case side2 => exact (Kd.R_reads' HO_5.out).2.1); rintro e w' ⟨rfl, ⟨nd, rfl⟩⟩; refine ⟨_, rfl, ?_⟩) | ((with_reducible refine gate_builtin (b := .append) (xs := #[.tmp 40, .tmp 42]) rfl ?_); (try (refine gate_guard (by rfl) ?_; dsimp only)); at_builtin; refine Kd.R_append k31 (w0 := w) w.heap.size rfl (.tmp 40) (.tmp 42) 23 31 (.agg #[(.string ⟨#[]⟩), (.string ⟨#[]⟩)]) 32 rfl Tryd.underlying23 info31 rfl (by decide) (by omega) (.slice Ao26 x5_1.length co26) x5_1 (⟨t242, t243⟩ : S31) [.string t242, .string t243] (fun k_ => k_ ≠ gb245) (fun _ => False) rfl (by first | (go_simp; done) | (go_simp; rfl)) ?aP (fun _ hk => hk.elim) ?aF ?aO ?aB ?aS ?aL ?_; (case aP => exact k31_mkM _ _ _ (⟨t242, t243⟩ : S31)); (case aB => exact (by repeat (first | (with_reducible first | exact HB.out | apply below_alloc | apply pw_below_drewN | apply below_drew1 | refine below_set ?_ GE245.out) | exact HB.out))); (case aF => exact (fun k_ hk => Kd.freshB (g := gb245) (o := .cells #[.string t242, .string t243] 31 (0, 0)) (by (with_reducible repeat (first | refine blk_drewN ?_ _ | refine blk_drew ?_ | refine blk_alloc ?_ _)); refine blk_put (cs := #[.string t242, .string (⟨#[]⟩ : ByteArray)]) ?_ 1 _ rfl; (with_reducible repeat (first | refine blk_drewN ?_ _ | refine blk_drew ?_ | refine blk_alloc ?_ _)); refine blk_put (cs := #[.string (⟨#[]⟩ : ByteArray), .string (⟨#[]⟩ : ByteArray)]) ?_ 0 _ rfl; (with_reducible repeat (first | refine blk_drewN ?_ _ | refine blk_drew ?_ | refine blk_alloc ?_ _)); exact BK245.out) k_ hk)); (case aO => exact (by (with_reducible repeat (first | apply Kd.R_alloc | apply Kd.R_drewN | apply Kd.R_drew)); exact Kd.R_mono (Kd.R_far (p := ⟨gb245, 1, none⟩) (Kd.R_far (p := ⟨gb245, 0, none⟩) (Kd.R_mono HO_5.out (fun k_ hk => (⟨hk, hk.2⟩ : _ ∧ k_ ≠ gb245))) (fun _ hk => hk.2) (.string t242)) (fun _ hk => hk.2) (.string t243)) (fun _ hk => hk.1.2))); (case aS => exact (below_size (by repeat (first | (with_reducible first | exact HB.out | apply below_alloc | apply pw_below_drewN | apply below_drew1 | refine below_set ?_ GE245.out) | exact HB.out)))); (case aL => have := LMc22.out; omega); intro v249 w27 ho hb hg hat; rw [← Ny248.out] at ho; have n0_ := Aside0.mk (blk_grown (g := gb245) (o := .cells #[.string t242, .string t243] 31 (0, 0)) (by (with_reducible repeat (first | refine blk_drewN ?_ _ | refine blk_drew ?_ | refine blk_alloc ?_ _)); refine blk_put (cs := #[.string t242, .string (⟨#[]⟩ : ByteArray)]) ?_ 1 _ rfl; (with_reducible repeat (first | refine blk_drewN ?_ _ | refine blk_drew ?_ | refine blk_alloc ?_ _)); refine blk_put (cs := #[.string (⟨#[]⟩ : ByteArray), .string (⟨#[]⟩ : ByteArray)]) ?_ 0 _ rfl; (with_reducible repeat (first | refine blk_drewN ?_ _ | refine blk_drew ?_ | refine blk_alloc ?_ _)); exact BK245.out) hg (Kd.R_away HO_5.out (fun _ hk => hk.2))); have n1_ := Aside0.mk (hb); have n2_ := Aside0.mk (ho); clear BK245; clear HB; clear HO_5; have BK245 := n0_; have HB := n1_; have HO250 := n2_; clear n0_ n1_ n2_; clear ho hb hg hat))
                    go_roundg k1
                    case measure => have := HK1.out; omega
                    case rel => exact ⟨(y248), (wrap64 (x6_1 + t244)), (by first | rfl | (simp; done) | (simp [*]; done)), H', ⟨by have := HK1.out; omega⟩, ⟨by (with_reducible repeat (first | apply Kd.R_alloc | apply Kd.R_drewN | apply Kd.R_drew)); exact Kd.R_mono HO250.out (fun _ hk => trivial)⟩, ⟨by repeat (first | (with_reducible first | exact HB.out | apply below_alloc | apply pw_below_drewN | apply below_drew1 | refine below_set ?_ GE245.out) | exact HB.out)⟩⟩
                  · rw [if_neg c22] at H
                    exact absurd H (by simp)
          · rw [if_neg c4] at H
            exact absurd H (by simp)
        · rw [if_neg c3] at H
          exact absurd H (by simp)
      · rw [if_neg c2] at H
        have c2b0 : decide (x6_1 < (a0.size : Int)) = false := decide_eq_false c2
        clear c2
        simp only [Option.some.injEq, Prod.mk.injEq] at H
        obtain ⟨rfl, rfl, rfl⟩ := H
        go_wp2
        go_ret3
        exact ⟨_, by first | rfl | (simp [errW_none, errW_some] <;> rfl) | (simp [*, errW_none, errW_some] <;> rfl), by (with_reducible repeat (first | apply Kd.R_alloc | apply Kd.R_drewN | apply Kd.R_drew)); exact HO_5.out, by repeat (first | (with_reducible first | exact HB.out | apply below_alloc | apply pw_below_drewN | apply below_drew1) | exact HB.out)⟩

end Go.Proofs.YtbcjhmeeonhmaaaDoor.M
end

-- Laid by a program of this session for this claim.
section
namespace Go.Proofs.YtbcjhmeeonhmaaaDoor.M
open Go.RowKit Go.Proofs.YtbcjhmeeonhmaaaDoorW.PrintWords Go.Proofs.YtbcjhmeeonhmaaaDoorW.PrintLast Go.Proofs.YtbcjhmeeonhmaaaDoorW.PrintMore
attribute [local go_sem] max2_int min2_int max_two min_two max_three min_three max_four min_four   -- for this text's walks alone
set_option linter.unusedVariables false
set_option linter.unusedSimpArgs false

/-! ### pleacherlaw09_PaxGets: function 3 -/
def pleacherlaw09_PaxGets.f (k : Nat) (a0 : ByteArray) : Option (Bool) := (pleacherlaw09_shown.f).bind fun t253 => ((pleacherlaw09_cut.f a0).bind fun t254 => ((pax_Get.f t254).bind fun bt255 => ((pleacherlaw09_cut.f a0).bind fun t260 => ((pleacherref09_Get.f k t260).bind fun bt261 => (if t253 = true then ((pleacherref05_Attrs.f k bt255.1 bt261.1).bind fun t266 => (if t266 = true then (if bt255.2.1 = bt261.2.1 then (some (bt255.2.2 == bt261.2.2)) else (some false)) else (some false))) else (some false))))))
set_option maxHeartbeats 8000000 in
set_option maxRecDepth 100000 in
theorem pleacherlaw09_PaxGets.calls (k : Nat) (a0 : ByteArray) (r : Bool) (w : World) (hG : GW w) (h : pleacherlaw09_PaxGets.f k a0 = some r) :
    Calls Tryd.prog 3 #[.string a0] w fun e w' => e = .returned (.bool r) ∧ Below w.heap.size w w' := by
  have HG := Aside0.mk hG
  clear hG
  have HB := Aside0.mk (Below.refl w.heap.size w)
  have H : ((pleacherlaw09_shown.f).bind fun t253 => ((pleacherlaw09_cut.f a0).bind fun t254 => ((pax_Get.f t254).bind fun bt255 => ((pleacherlaw09_cut.f a0).bind fun t260 => ((pleacherref09_Get.f k t260).bind fun bt261 => (if t253 = true then ((pleacherref05_Attrs.f k bt255.1 bt261.1).bind fun t266 => (if t266 = true then (if bt255.2.1 = bt261.2.1 then (some (bt255.2.2 == bt261.2.2)) else (some false)) else (some false))) else (some false))))))) = some r := h
  clear h
  replace H := Option.bind_eq_some_iff.mp H
  obtain ⟨t253, A20, H⟩ := H
  replace H : ((pleacherlaw09_cut.f a0).bind fun t254 => ((pax_Get.f t254).bind fun bt255 => ((pleacherlaw09_cut.f a0).bind fun t260 => ((pleacherref09_Get.f k t260).bind fun bt261 => (if t253 = true then ((pleacherref05_Attrs.f k bt255.1 bt261.1).bind fun t266 => (if t266 = true then (if bt255.2.1 = bt261.2.1 then (some (bt255.2.2 == bt261.2.2)) else (some false)) else (some false))) else (some false)))))) = some r := H
  have A2 := Aside0.mk A20
  clear A20
  replace H := Option.bind_eq_some_iff.mp H
  obtain ⟨t254, A30, H⟩ := H
  replace H : ((pax_Get.f t254).bind fun bt255 => ((pleacherlaw09_cut.f a0).bind fun t260 => ((pleacherref09_Get.f k t260).bind fun bt261 => (if t253 = true then ((pleacherref05_Attrs.f k bt255.1 bt261.1).bind fun t266 => (if t266 = true then (if bt255.2.1 = bt261.2.1 then (some (bt255.2.2 == bt261.2.2)) else (some false)) else (some false))) else (some false))))) = some r := H
  have A3 := Aside0.mk A30
  clear A30
  replace H := Option.bind_eq_some_iff.mp H
  obtain ⟨⟨t255, t256, t257⟩, A40, H⟩ := H
  replace H : ((pleacherlaw09_cut.f a0).bind fun t260 => ((pleacherref09_Get.f k t260).bind fun bt261 => (if t253 = true then ((pleacherref05_Attrs.f k t255 bt261.1).bind fun t266 => (if t266 = true then (if t256 = bt261.2.1 then (some (t257 == bt261.2.2)) else (some false)) else (some false))) else (some false)))) = some r := H
  have A4 := Aside0.mk A40
  clear A40
  replace H := Option.bind_eq_some_iff.mp H
  obtain ⟨t260, A50, H⟩ := H
  replace H : ((pleacherref09_Get.f k t260).bind fun bt261 => (if t253 = true then ((pleacherref05_Attrs.f k t255 bt261.1).bind fun t266 => (if t266 = true then (if t256 = bt261.2.1 then (some (t257 == bt261.2.2)) else (some false)) else (some false))) else (some false))) = some r := H
  have A5 := Aside0.mk A50
  clear A50
  replace H := Option.bind_eq_some_iff.mp H
  obtain ⟨⟨t261, t262, t263⟩, A60, H⟩ := H
  replace H : (if t253 = true then ((pleacherref05_Attrs.f k t255 t261).bind fun t266 => (if t266 = true then (if t256 = t262 then (some (t257 == t263)) else (some false)) else (some false))) else (some false)) = some r := H
  have A6 := Aside0.mk A60
  clear A60
  by_cases c7 : t253 = true
  · subst c7
    have H1 : ((pleacherref05_Attrs.f k t255 t261).bind fun t266 => (if t266 = true then (if t256 = t262 then (some (t257 == t263)) else (some false)) else (some false))) = some r := by rw [if_pos rfl] at H; exact H
    clear H
    have H := H1
    clear H1
    replace H := Option.bind_eq_some_iff.mp H
    obtain ⟨t266, A80, H⟩ := H
    replace H : (if t266 = true then (if t256 = t262 then (some (t257 == t263)) else (some false)) else (some false)) = some r := H
    have A8 := Aside0.mk A80
    clear A80
    by_cases c9 : t266 = true
    · subst c9
      have H1 : (if t256 = t262 then (some (t257 == t263)) else (some false)) = some r := by rw [if_pos rfl] at H; exact H
      clear H
      have H := H1
      clear H1
      by_cases c10 : t256 = t262
      · rw [if_pos c10] at H
        have c10b0 : (t256 == t262) = true := beq_iff_eq.mpr c10
        have c10b1 : (t256 != t262) = false := bne_eq_false_iff_eq.mpr c10
        clear c10
        obtain rfl := Option.some.inj H
        go_enter Tryd.func3, Tryd.ntmps3
        go_wp2_with (first | ((with_reducible refine gate_callee (f := 9) rfl ?_); refine goesL_ (some 10) rfl rfl Tryd.func9 (by kernel_rfl) rfl #[] rfl (by (try simp only [List.map_toArray, List.map_cons, List.map_nil]); first | done | rfl | (simp only [List.length_drop, List.length_take]; rfl)) ?_; (with_reducible refine (pleacherlaw09_shown.calls  true _ ?side1 A2.out).mono ?_); (case side1 => exact GW.below HG.out (by repeat (first | (with_reducible first | exact HB.out | apply below_alloc | apply pw_below_drewN | apply below_drew1) | exact HB.out))); rintro e w11 ⟨rfl, hb⟩; refine ⟨_, rfl, ?_⟩; have n0_ := Aside0.mk (below_step (by repeat (first | (with_reducible first | exact HB.out | apply below_alloc | apply pw_below_drewN | apply below_drew1) | exact HB.out)) hb); clear HB; have HB := n0_; clear n0_; (try clear hb); (try clear hb2); (try clear hk); (try clear hi)) | ((with_reducible refine gate_callee (f := 11) rfl ?_); refine goesL_ (some 13) rfl rfl Tryd.func11 (by kernel_rfl) rfl #[.string a0] rfl (by (try simp only [List.map_toArray, List.map_cons, List.map_nil]); first | done | rfl | (simp only [List.length_drop, List.length_take]; rfl)) ?_; (with_reducible refine (pleacherlaw09_cut.calls a0 t254 _ A3.out).mono ?_); rintro e w12 ⟨rfl, hb⟩; refine ⟨_, rfl, ?_⟩; have n0_ := Aside0.mk (below_step (by repeat (first | (with_reducible first | exact HB.out | apply below_alloc | apply pw_below_drewN | apply below_drew1) | exact HB.out)) hb); clear HB; have HB := n0_; clear n0_; (try clear hb); (try clear hb2); (try clear hk); (try clear hi)) | ((with_reducible refine gate_callee (f := 10) rfl ?_); refine goesL_ (some 14) rfl rfl Tryd.func10 (by kernel_rfl) rfl #[.string t254] rfl (by (try simp only [List.map_toArray, List.map_cons, List.map_nil]); first | done | rfl | (simp only [List.length_drop, List.length_take]; rfl)) ?_; (with_reducible refine (pax_Get.calls t254 t255 t256 t257 _ ?side1 A4.out).mono ?_); (case side1 => exact GW.below HG.out (by repeat (first | (with_reducible first | exact HB.out | apply below_alloc | apply pw_below_drewN | apply below_drew1) | exact HB.out))); rintro e w13 ⟨v258, rfl, ho0, hb⟩; refine ⟨_, rfl, ?_⟩; have n0_ := Aside0.mk (Kd.R_lower ho0 (below_size (by repeat (first | (with_reducible first | exact HB.out | apply below_alloc | apply pw_below_drewN | apply below_drew1) | exact HB.out)))); have n1_ := Aside0.mk (below_step (by repeat (first | (with_reducible first | exact HB.out | apply below_alloc | apply pw_below_drewN | apply below_drew1) | exact HB.out)) hb); clear HB; have HO259 := n0_; have HB := n1_; clear n0_ n1_; (try clear hb); (try clear hb2); (try clear hk); (try clear hi); (try clear ho0)) | ((with_reducible refine gate_callee (f := 11) rfl ?_); refine goesL_ (some 20) rfl rfl Tryd.func11 (by kernel_rfl) rfl #[.string a0] rfl (by (try simp only [List.map_toArray, List.map_cons, List.map_nil]); first | done | rfl | (simp only [List.length_drop, List.length_take]; rfl)) ?_; (with_reducible refine (pleacherlaw09_cut.calls a0 t260 _ A5.out).mono ?_); rintro e w14 ⟨rfl, hb⟩; refine ⟨_, rfl, ?_⟩; have n0_ := Aside0.mk (Kd.R_below (by (with_reducible repeat (first | apply Kd.R_alloc | apply Kd.R_drewN | apply Kd.R_drew)); exact HO259.out) hb); have n1_ := Aside0.mk (below_step (by repeat (first | (with_reducible first | exact HB.out | apply below_alloc | apply pw_below_drewN | apply below_drew1) | exact HB.out)) hb); clear HO259; clear HB; have HO259 := n0_; have HB := n1_; clear n0_ n1_; (try clear hb); (try clear hb2); (try clear hk); (try clear hi)) | ((with_reducible refine gate_callee (f := 12) rfl ?_); refine goesL_ (some 21) rfl rfl Tryd.func12 (by kernel_rfl) rfl #[.string t260] rfl (by (try simp only [List.map_toArray, List.map_cons, List.map_nil]); first | done | rfl | (simp only [List.length_drop, List.length_take]; rfl)) ?_; (with_reducible refine (pleacherref09_Get.calls k t260 t261 t262 t263 _ A6.out).mono ?_); rintro e w15 ⟨v264, rfl, ho0, hb⟩; refine ⟨_, rfl, ?_⟩; have n0_ := Aside0.mk (Kd.R_elder' (by (with_reducible repeat (first | apply Kd.R_alloc | apply Kd.R_drewN | apply Kd.R_drew)); exact HO259.out) (Kd.R_base ho0) hb); have n1_ := Aside0.mk (Kd.R_lower (Kd.R_new' ho0 (Kd.R_lt (by (with_reducible repeat (first | apply Kd.R_alloc | apply Kd.R_drewN | apply Kd.R_drew)); exact HO259.out))) (below_size (by repeat (first | (with_reducible first | exact HB.out | apply below_alloc | apply pw_below_drewN | apply below_drew1) | exact HB.out)))); have n2_ := Aside0.mk (below_step (by repeat (first | (with_reducible first | exact HB.out | apply below_alloc | apply pw_below_drewN | apply below_drew1) | exact HB.out)) hb); clear HO259; clear HB; have HO259 := n0_; have HO265 := n1_; have HB := n2_; clear n0_ n1_ n2_; (try clear hb); (try clear hb2); (try clear hk); (try clear hi); (try clear ho0); obtain ⟨Ao16, co16, eo16⟩ := Kd.R_slice HO259.out; subst eo16; obtain ⟨Ao17, co17, eo17⟩ := Kd.R_slice HO265.out; subst eo17) | (go_at_call 13; (with_reducible refine (pleacherref05_Attrs.calls k _ _ t255 _ _ t261 true _ ?side1 ?side2 ?side3 ?side4 A8.out).mono ?_); (case side1 => repeat (first | exact (Kd.R_reads' HO259.out).2.2 | (with_reducible refine Kd.C_alloc ?_ _) | (with_reducible refine Kd.C_drewN ?_ _) | (with_reducible refine Kd.C_drew ?_))); (case side2 => exact (Kd.R_reads' HO259.out).2.1); (case side3 => repeat (first | exact (Kd.R_reads' HO265.out).2.2 | (with_reducible refine Kd.C_alloc ?_ _) | (with_reducible refine Kd.C_drewN ?_ _) | (with_reducible refine Kd.C_drew ?_))); (case side4 => exact (Kd.R_reads' HO265.out).2.1); rintro e w' ⟨rfl, ⟨nd, rfl⟩⟩))
        go_ret
        exact ⟨by first | rfl | (simp [errW_none, errW_some] <;> rfl) | (simp [*, errW_none, errW_some] <;> rfl), by repeat (first | (with_reducible first | exact HB.out | apply below_alloc | apply pw_below_drewN | apply below_drew1) | exact HB.out)⟩
      · rw [if_neg c10] at H
        have c10b0 : (t256 == t262) = false := beq_eq_false_iff_ne.mpr c10
        have c10b1 : (t256 != t262) = true := bne_iff_ne.mpr c10
        obtain rfl := Option.some.inj H
        go_enter Tryd.func3, Tryd.ntmps3
        go_wp2_with (first | ((with_reducible refine gate_callee (f := 9) rfl ?_); refine goesL_ (some 10) rfl rfl Tryd.func9 (by kernel_rfl) rfl #[] rfl (by (try simp only [List.map_toArray, List.map_cons, List.map_nil]); first | done | rfl | (simp only [List.length_drop, List.length_take]; rfl)) ?_; (with_reducible refine (pleacherlaw09_shown.calls  true _ ?side1 A2.out).mono ?_); (case side1 => exact GW.below HG.out (by repeat (first | (with_reducible first | exact HB.out | apply below_alloc | apply pw_below_drewN | apply below_drew1) | exact HB.out))); rintro e w18 ⟨rfl, hb⟩; refine ⟨_, rfl, ?_⟩; have n0_ := Aside0.mk (below_step (by repeat (first | (with_reducible first | exact HB.out | apply below_alloc | apply pw_below_drewN | apply below_drew1) | exact HB.out)) hb); clear HB; have HB := n0_; clear n0_; (try clear hb); (try clear hb2); (try clear hk); (try clear hi)) | ((with_reducible refine gate_callee (f := 11) rfl ?_); refine goesL_ (some 13) rfl rfl Tryd.func11 (by kernel_rfl) rfl #[.string a0] rfl (by (try simp only [List.map_toArray, List.map_cons, List.map_nil]); first | done | rfl | (simp only [List.length_drop, List.length_take]; rfl)) ?_; (with_reducible refine (pleacherlaw09_cut.calls a0 t254 _ A3.out).mono ?_); rintro e w19 ⟨rfl, hb⟩; refine ⟨_, rfl, ?_⟩; have n0_ := Aside0.mk (below_step (by repeat (first | (with_reducible first | exact HB.out | apply below_alloc | apply pw_below_drewN | apply below_drew1) | exact HB.out)) hb); clear HB; have HB := n0_; clear n0_; (try clear hb); (try clear hb2); (try clear hk); (try clear hi)) | ((with_reducible refine gate_callee (f := 10) rfl ?_); refine goesL_ (some 14) rfl rfl Tryd.func10 (by kernel_rfl) rfl #[.string t254] rfl (by (try simp only [List.map_toArray, List.map_cons, List.map_nil]); first | done | rfl | (simp only [List.length_drop, List.length_take]; rfl)) ?_; (with_reducible refine (pax_Get.calls t254 t255 t256 t257 _ ?side1 A4.out).mono ?_); (case side1 => exact GW.below HG.out (by repeat (first | (with_reducible first | exact HB.out | apply below_alloc | apply pw_below_drewN | apply below_drew1) | exact HB.out))); rintro e w20 ⟨v258, rfl, ho0, hb⟩; refine ⟨_, rfl, ?_⟩; have n0_ := Aside0.mk (Kd.R_lower ho0 (below_size (by repeat (first | (with_reducible first | exact HB.out | apply below_alloc | apply pw_below_drewN | apply below_drew1) | exact HB.out)))); have n1_ := Aside0.mk (below_step (by repeat (first | (with_reducible first | exact HB.out | apply below_alloc | apply pw_below_drewN | apply below_drew1) | exact HB.out)) hb); clear HB; have HO259 := n0_; have HB := n1_; clear n0_ n1_; (try clear hb); (try clear hb2); (try clear hk); (try clear hi); (try clear ho0)) | ((with_reducible refine gate_callee (f := 11) rfl ?_); refine goesL_ (some 20) rfl rfl Tryd.func11 (by kernel_rfl) rfl #[.string a0] rfl (by (try simp only [List.map_toArray, List.map_cons, List.map_nil]); first | done | rfl | (simp only [List.length_drop, List.length_take]; rfl)) ?_; (with_reducible refine (pleacherlaw09_cut.calls a0 t260 _ A5.out).mono ?_); rintro e w21 ⟨rfl, hb⟩; refine ⟨_, rfl, ?_⟩; have n0_ := Aside0.mk (Kd.R_below (by (with_reducible repeat (first | apply Kd.R_alloc | apply Kd.R_drewN | apply Kd.R_drew)); exact HO259.out) hb); have n1_ := Aside0.mk (below_step (by repeat (first | (with_reducible first | exact HB.out | apply below_alloc | apply pw_below_drewN | apply below_drew1) | exact HB.out)) hb); clear HO259; clear HB; have HO259 := n0_; have HB := n1_; clear n0_ n1_; (try clear hb); (try clear hb2); (try clear hk); (try clear hi)) | ((with_reducible refine gate_callee (f := 12) rfl ?_); refine goesL_ (some 21) rfl rfl Tryd.func12 (by kernel_rfl) rfl #[.string t260] rfl (by (try simp only [List.map_toArray, List.map_cons, List.map_nil]); first | done | rfl | (simp only [List.length_drop, List.length_take]; rfl)) ?_; (with_reducible refine (pleacherref09_Get.calls k t260 t261 t262 t263 _ A6.out).mono ?_); rintro e w22 ⟨v264, rfl, ho0, hb⟩; refine ⟨_, rfl, ?_⟩; have n0_ := Aside0.mk (Kd.R_elder' (by (with_reducible repeat (first | apply Kd.R_alloc | apply Kd.R_drewN | apply Kd.R_drew)); exact HO259.out) (Kd.R_base ho0) hb); have n1_ := Aside0.mk (Kd.R_lower (Kd.R_new' ho0 (Kd.R_lt (by (with_reducible repeat (first | apply Kd.R_alloc | apply Kd.R_drewN | apply Kd.R_drew)); exact HO259.out))) (below_size (by repeat (first | (with_reducible first | exact HB.out | apply below_alloc | apply pw_below_drewN | apply below_drew1) | exact HB.out)))); have n2_ := Aside0.mk (below_step (by repeat (first | (with_reducible first | exact HB.out | apply below_alloc | apply pw_below_drewN | apply below_drew1) | exact HB.out)) hb); clear HO259; clear HB; have HO259 := n0_; have HO265 := n1_; have HB := n2_; clear n0_ n1_ n2_; (try clear hb); (try clear hb2); (try clear hk); (try clear hi); (try clear ho0); obtain ⟨Ao23, co23, eo23⟩ := Kd.R_slice HO259.out; subst eo23; obtain ⟨Ao24, co24, eo24⟩ := Kd.R_slice HO265.out; subst eo24) | (go_at_call 13; (with_reducible refine (pleacherref05_Attrs.calls k _ _ t255 _ _ t261 true _ ?side1 ?side2 ?side3 ?side4 A8.out).mono ?_); (case side1 => repeat (first | exact (Kd.R_reads' HO259.out).2.2 | (with_reducible refine Kd.C_alloc ?_ _) | (with_reducible refine Kd.C_drewN ?_ _) | (with_reducible refine Kd.C_drew ?_))); (case side2 => exact (Kd.R_reads' HO259.out).2.1); (case side3 => repeat (first | exact (Kd.R_reads' HO265.out).2.2 | (with_reducible refine Kd.C_alloc ?_ _) | (with_reducible refine Kd.C_drewN ?_ _) | (with_reducible refine Kd.C_drew ?_))); (case side4 => exact (Kd.R_reads' HO265.out).2.1); rintro e w' ⟨rfl, ⟨nd, rfl⟩⟩))
        go_ret
        exact ⟨by first | rfl | (simp [errW_none, errW_some] <;> rfl) | (simp [*, errW_none, errW_some] <;> rfl), by repeat (first | (with_reducible first | exact HB.out | apply below_alloc | apply pw_below_drewN | apply below_drew1) | exact HB.out)⟩
    · replace c9 := Bool.eq_false_iff.mpr c9
      subst c9
      have H1 : (some false) = some r := by rw [if_neg (show ¬ (false = true) by decide)] at H; exact H
      clear H
      have H := H1
      clear H1
      obtain rfl := Option.some.inj H
      go_enter Tryd.func3, Tryd.ntmps3
      go_wp2_with (first | ((with_reducible refine gate_callee (f := 9) rfl ?_); refine goesL_ (some 10) rfl rfl Tryd.func9 (by kernel_rfl) rfl #[] rfl (by (try simp only [List.map_toArray, List.map_cons, List.map_nil]); first | done | rfl | (simp only [List.length_drop, List.length_take]; rfl)) ?_; (with_reducible refine (pleacherlaw09_shown.calls  true _ ?side1 A2.out).mono ?_); (case side1 => exact GW.below HG.out (by repeat (first | (with_reducible first | exact HB.out | apply below_alloc | apply pw_below_drewN | apply below_drew1) | exact HB.out))); rintro e w25 ⟨rfl, hb⟩; refine ⟨_, rfl, ?_⟩; have n0_ := Aside0.mk (below_step (by repeat (first | (with_reducible first | exact HB.out | apply below_alloc | apply pw_below_drewN | apply below_drew1) | exact HB.out)) hb); clear HB; have HB := n0_; clear n0_; (try clear hb); (try clear hb2); (try clear hk); (try clear hi)) | ((with_reducible refine gate_callee (f := 11) rfl ?_); refine goesL_ (some 13) rfl rfl Tryd.func11 (by kernel_rfl) rfl #[.string a0] rfl (by (try simp only [List.map_toArray, List.map_cons, List.map_nil]); first | done | rfl | (simp only [List.length_drop, List.length_take]; rfl)) ?_; (with_reducible refine (pleacherlaw09_cut.calls a0 t254 _ A3.out).mono ?_); rintro e w26 ⟨rfl, hb⟩; refine ⟨_, rfl, ?_⟩; have n0_ := Aside0.mk (below_step (by repeat (first | (with_reducible first | exact HB.out | apply below_alloc | apply pw_below_drewN | apply below_drew1) | exact HB.out)) hb); clear HB; have HB := n0_; clear n0_; (try clear hb); (try clear hb2); (try clear hk); (try clear hi)) | ((with_reducible refine gate_callee (f := 10) rfl ?_); refine goesL_ (some 14) rfl rfl Tryd.func10 (by kernel_rfl) rfl #[.string t254] rfl (by (try simp only [List.map_toArray, List.map_cons, List.map_nil]); first | done | rfl | (simp only [List.length_drop, List.length_take]; rfl)) ?_; (with_reducible refine (pax_Get.calls t254 t255 t256 t257 _ ?side1 A4.out).mono ?_); (case side1 => exact GW.below HG.out (by repeat (first | (with_reducible first | exact HB.out | apply below_alloc | apply pw_below_drewN | apply below_drew1) | exact HB.out))); rintro e w27 ⟨v258, rfl, ho0, hb⟩; refine ⟨_, rfl, ?_⟩; have n0_ := Aside0.mk (Kd.R_lower ho0 (below_size (by repeat (first | (with_reducible first | exact HB.out | apply below_alloc | apply pw_below_drewN | apply below_drew1) | exact HB.out)))); have n1_ := Aside0.mk (below_step (by repeat (first | (with_reducible first | exact HB.out | apply below_alloc | apply pw_below_drewN | apply below_drew1) | exact HB.out)) hb); clear HB; have HO259 := n0_; have HB := n1_; clear n0_ n1_; (try clear hb); (try clear hb2); (try clear hk); (try clear hi); (try clear ho0)) | ((with_reducible refine gate_callee (f := 11) rfl ?_); refine goesL_ (some 20) rfl rfl Tryd.func11 (by kernel_rfl) rfl #[.string a0] rfl (by (try simp only [List.map_toArray, List.map_cons, List.map_nil]); first | done | rfl | (simp only [List.length_drop, List.length_take]; rfl)) ?_; (with_reducible refine (pleacherlaw09_cut.calls a0 t260 _ A5.out).mono ?_); rintro e w28 ⟨rfl, hb⟩; refine ⟨_, rfl, ?_⟩; have n0_ := Aside0.mk (Kd.R_below (by (with_reducible repeat (first | apply Kd.R_alloc | apply Kd.R_drewN | apply Kd.R_drew)); exact HO259.out) hb); have n1_ := Aside0.mk (below_step (by repeat (first | (with_reducible first | exact HB.out | apply below_alloc | apply pw_below_drewN | apply below_drew1) | exact HB.out)) hb); clear HO259; clear HB; have HO259 := n0_; have HB := n1_; clear n0_ n1_; (try clear hb); (try clear hb2); (try clear hk); (try clear hi)) | ((with_reducible refine gate_callee (f := 12) rfl ?_); refine goesL_ (some 21) rfl rfl Tryd.func12 (by kernel_rfl) rfl #[.string t260] rfl (by (try simp only [List.map_toArray, List.map_cons, List.map_nil]); first | done | rfl | (simp only [List.length_drop, List.length_take]; rfl)) ?_; (with_reducible refine (pleacherref09_Get.calls k t260 t261 t262 t263 _ A6.out).mono ?_); rintro e w29 ⟨v264, rfl, ho0, hb⟩; refine ⟨_, rfl, ?_⟩; have n0_ := Aside0.mk (Kd.R_elder' (by (with_reducible repeat (first | apply Kd.R_alloc | apply Kd.R_drewN | apply Kd.R_drew)); exact HO259.out) (Kd.R_base ho0) hb); have n1_ := Aside0.mk (Kd.R_lower (Kd.R_new' ho0 (Kd.R_lt (by (with_reducible repeat (first | apply Kd.R_alloc | apply Kd.R_drewN | apply Kd.R_drew)); exact HO259.out))) (below_size (by repeat (first | (with_reducible first | exact HB.out | apply below_alloc | apply pw_below_drewN | apply below_drew1) | exact HB.out)))); have n2_ := Aside0.mk (below_step (by repeat (first | (with_reducible first | exact HB.out | apply below_alloc | apply pw_below_drewN | apply below_drew1) | exact HB.out)) hb); clear HO259; clear HB; have HO259 := n0_; have HO265 := n1_; have HB := n2_; clear n0_ n1_ n2_; (try clear hb); (try clear hb2); (try clear hk); (try clear hi); (try clear ho0); obtain ⟨Ao30, co30, eo30⟩ := Kd.R_slice HO259.out; subst eo30; obtain ⟨Ao31, co31, eo31⟩ := Kd.R_slice HO265.out; subst eo31) | (go_at_call 13; (with_reducible refine (pleacherref05_Attrs.calls k _ _ t255 _ _ t261 false _ ?side1 ?side2 ?side3 ?side4 A8.out).mono ?_); (case side1 => repeat (first | exact (Kd.R_reads' HO259.out).2.2 | (with_reducible refine Kd.C_alloc ?_ _) | (with_reducible refine Kd.C_drewN ?_ _) | (with_reducible refine Kd.C_drew ?_))); (case side2 => exact (Kd.R_reads' HO259.out).2.1); (case side3 => repeat (first | exact (Kd.R_reads' HO265.out).2.2 | (with_reducible refine Kd.C_alloc ?_ _) | (with_reducible refine Kd.C_drewN ?_ _) | (with_reducible refine Kd.C_drew ?_))); (case side4 => exact (Kd.R_reads' HO265.out).2.1); rintro e w' ⟨rfl, ⟨nd, rfl⟩⟩))
      go_ret
      exact ⟨by first | rfl | (simp [errW_none, errW_some] <;> rfl) | (simp [*, errW_none, errW_some] <;> rfl), by repeat (first | (with_reducible first | exact HB.out | apply below_alloc | apply pw_below_drewN | apply below_drew1) | exact HB.out)⟩
  · replace c7 := Bool.eq_false_iff.mpr c7
    subst c7
    have H1 : (some false) = some r := by rw [if_neg (show ¬ (false = true) by decide)] at H; exact H
    clear H
    have H := H1
    clear H1
    obtain rfl := Option.some.inj H
    go_enter Tryd.func3, Tryd.ntmps3
    go_wp2_with (first | ((with_reducible refine gate_callee (f := 9) rfl ?_); refine goesL_ (some 10) rfl rfl Tryd.func9 (by kernel_rfl) rfl #[] rfl (by (try simp only [List.map_toArray, List.map_cons, List.map_nil]); first | done | rfl | (simp only [List.length_drop, List.length_take]; rfl)) ?_; (with_reducible refine (pleacherlaw09_shown.calls  false _ ?side1 A2.out).mono ?_); (case side1 => exact GW.below HG.out (by repeat (first | (with_reducible first | exact HB.out | apply below_alloc | apply pw_below_drewN | apply below_drew1) | exact HB.out))); rintro e w32 ⟨rfl, hb⟩; refine ⟨_, rfl, ?_⟩; have n0_ := Aside0.mk (below_step (by repeat (first | (with_reducible first | exact HB.out | apply below_alloc | apply pw_below_drewN | apply below_drew1) | exact HB.out)) hb); clear HB; have HB := n0_; clear n0_; (try clear hb); (try clear hb2); (try clear hk); (try clear hi)) | ((with_reducible refine gate_callee (f := 11) rfl ?_); refine goesL_ (some 13) rfl rfl Tryd.func11 (by kernel_rfl) rfl #[.string a0] rfl (by (try simp only [List.map_toArray, List.map_cons, List.map_nil]); first | done | rfl | (simp only [List.length_drop, List.length_take]; rfl)) ?_; (with_reducible refine (pleacherlaw09_cut.calls a0 t254 _ A3.out).mono ?_); rintro e w33 ⟨rfl, hb⟩; refine ⟨_, rfl, ?_⟩; have n0_ := Aside0.mk (below_step (by repeat (first | (with_reducible first | exact HB.out | apply below_alloc | apply pw_below_drewN | apply below_drew1) | exact HB.out)) hb); clear HB; have HB := n0_; clear n0_; (try clear hb); (try clear hb2); (try clear hk); (try clear hi)) | ((with_reducible refine gate_callee (f := 10) rfl ?_); refine goesL_ (some 14) rfl rfl Tryd.func10 (by kernel_rfl) rfl #[.string t254] rfl (by (try simp only [List.map_toArray, List.map_cons, List.map_nil]); first | done | rfl | (simp only [List.length_drop, List.length_take]; rfl)) ?_; (with_reducible refine (pax_Get.calls t254 t255 t256 t257 _ ?side1 A4.out).mono ?_); (case side1 => exact GW.below HG.out (by repeat (first | (with_reducible first | exact HB.out | apply below_alloc | apply pw_below_drewN | apply below_drew1) | exact HB.out))); rintro e w34 ⟨v258, rfl, ho0, hb⟩; refine ⟨_, rfl, ?_⟩; have n0_ := Aside0.mk (Kd.R_lower ho0 (below_size (by repeat (first | (with_reducible first | exact HB.out | apply below_alloc | apply pw_below_drewN | apply below_drew1) | exact HB.out)))); have n1_ := Aside0.mk (below_step (by repeat (first | (with_reducible first | exact HB.out | apply below_alloc | apply pw_below_drewN | apply below_drew1) | exact HB.out)) hb); clear HB; have HO259 := n0_; have HB := n1_; clear n0_ n1_; (try clear hb); (try clear hb2); (try clear hk); (try clear hi); (try clear ho0)) | ((with_reducible refine gate_callee (f := 11) rfl ?_); refine goesL_ (some 20) rfl rfl Tryd.func11 (by kernel_rfl) rfl #[.string a0] rfl (by (try simp only [List.map_toArray, List.map_cons, List.map_nil]); first | done | rfl | (simp only [List.length_drop, List.length_take]; rfl)) ?_; (with_reducible refine (pleacherlaw09_cut.calls a0 t260 _ A5.out).mono ?_); rintro e w35 ⟨rfl, hb⟩; refine ⟨_, rfl, ?_⟩; have n0_ := Aside0.mk (Kd.R_below (by (with_reducible repeat (first | apply Kd.R_alloc | apply Kd.R_drewN | apply Kd.R_drew)); exact HO259.out) hb); have n1_ := Aside0.mk (below_step (by repeat (first | (with_reducible first | exact HB.out | apply below_alloc | apply pw_below_drewN | apply below_drew1) | exact HB.out)) hb); clear HO259; clear HB; have HO259 := n0_; have HB := n1_; clear n0_ n1_; (try clear hb); (try clear hb2); (try clear hk); (try clear hi)) | ((with_reducible refine gate_callee (f := 12) rfl ?_); refine goesL_ (some 21) rfl rfl Tryd.func12 (by kernel_rfl) rfl #[.string t260] rfl (by (try simp only [List.map_toArray, List.map_cons, List.map_nil]); first | done | rfl | (simp only [List.length_drop, List.length_take]; rfl)) ?_; (with_reducible refine (pleacherref09_Get.calls k t260 t261 t262 t263 _ A6.out).mono ?_); rintro e w36 ⟨v264, rfl, ho0, hb⟩; refine ⟨_, rfl, ?_⟩; have n0_ := Aside0.mk (Kd.R_elder' (by (with_reducible repeat (first | apply Kd.R_alloc | apply Kd.R_drewN | apply Kd.R_drew)); exact HO259.out) (Kd.R_base ho0) hb); have n1_ := Aside0.mk (Kd.R_lower (Kd.R_new' ho0 (Kd.R_lt (by (with_reducible repeat (first | apply Kd.R_alloc | apply Kd.R_drewN | apply Kd.R_drew)); exact HO259.out))) (below_size (by repeat (first | (with_reducible first | exact HB.out | apply below_alloc | apply pw_below_drewN | apply below_drew1) | exact HB.out)))); have n2_ := Aside0.mk (below_step (by repeat (first | (with_reducible first | exact HB.out | apply below_alloc | apply pw_below_drewN | apply below_drew1) | exact HB.out)) hb); clear HO259; clear HB; have HO259 := n0_; have HO265 := n1_; have HB := n2_; clear n0_ n1_ n2_; (try clear hb); (try clear hb2); (try clear hk); (try clear hi); (try clear ho0)))
    go_ret
    exact ⟨by first | rfl | (simp [errW_none, errW_some] <;> rfl) | (simp [*, errW_none, errW_some] <;> rfl), by repeat (first | (with_reducible first | exact HB.out | apply below_alloc | apply pw_below_drewN | apply below_drew1) | exact HB.out)⟩

end Go.Proofs.YtbcjhmeeonhmaaaDoor.M
end

/-
PaxGets: what the law computes is true.
-/
section
set_option linter.unusedVariables false
set_option maxRecDepth 100000
namespace Go.Proofs.YtbcjhmeeonhmaaaDoor.H
open Go Go.RowKit Go.Proofs.YtbcjhmeeonhmaaaDoorW.PrintWords Go.Proofs.YtbcjhmeeonhmaaaDoorW.PrintMore Go.Proofs.YtbcjhmeeonhmaaaDoor.M

theorem bt_list (s : ByteArray) (i : Nat) (h : i < s.size) (c : UInt8) : bt s (i : Int) = (c.toNat : Int) ↔ s.data.toList[i]? = some c := by
  rw [bytes_list s i h, ← bt_at s (i : Int) (by simpa using h)]
  simp only [Int.toNat_natCast]
  constructor
  · intro e; rw [u8_inj e]
  · intro e; rw [Option.some.inj e]
theorem cutS_some {s : ByteArray} {c : UInt8} {i : Nat} (h : i < s.size) (h1 : bt s (i : Int) = (c.toNat : Int)) (h0 : ∀ j : Nat, j < i → bt s (j : Int) ≠ (c.toNat : Int)) : cutS s c = (s.extract 0 i, s.extract (i + 1) s.size, true) := by
  have e := idx_at ((bt_list s i h c).1 h1) (fun j hj hh => h0 j hj ((bt_list s j (by omega) c).2 hh))
  unfold cutS
  rw [e, if_pos (by omega), Int.toNat_natCast]
theorem cutS_none {s : ByteArray} {c : UInt8} (h0 : ∀ j : Nat, j < s.size → bt s (j : Int) ≠ (c.toNat : Int)) : cutS s c = (s, ⟨#[]⟩, false) := by
  have hg := Lib.indexByte_ge s.data.toList c
  unfold cutS
  obtain ⟨i, hi⟩ : ∃ i, Lib.indexByte s.data.toList c = i := ⟨_, rfl⟩
  rw [hi] at hg ⊢
  by_cases h : 0 ≤ i
  · obtain ⟨o, rfl⟩ := Int.eq_ofNat_of_zero_le h
    have h2 := (Lib.indexByte_some hi).1
    have hlt : o < s.size := by rw [← size_data]; exact (List.getElem?_eq_some_iff.1 h2).1
    exact absurd ((bt_list s o hlt c).2 h2) (h0 o hlt)
  · rw [if_neg h]
/-- What the document's first says. -/
def outF : Option (ByteArray × ByteArray × Nat) → ByteArray × ByteArray × Int
  | none => (⟨#[]⟩, ⟨#[]⟩, 0)
  | some (n, v, m) => (n, v, (m : Int))
theorem refOne_f (n v : ByteArray) (hn : n.size ≤ 1073741824) (hv : v.size ≤ 1073741824) : pleacherref09_One.f n v = some (oneS n v) := by unfold pleacherref09_One.f; rw [if_pos ⟨hn, hv⟩]
theorem first_l1 (x0 : ByteArray) (x5 : Int) (b : ByteArray) (hb : b.size ≤ 1073741824) : ∀ (m k i : Nat), i ≤ b.size → b.size ≤ i + m → (∀ j : Nat, j < i → bt b (j : Int) ≠ 61) →
    ∃ k' a, k ≤ k' ∧ pleacherref09_first.l1 (k + m + 1) x0 x5 b i = pleacherref09_first.j4 k' x0 x5 b (a : Nat) ∧ (∀ j : Nat, j < a → bt b (j : Int) ≠ 61) ∧ (a = b.size ∨ (a < b.size ∧ bt b (a : Int) = 61)) := by
  intro m
  induction m with
  | zero =>
    intro k i h1 h2 h3
    exact ⟨k, i, Nat.le_refl _, by rw [pleacherref09_first.l1, if_neg (by omega)], h3, .inl (by omega)⟩
  | succ m ih =>
    intro k i h1 h2 h3
    by_cases h : i < b.size
    · by_cases hc : bt b (i : Int) = 61
      · exact ⟨k + (m + 1), i, by omega, by rw [pleacherref09_first.l1, if_pos (by omega), if_pos (by omega), if_pos hc], h3, .inr ⟨h, hc⟩⟩
      · obtain ⟨k', a, e1, e2, e3, e4⟩ := ih k (i + 1) (by omega) (by omega) (fun j hj => by
          rcases Nat.lt_succ_iff_lt_or_eq.1 hj with g | g
          · exact h3 j g
          · rw [g]; exact hc)
        refine ⟨k', a, e1, ?_, e3, e4⟩
        rw [show k + (m + 1) + 1 = (k + m + 1) + 1 from by omega, pleacherref09_first.l1, if_pos (by omega), if_pos (by omega), if_neg hc, w64 (by omega) (by omega), show (i : Int) + 1 = ((i + 1 : Nat) : Int) from by omega]
        exact e2
    · exact ⟨k + (m + 1), i, by omega, by rw [pleacherref09_first.l1, if_neg (by omega)], h3, .inl (by omega)⟩
theorem first_l0 (t : ByteArray) : ∀ (m k i : Nat), i ≤ t.size → i ≤ 5 → 5 ≤ i + m → (∀ j : Nat, j < i → bt t (j : Int) ≠ 32) →
    ∃ k' q, k ≤ k' ∧ pleacherref09_first.l0 (k + m + 1) t i = pleacherref09_first.j1 k' t (q : Nat) ∧ (∀ j : Nat, j < q → bt t (j : Int) ≠ 32) ∧ q ≤ 5 ∧ q ≤ t.size ∧ (q = t.size ∨ q = 5 ∨ (q < t.size ∧ bt t (q : Int) = 32)) := by
  intro m
  induction m with
  | zero =>
    intro k i h1 h2 h3 h4
    refine ⟨k, i, Nat.le_refl _, ?_, h4, h2, h1, .inr (.inl (by omega))⟩
    rw [pleacherref09_first.l0]
    by_cases h : i < t.size
    · rw [if_pos (by omega), if_neg (by omega)]
    · rw [if_neg (by omega)]
  | succ m ih =>
    intro k i h1 h2 h3 h4
    by_cases h : i < t.size
    · by_cases h5 : i < 5
      · by_cases hc : bt t (i : Int) = 32
        · exact ⟨k + (m + 1), i, by omega, by rw [pleacherref09_first.l0, if_pos (by omega), if_pos (by omega), if_pos (by omega), if_pos hc], h4, h2, h1, .inr (.inr ⟨h, hc⟩)⟩
        · obtain ⟨k', a, e1, e2, e3, e4⟩ := ih k (i + 1) (by omega) (by omega) (by omega) (fun j hj => by
            rcases Nat.lt_succ_iff_lt_or_eq.1 hj with g | g
            · exact h4 j g
            · rw [g]; exact hc)
          refine ⟨k', a, e1, ?_, e3, e4⟩
          rw [show k + (m + 1) + 1 = (k + m + 1) + 1 from by omega, pleacherref09_first.l0, if_pos (by omega), if_pos (by omega), if_pos (by omega), if_neg hc, w64 (by omega) (by omega), show (i : Int) + 1 = ((i + 1 : Nat) : Int) from by omega]
          exact e2
      · exact ⟨k + (m + 1), i, by omega, by rw [pleacherref09_first.l0, if_pos (by omega), if_neg (by omega)], h4, h2, h1, .inr (.inl (by omega))⟩
    · exact ⟨k + (m + 1), i, by omega, by rw [pleacherref09_first.l0, if_neg (by omega)], h4, h2, h1, .inl (by omega)⟩
/-- The record behind so many digits. -/
def rf (t : ByteArray) (q : Nat) : Option (ByteArray × ByteArray × Nat) :=
  if (ownC 10 (t.extract 0 q)).2 = 0 ∧ (ownC 10 (t.extract 0 q)).1 ≤ t.size ∧ (q : Int) + 2 ≤ (ownC 10 (t.extract 0 q)).1 then
    (if (cutS (t.extract (q + 1) ((ownC 10 (t.extract 0 q)).1.toNat - 1)) 61).2.2 = true then
      (if (oneS (cutS (t.extract (q + 1) ((ownC 10 (t.extract 0 q)).1.toNat - 1)) 61).1 (cutS (t.extract (q + 1) ((ownC 10 (t.extract 0 q)).1.toNat - 1)) 61).2.1).2 = 0 ∧
        (oneS (cutS (t.extract (q + 1) ((ownC 10 (t.extract 0 q)).1.toNat - 1)) 61).1 (cutS (t.extract (q + 1) ((ownC 10 (t.extract 0 q)).1.toNat - 1)) 61).2.1).1 = t.extract 0 (ownC 10 (t.extract 0 q)).1.toNat then
        some ((cutS (t.extract (q + 1) ((ownC 10 (t.extract 0 q)).1.toNat - 1)) 61).1, (cutS (t.extract (q + 1) ((ownC 10 (t.extract 0 q)).1.toNat - 1)) 61).2.1, (ownC 10 (t.extract 0 q)).1.toNat) else none) else none) else none
theorem rf_no {t : ByteArray} {q : Nat} {n e : Int} (ho : ownC 10 (t.extract 0 q) = (n, e)) (h : ¬ (e = 0 ∧ n ≤ (t.size : Int) ∧ (q : Int) + 2 ≤ n)) : rf t q = none := by
  unfold rf; rw [ho]; simp only []; rw [if_neg h]
theorem rf_yes {t : ByteArray} {q n : Nat} (ho : ownC 10 (t.extract 0 q) = ((n : Int), 0)) (h : n ≤ t.size ∧ q + 2 ≤ n) {f v : ByteArray} {ok : Bool} (hb : cutS (t.extract (q + 1) (n - 1)) 61 = (f, v, ok)) :
    rf t q = if ok = true then (if (oneS f v).2 = 0 ∧ (oneS f v).1 = t.extract 0 n then some (f, v, n) else none) else none := by
  unfold rf; rw [ho]; simp only []; rw [if_pos ⟨trivial, by omega, by omega⟩, Int.toNat_natCast, hb]
theorem ownC_bd (b : Nat) (hb : b = 8 ∨ b = 10 ∨ b = 16) (d : ByteArray) : 0 ≤ (ownC b d).1 ∧ (ownC b d).1 < 18446744073709551616 := by
  have h := getC_bd b hb d
  unfold ownC; split
  · exact ⟨by decide, by decide⟩
  · exact ⟨h.1, h.2.1⟩
theorem first_j1 (t : ByteArray) (ht : t.size ≤ 1000) (q k : Nat) (hq : q ≤ 5) (hqs : q ≤ t.size) (hk : 1100 ≤ k) : pleacherref09_first.j1 k t q = some (outF (rf t q)) := by
  obtain ⟨k1, rfl⟩ : ∃ k1, k = k1 + 1 := ⟨k - 1, by omega⟩
  have hds : (t.extract 0 q).size ≤ 5 := by rw [ByteArray.size_extract]; omega
  have hO := ref03_own 10 (by omega) (t.extract 0 q) (by omega) k1 (by omega)
  rw [show ((10 : Nat) : Int) = 10 from rfl] at hO
  rw [pleacherref09_first.j1, if_pos (by omega), if_pos (by omega), Int.toNat_natCast, hO]
  have hbd := ownC_bd 10 (by omega) (t.extract 0 q)
  obtain ⟨o, ho⟩ : ∃ o, ownC 10 (t.extract 0 q) = o := ⟨_, rfl⟩
  obtain ⟨n, e⟩ := o
  rw [ho] at hbd ⊢
  simp only [Option.bind_some] at hbd ⊢
  obtain ⟨n, rfl⟩ := Int.eq_ofNat_of_zero_le hbd.1
  obtain ⟨k2, rfl⟩ : ∃ k2, k1 = k2 + 1 := ⟨k1 - 1, by omega⟩
  rw [wrap_u64 (t.size : Int) (by omega) (by omega)]
  have none_j2 : ∀ N : Int, pleacherref09_first.j2 (k2 + 1) t q N true = some (outF none) := fun N => by rw [pleacherref09_first.j2, if_pos rfl]; rfl
  by_cases he : e = 0
  · subst he
    rw [if_pos rfl]
    by_cases h1 : n ≤ t.size
    · rw [if_neg (by omega), w64 (x := (n : Int)) (by omega) (by omega), w64 (x := (q : Int) + 2) (by omega) (by omega)]
      by_cases h2 : q + 2 ≤ n
      · rw [decide_eq_false (by omega), pleacherref09_first.j2, if_neg (by decide), w64 (by omega) (by omega), wrap_u64 ((n : Int) - 1) (by omega) (by omega), if_pos (by omega), if_pos (by omega), if_pos (by omega)]
        rw [show ((q : Int) + 1).toNat = q + 1 from by omega, show ((n : Int) - 1).toNat = n - 1 from by omega]
        obtain ⟨b, hb⟩ : ∃ b, t.extract (q + 1) (n - 1) = b := ⟨_, rfl⟩
        have hbs : b.size ≤ 1000 := by rw [← hb, ByteArray.size_extract]; omega
        obtain ⟨k3, hk3⟩ : ∃ k3, k2 = k3 + b.size + 1 := ⟨k2 - 1 - b.size, by omega⟩
        rw [hb, hk3]
        obtain ⟨k', a, e1, e2, e3, e4⟩ := first_l1 t (n : Int) b (by omega) b.size k3 0 (by omega) (by omega) (fun j hj => by omega)
        rw [show ((0 : Nat) : Int) = 0 from rfl] at e2
        rw [e2]
        obtain ⟨k4, rfl⟩ : ∃ k4, k' = k4 + 1 := ⟨k' - 1, by omega⟩
        rw [pleacherref09_first.j4]
        rcases e4 with rfl | ⟨e4, e5⟩
        · rw [if_pos rfl]
          have hcn := cutS_none (s := b) (c := 61) (fun j hj => e3 j hj)
          have hY := rf_yes (f := b) (v := ⟨#[]⟩) (ok := false) ho ⟨h1, h2⟩ (by rw [hb]; exact hcn)
          rw [hY, if_neg (by decide)]; rfl
        · have hcs := cutS_some (s := b) (c := 61) e4 e5 (fun j hj => e3 j hj)
          rw [if_neg (by omega), if_pos (by omega), if_pos (by omega), w64 (by omega) (by omega), if_pos (by omega), if_pos (by omega), Int.toNat_natCast, show ((a : Int) + 1).toNat = a + 1 from by omega]
          have hY := rf_yes (f := b.extract 0 a) (v := b.extract (a + 1) b.size) (ok := true) ho ⟨h1, h2⟩ (by rw [hb]; exact hcs)
          rw [hY, if_pos rfl]
          obtain ⟨f, hf⟩ : ∃ f, b.extract 0 a = f := ⟨_, rfl⟩
          obtain ⟨v, hv⟩ : ∃ v, b.extract (a + 1) b.size = v := ⟨_, rfl⟩
          have hfs : f.size ≤ 1000 := by rw [← hf, ByteArray.size_extract]; omega
          have hvs : v.size ≤ 1000 := by rw [← hv, ByteArray.size_extract]; omega
          rw [hf, hv, refOne_f f v (by omega) (by omega)]
          simp only [Option.bind_some]
          by_cases h3 : (oneS f v).2 = 0
          · rw [if_pos h3, if_pos (by omega), if_pos (by omega), Int.toNat_natCast]
            by_cases h4 : (oneS f v).1 = t.extract 0 n
            · rw [if_pos (toList_inj.2 h4), if_pos ⟨h3, h4⟩, w64 (by omega) (by omega)]; rfl
            · rw [if_neg (fun e => h4 (toList_inj.1 e)), if_neg (fun e => h4 e.2)]; rfl
          · rw [if_neg h3, if_neg (fun e => h3 e.1)]; rfl
      · rw [decide_eq_true (by omega), none_j2, rf_no ho (fun e => h2 (by omega))]
    · rw [if_pos (by omega), none_j2, rf_no ho (fun e => h1 (by omega))]
  · rw [if_neg he, none_j2, rf_no ho (fun e => he e.1)]
theorem own_back {d : ByteArray} {n : Nat} (h : ownC 10 d = ((n : Int), 0)) : putS 10 n = d := by
  unfold ownC at h
  by_cases h1 : (getC 10 d).2 = 0 ∧ putS 10 (getC 10 d).1.toNat ≠ d
  · rw [if_pos h1] at h; cases h
  · rw [if_neg h1] at h
    rw [h] at h1
    simp only [Int.toNat_natCast] at h1
    by_cases h2 : putS 10 n = d
    · exact h2
    · exact absurd ⟨trivial, h2⟩ h1
/-- Behind the digits of a record there is a space. -/
theorem one_space {t d f v : ByteArray} {n : Nat} (hd : ownC 10 d = ((n : Int), 0)) (hn : n ≤ t.size) (h : (oneS f v).2 = 0 ∧ (oneS f v).1 = t.extract 0 n) : d.size < n ∧ bt t (d.size : Int) = 32 := by
  have hone := oneS_yes' h.1
  obtain ⟨b1, b2, b3⟩ := isOneB_bd hone
  have hL := restS_size f v
  have hm := (szL_min (L := (restS f v).size) (by omega) (by omega)).1
  obtain ⟨K, hK⟩ : ∃ K, szL (restS f v).size = K := ⟨_, rfl⟩
  rw [hK] at hm
  have hx : (oneS f v).1 = putS 10 K ++ restS f v := by unfold oneS; rw [if_pos hone, hK]
  unfold dgl at hm
  have hz : (putS 10 K ++ restS f v).size = K := by rw [ByteArray.size_append]; omega
  have e := h.2
  rw [hx] at e
  have hz2 : (t.extract 0 n).size = n := by rw [ByteArray.size_extract]; omega
  rw [e, hz2] at hz
  subst hz
  rw [own_back hd] at e hm
  have hlt : d.size < n := by omega
  refine ⟨hlt, ?_⟩
  have hl : (d ++ restS f v).data.toList[d.size]? = some 32 := by
    have hd0 := size_data d
    have hr : (restS f v).data.toList = 32 :: (f ++ ((⟨#[61]⟩ : ByteArray) ++ v) ++ (⟨#[10]⟩ : ByteArray)).data.toList := by
      unfold restS; simp only [app_list, List.append_assoc]; rfl
    rw [app_list, hr, List.getElem?_append_right (by omega), hd0, Nat.sub_self]; rfl
  rw [e, ext_list, List.drop_zero, Nat.sub_zero, List.getElem?_take_of_lt hlt] at hl
  exact (bt_list t d.size (by omega) 32).2 hl
theorem rf_first (t : ByteArray) (q : Nat) (h0 : ∀ j : Nat, j < q → bt t (j : Int) ≠ 32) (hq : q ≤ 5) (hqs : q ≤ t.size) (h1 : q = t.size ∨ q = 5 ∨ (q < t.size ∧ bt t (q : Int) = 32)) : rf t q = firstS t := by
  have hds : (t.extract 0 q).size = q := by rw [ByteArray.size_extract]; omega
  by_cases hsp : q < t.size ∧ bt t (q : Int) = 32
  · have hc := cutS_some (s := t) (c := 32) hsp.1 hsp.2 h0
    have hbd := ownC_bd 10 (by omega) (t.extract 0 q)
    obtain ⟨o, ho⟩ : ∃ o, ownC 10 (t.extract 0 q) = o := ⟨_, rfl⟩
    obtain ⟨n, e⟩ := o
    rw [ho] at hbd
    obtain ⟨n, rfl⟩ := Int.eq_ofNat_of_zero_le hbd.1
    by_cases hok : e = 0 ∧ n ≤ t.size ∧ q + 2 ≤ n
    · obtain ⟨rfl, g1, g2⟩ := hok
      obtain ⟨c, hcc⟩ : ∃ c, cutS (t.extract (q + 1) (n - 1)) 61 = c := ⟨_, rfl⟩
      obtain ⟨f, v, ok⟩ := c
      rw [rf_yes ho ⟨g1, g2⟩ hcc, firstS_3 (f := f) (v := v) (ok := ok) hc (by omega) ho ⟨g1, by omega⟩ (by rw [hds]; exact hcc)]
    · rw [rf_no ho (fun e => hok ⟨e.1, by omega, by omega⟩), firstS_2 hc (by omega) ho (fun e => hok ⟨e.1, by omega, by omega⟩)]
  · -- no space there: no record
    have hf : firstS t = none := by
      obtain ⟨c, hc⟩ : ∃ c, cutS t 32 = c := ⟨_, rfl⟩
      obtain ⟨d, d2, ok⟩ := c
      refine firstS_1 hc (fun hh => ?_)
      obtain ⟨rfl, hd5⟩ := hh
      unfold cutS at hc
      obtain ⟨i, hi⟩ : ∃ i, Lib.indexByte t.data.toList 32 = i := ⟨_, rfl⟩
      rw [hi] at hc
      by_cases hi0 : 0 ≤ i
      · obtain ⟨i, rfl⟩ := Int.eq_ofNat_of_zero_le hi0
        rw [if_pos hi0] at hc
        injection hc with hc _
        rw [Int.toNat_natCast] at hc
        have g := (Lib.indexByte_some hi).1
        have hlt : i < t.size := by rw [← size_data]; exact (List.getElem?_eq_some_iff.1 g).1
        have hb := (bt_list t i hlt 32).2 g
        have hsz : d.size = i := by rw [← hc, ByteArray.size_extract]; omega
        have hge : q ≤ i := by
          by_cases hh : q ≤ i
          · exact hh
          · exact absurd hb (h0 i (by omega))
        have hne : q ≠ i := by rintro rfl; exact hsp ⟨hlt, hb⟩
        omega
      · rw [if_neg hi0] at hc
        cases hc
    rw [hf]
    have hbd := ownC_bd 10 (by omega) (t.extract 0 q)
    obtain ⟨o, ho⟩ : ∃ o, ownC 10 (t.extract 0 q) = o := ⟨_, rfl⟩
    obtain ⟨n, e⟩ := o
    rw [ho] at hbd
    obtain ⟨n, rfl⟩ := Int.eq_ofNat_of_zero_le hbd.1
    by_cases hok : e = 0 ∧ n ≤ t.size ∧ q + 2 ≤ n
    · obtain ⟨rfl, g1, g2⟩ := hok
      obtain ⟨c, hcc⟩ : ∃ c, cutS (t.extract (q + 1) (n - 1)) 61 = c := ⟨_, rfl⟩
      obtain ⟨f, v, ok⟩ := c
      rw [rf_yes ho ⟨g1, g2⟩ hcc]
      cases ok with
      | false => rw [if_neg (by decide)]
      | true =>
        rw [if_pos rfl]
        by_cases h5 : (oneS f v).2 = 0 ∧ (oneS f v).1 = t.extract 0 n
        · have := one_space ho g1 h5
          rw [hds] at this
          exact absurd ⟨by omega, this.2⟩ hsp
        · rw [if_neg h5]
    · exact rf_no ho (fun e => hok ⟨e.1, by omega, by omega⟩)
theorem first_f (t : ByteArray) (ht : t.size ≤ 1000) (k : Nat) (hk : 1110 ≤ k) : pleacherref09_first.f k t = some (outF (firstS t)) := by
  obtain ⟨j, rfl⟩ : ∃ j, k = j + 5 + 1 := ⟨k - 6, by omega⟩
  unfold pleacherref09_first.f
  obtain ⟨k', q, e1, e2, e3, e4, e5, e6⟩ := first_l0 t 5 j 0 (by omega) (by omega) (by omega) (fun j hj => by omega)
  rw [show ((0 : Nat) : Int) = 0 from rfl] at e2
  rw [e2, first_j1 t ht q k' e4 e5 (by omega), rf_first t q e3 e4 e5 e6]

def getsEnd (s : ByteArray) : List At × Option ByteArray → List At × Int × Int
  | (xs, none) => (xs, 0, 0)
  | (_, some t) => ([], (s.size : Int) - t.size, 90)
theorem ext_ext (s : ByteArray) (a b : Nat) (h : a + b ≤ s.size) : (s.extract a s.size).extract b (s.extract a s.size).size = s.extract (a + b) s.size := by
  have hs := size_data s
  refine data_ext ?_
  rw [ext_list, ext_list, ext_list, ByteArray.size_extract]
  rw [List.take_of_length_le (l := List.drop a _) (by rw [List.length_drop]; omega), List.drop_drop, List.take_of_length_le (by rw [List.length_drop]; omega), List.take_of_length_le (by rw [List.length_drop]; omega)]
theorem ref_get_l (s : ByteArray) (hs : s.size ≤ 1000) : ∀ (m k at_ : Nat) (pre : List At), at_ ≤ s.size → pre.length + m = 40 → pre.length ≤ 30 → 1110 ≤ k →
    pleacherref09_Get.l0 (k + m) s pre at_ = some (getsEnd s (recF m pre (s.extract at_ s.size))) := by
  intro m
  induction m with
  | zero => intro k at_ pre h1 h2 h3 h4; omega
  | succ m ih =>
    intro k at_ pre h1 h2 h3 h4
    have hsz : (s.extract at_ s.size).size = s.size - at_ := by rw [ByteArray.size_extract]; omega
    rw [show k + (m + 1) = (k + m) + 1 from by omega, pleacherref09_Get.l0, recF]
    by_cases h : at_ < s.size
    · rw [if_pos (by omega), if_pos (by omega), if_pos (by omega), Int.toNat_natCast, if_neg (by omega), first_f _ (by omega) _ (by omega)]
      simp only [Option.bind_some]
      have hend : some (([] : List At), (at_ : Int), (90 : Int)) = some (getsEnd s (pre, some (s.extract at_ s.size))) := by
        unfold getsEnd
        simp only []
        rw [hsz, show (s.size : Int) - ((s.size - at_ : Nat) : Int) = at_ from by omega]
      cases hf : firstS (s.extract at_ s.size) with
      | none =>
        simp only [outF]
        rw [rfind_f _ _ (by omega) _ (by omega)]
        simp only [Option.bind_some, if_true]
        exact hend
      | some p =>
        obtain ⟨n, v, c⟩ := p
        have hc := (firstS_some hf).2
        rw [show outF (some (n, v, c)) = (n, v, (c : Int)) from rfl]
        dsimp only
        rw [rfind_f _ _ (by omega) _ (by omega), Option.bind_some]
        rw [if_neg (show ¬ ((c : Int) = 0) by omega)]
        have hi := findS_iff pre n
        by_cases g1 : (findS pre n).2 = true
        · rw [if_pos g1, if_neg (fun e => e.2 (hi.1 g1))]; exact hend
        · rw [if_neg g1]
          have g1' : n ∉ pre.map (·.f0) := fun e => g1 (hi.2 e)
          by_cases g2 : pre.length = 30
          · rw [if_pos (show ((pre.length : Int) = 30) by omega), if_neg (fun e => by omega)]; exact hend
          · rw [if_neg (show ¬ ((pre.length : Int) = 30) by omega), if_pos (by omega), if_pos ⟨by omega, g1'⟩, w64 (by omega) (by omega), show (at_ : Int) + (c : Int) = ((at_ + c : Nat) : Int) from by omega]
            rw [ih k (at_ + c) (pre ++ [(⟨n, v⟩ : At)]) (by omega) (by simp; omega) (by simp; omega) h4, ext_ext s at_ c (by omega)]
    · rw [if_neg (by omega), if_pos (by omega)]; rfl
theorem ref_get_f (s : ByteArray) (hs : s.size ≤ 1000) (k : Nat) (hk : 1150 ≤ k) : pleacherref09_Get.f k s = some (getsS s) := by
  obtain ⟨j, rfl⟩ : ∃ j, k = j + 40 := ⟨k - 40, by omega⟩
  unfold pleacherref09_Get.f
  have := ref_get_l s hs 40 j 0 [] (by omega) (by simp) (by simp) (by omega)
  rw [show ((0 : Nat) : Int) = 0 from rfl] at this
  rw [this, ByteArray.extract_zero_size]
  unfold getsS getsEnd
  rfl
theorem paxGets_f (s : ByteArray) : pleacherlaw09_PaxGets.f 2100 s = some true := by
  unfold pleacherlaw09_PaxGets.f
  rw [shown_f, cut_f]
  obtain ⟨c, hc⟩ : ∃ c, s.extract 0 (min s.size 1000) = c := ⟨_, rfl⟩
  have hz : c.size ≤ 1000 := by rw [← hc, ByteArray.size_extract]; omega
  have hl := gets_len c
  rw [hc]
  simp only [Option.bind_some, if_true]
  rw [get_f c (by omega), ref_get_f c hz _ (by omega)]
  simp only [Option.bind_some]
  rw [attrs_f _ (by omega) _ (by omega)]
  simp only [Option.bind_some, if_true, beq_self_eq_true]
end Go.Proofs.YtbcjhmeeonhmaaaDoor.H
end

/-
The row and card of PaxGets.
-/
section
set_option linter.unusedVariables false
set_option maxRecDepth 100000
namespace Go.Proofs.YtbcjhmeeonhmaaaDoor.H
open Go Go.ChangeShapes Go.WideShapes Go.ChangeAt Go.RowKit Go.Proofs.YtbcjhmeeonhmaaaDoorW.PrintWords Go.Proofs.YtbcjhmeeonhmaaaDoorW.PrintMore Go.Proofs.YtbcjhmeeonhmaaaDoor.M

/-- a text. -/
theorem gets_contract (H : Type) (enc : TypeId × Value → H) (W : World) (base : Nat) (args : Array Value) (ds gs : List (DataW H)) (before : List MemPlace)
    (hval : ∀ (j : Nat) t v, Tryd.f3.params[j]? = some t → args[j]? = some v → Value.okWide Tryd.prog W .any base t v)
    (hW : DataW.Whole enc Tryd.prog Tryd.f3.params.toList Rows.paxGetsSpec.vars false W args.toList ds gs before) (hL : laidMetH Tryd.prog Rows.paxGetsRow.laid W) :
    Calls Tryd.prog 3 args W fun e W' => ∃ v, e = .returned v ∧ Rows.paxGetsSpec.post enc Tryd.prog Tryd.f3 false true false false W args v W' := by
  have hW' := hW
  have hlt := hW.lt
  obtain ⟨p, q, hA0, hV, rfl, hfz, hnd⟩ := hW
  have hA : DataW.TrodAll enc Tryd.prog W 0 (fun _ => true) true Tryd.f3.params.toList args.toList ds p := hA0
  rw [Tryd.params3] at hA hval
  obtain ⟨v0, vs0, d0, ds0, p0, q0, hargs, rfl, rfl, h0, r0⟩ := trodAll_cons hA
  obtain ⟨rfl, rfl, rfl⟩ := trodAll_nil r0
  obtain rfl : args = #[v0] := by cases args; simp_all
  obtain ⟨rfl, rfl⟩ := trodVars_none hV
  obtain ⟨n, rfl, _⟩ := Go.ChangeMaps.open_string Tryd.underlying9 (hval 0 9 v0 rfl rfl) h0
  refine (pleacherlaw09_PaxGets.calls 2100 n true W (gw_of_laid hL) (paxGets_f n)).mono fun e W' ⟨he, hb⟩ => ?_
  subst he
  refine ⟨_, rfl, post_true hW' rfl (by kernel_rfl) ⟨rfl, rfl, rfl⟩ (pa := p0 ++ []) ?_ hb (by simp)⟩
  rw [Tryd.params3]
  have hl2 : ∀ x ∈ p0, x.block < W.heap.size := fun x hx => hlt x (by simpa using hx)
  exact trodAll_cons_mk (Below.trod laidOutA readS rowsS h0 hb hl2) trodAll_mk0
/-- The witness' argument: a text. -/
def wargsG : Array Value := #[.string ⟨#[]⟩]
theorem gets_reads (os : Os) {H : Type} (enc : TypeId × Value → H) : ∃ places, DataW.whole enc Tryd.prog ((World.doorLaid Tryd.prog 54 os).forCall (fun _ _ => 0) ⟨#[], wargsG, []⟩).memory Tryd.f3.params.toList Rows.paxGetsSpec.vars false wargsG.toList 8 = some ([.lit (.string [])], [], places) :=
  ⟨[], by kernel_rfl⟩
/-- THE ROW's STEP. -/
theorem gets_lifted (os : Os) (started : os.Started) (H : Type) (enc : TypeId × Value → H) (F : Stop.Interp) :
    ReturnsInHanded {} Tryd.checked os 3 .any ((OpenSpec.ofChange Rows.paxGetsSpec).preRow enc Tryd.prog Tryd.f3 Rows.paxGetsRow.domain false Rows.paxGetsRow.laid) (((OpenSpec.ofChange Rows.paxGetsSpec).at F).post enc Tryd.prog Tryd.f3 false true false false) := by
  obtain ⟨places, hx⟩ := gets_reads os enc
  refine returnsInHanded_of_row (C := Tryd.checked) (s := OpenSpec.ofChange Rows.paxGetsSpec) own started (by kernel_rfl) Tryd.func3
    (witness_row_atRef (enc := enc) (C := Tryd.checked) false (World.doorLaid Tryd.prog 54 os) wargsG rfl (by kernel_rfl) (by kernel_rfl) (by kernel_rfl)
      (OpenSpec.preRow_of_cond 8 hx (by kernel_rfl) (fun k hk => by cases hk) (by kernel_rfl) (door_met os _))) ?_
  intro W base args ds gs before hval hW _ _ _ hL _ _
  exact gets_contract H enc W base args ds gs before hval hW hL
theorem gets_said : Rows.PaxGetsSaid :=
  OpenClaim.holds_of_cond 3 Tryd.f3 rfl rfl rfl rfl rfl rfl rfl ⟨rfl, rfl, rfl, rfl, rfl⟩ rfl rfl rfl rfl rfl (by kernel_rfl) Tryd.func3 (by kernel_rfl)
    (of_decide_eq_true (by kernel_rfl)) (by unfold Func.isWrapper; first | (rw [if_pos (by decide +kernel)]; kernel_rfl) | (rw [if_neg (by decide +kernel)]; exact ⟨rfl, rfl⟩))
    (fun os started H enc _ F => by rw [OpenClaim.pre_eq_preRow]; exact gets_lifted os started H enc F)
theorem gets_plain (f : FuncId) (fn : Func) (hf : Tryd.pinned.checked.prog.funcNamed "pleacher/pleacherlaw09.PaxGets" = some f) (hfn : Tryd.pinned.checked.prog.funcs[f]? = some fn) :
    true = Tryd.pinned.checked.prog.looks [] ∧ ∀ (j : Nat) t, fn.params[j]? = some t → Tryd.pinned.checked.prog.wantsStandIn t = false := by
  obtain rfl : f = 3 := Option.some.inj ((show Tryd.prog.funcNamed "pleacher/pleacherlaw09.PaxGets" = some 3 by kernel_rfl).symm.trans hf) |>.symm
  obtain rfl : fn = Tryd.f3 := (Option.some.inj (Tryd.func3.symm.trans hfn)).symm
  refine ⟨by kernel_rfl, fun j t ht => ?_⟩
  rw [Tryd.params3] at ht
  have ht := Array.mem_of_getElem? ht
  obtain rfl : t = 9 := by simpa using ht
  exact (show Tryd.prog.wantsStandIn 9 = false by kernel_rfl)
/-- THE CARD of PaxGets. -/
theorem gets_card : Rows.PaxGetsCardSaid :=
  Claim7.holds_tied_plain_at .later [] _ _ _ _ gets_said (fun _ h => by cases h) (by kernel_rfl) (fun _ h => by cases h) paxGets_row_tie rfl ⟨rfl, rfl⟩ (by kernel_rfl) rfl gets_plain (by kernel_rfl)
end Go.Proofs.YtbcjhmeeonhmaaaDoor.H
end
