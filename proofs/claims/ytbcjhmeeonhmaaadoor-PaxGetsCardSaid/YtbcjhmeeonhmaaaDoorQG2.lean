/-
Part 2 of: The statement about PaxGets, as a card: for every argument the law's answer is 'true'. There is no condition.
-/
import Derived.Test.YtbcjhmeeonhmaaaDoorQG1
import Derived.RangeFuncBox
import Derived.Maps.AppendAt
import Derived.Shelf.Strings.Builder1
import Derived.Shelf.Strings.BuilderF
import Derived.Shelf.Strings.BuilderK
import Derived.Shelf.Strings.Search1
import Derived.Shelf.Strings.Search2
import Derived.Shelf.Strings.Search3
import Derived.Shelf.Strings.Cut
import Derived.Shelf.LaysM
import Derived.Shelf.Strings.Shaped
import Derived.Shelf.Strings.BuilderCap
import Derived.Test.YtbcjhmeeonhmaaaDoorProg
import Derived.Lib.IndexLaws
import Derived.Laws.LoneSync
import Derived.RangeFuncRecord
import Derived.Lib.BufferOwn
import Derived.Laws.Rows
import Derived.ScopeJumps
import Derived.BigRegion
import Derived.Lib.Builder
import Derived.Lib.FrozenHead
import Derived.Lib.OthersKept
set_option linter.unusedVariables false
set_option linter.unusedSimpArgs false
-- Laid by a program of this session for this claim.
section
namespace Go.Proofs.YtbcjhmeeonhmaaaDoor.M
open Go.RowKit Go.Proofs.YtbcjhmeeonhmaaaDoorW.PrintWords Go.Proofs.YtbcjhmeeonhmaaaDoorW.PrintLast Go.Proofs.YtbcjhmeeonhmaaaDoorW.PrintMore
attribute [local go_sem] max2_int min2_int max_two min_two max_three min_three max_four min_four   -- for this text's walks alone
set_option linter.unusedVariables false
set_option linter.unusedSimpArgs false

/-! ### slices_Reverse_byte_byte: function 41 -/
def slices_Reverse_byte_byte.l0 : Nat → List Int → Int → Int → Option (List Int)
  | 0, _, _, _ => none
  | k + 1, x0, x2, x3 => if x2 < x3 then (if 0 ≤ x3 then (if x3 < (x0.length : Int) then (if 0 ≤ x2 then (if x2 < (x0.length : Int) then (slices_Reverse_byte_byte.l0 k ((x0.set (x2 : Int).toNat (rd x0 x3)).set (x3 : Int).toNat (rd x0 x2)) (wrap64 (x2 + 1)) (wrap64 (x3 - 1))) else (none)) else (none)) else (none)) else (none)) else (some x0)
def slices_Reverse_byte_byte.f (k : Nat) (l0 : List Int) : Option (List Int) := slices_Reverse_byte_byte.l0 k l0 0 (wrap64 ((l0.length : Int) - 1))
def slices_Reverse_byte_byte.T3 : Bool × List (List Nat × List Nat) := (true, [([], []), ([], []), ([], []), ([], []), ([], []), ([], []), ([4, 5], [4, 5]), ([6], [6]), ([], []), ([], []), ([8, 9], [8, 9]), ([10], [10]), ([0, 1, 0, 1, 4, 5, 6, 7, 11], [0, 1]), ([12, 7, 0, 1, 4, 5, 6, 7, 11], [7, 12]), ([2, 3, 0, 1, 2, 3, 4, 5, 6, 7, 8, 9, 10, 11, 12, 13], [2, 3]), ([14, 11, 13, 0, 1, 2, 3, 4, 5, 6, 7, 8, 9, 10, 11, 12, 13], [11, 14])])
def slices_Reverse_byte_byte.B3 : List Nat := [0, 0, 0, 0, 0, 0, 48, 112, 0, 0, 768, 1792, 4083, 8179, 16383, 32767]
theorem slices_Reverse_byte_byte.tab3 : rtab .any (opsOf Tryd.f41 3) = slices_Reverse_byte_byte.T3 := by kernel_rfl
theorem slices_Reverse_byte_byte.bits3 : waitsOk slices_Reverse_byte_byte.T3.2 slices_Reverse_byte_byte.B3 = true := by kernel_rfl
set_option maxHeartbeats 8000000 in
set_option maxRecDepth 100000 in
theorem slices_Reverse_byte_byte.calls (k : Nat) (P0_ : Nat → Prop) (u9000_ : Value) (l0 : List Int) (r : List Int) (w0 w : World) (hB : Below w0.heap.size w0 w) (ho0 : Kd.R (Kd.int .u8) 5 w w0.heap.size P0_ u9000_ l0) (h : slices_Reverse_byte_byte.f k l0 = some r) :
    Calls Tryd.prog 41 #[u9000_] w fun e w' => e = .returned (.tuple #[]) ∧ Kd.R (Kd.int .u8) 5 w' w0.heap.size (fun k_ => (P0_ k_ ∨ w.heap.size ≤ k_)) u9000_ r ∧ Below w0.heap.size w0 w' ∧ Kept w w' (fun k_ => P0_ k_) := by
  have HO0 := Aside0.mk (show Kd.R (Kd.int .u8) 5 w w0.heap.size (fun k_ => (P0_ k_ ∨ w.heap.size ≤ k_)) u9000_ l0 from Kd.R_mono ho0 (fun k_ hk => (.inl hk)))
  have HK := Aside0.mk (Kept.refl w (fun k_ => P0_ k_))
  have HW0 := Aside0.mk hB.size
  have HB := Aside0.mk hB
  clear hB
  have H : (slices_Reverse_byte_byte.l0 k l0 0 (wrap64 ((l0.length : Int) - 1))) = some r := h
  clear h
  have H' := Aside0.mk H
  clear H
  obtain ⟨Ao2, co2, eo2⟩ := Kd.R_slice HO0.out
  subst eo2
  go_enter Tryd.func41, Tryd.ntmps41
  go_wp2
  go_loopg [2, 3] k (fun kq v2 v3 w' => ∃ (x0_1 : List Int) (x2_1 : Int) (x3_1 : Int), v2 = .int .i64 x2_1 ∧ v3 = .int .i64 x3_1 ∧ Aside0 (slices_Reverse_byte_byte.l0 kq x0_1 x2_1 x3_1 = some r) ∧ Aside0 (kq ≤ k) ∧ Aside0 (Kd.R (Kd.int .u8) 5 w' w0.heap.size (fun k_ => (P0_ k_ ∨ w.heap.size ≤ k_)) (.slice Ao2 l0.length co2) x0_1) ∧ Aside0 (Kept w w' (fun k_ => P0_ k_)) ∧ Aside0 (Below w0.heap.size w0 w'))
  case atStart => exact ⟨(l0), (0), (wrap64 ((l0.length : Int) - 1)), (by first | rfl | (simp; done) | (simp [*]; done)), (by first | rfl | (simp; done) | (simp [*]; done)), H', ⟨Nat.le_refl _⟩, ⟨by (with_reducible repeat (first | apply Kd.R_alloc | apply Kd.R_drewN | apply Kd.R_drew)); exact HO0.out⟩, ⟨by repeat (first | (with_reducible first | exact HK.out | apply Kept.alloc | apply Kept.drewN | apply Kept.drew) | exact HK.out)⟩, ⟨by repeat (first | (with_reducible first | exact HB.out | apply below_alloc | apply pw_below_drewN | apply below_drew1) | exact HB.out)⟩⟩
  case round =>
    clear H'
    try clear p2
    obtain ⟨x0_1, x2_1, x3_1, rfl, rfl, HA, HK1, HO_0, HK, HB⟩ := hrel
    have hl0_1 := (Kd.R_reads' HO_0.out).1
    rw [hl0_1] at HO_0
    (try simp only [hl0_1])
    cases gk with
    | zero => exact absurd HA.out (by simp [slices_Reverse_byte_byte.l0])
    | succ k1 =>
      have H := HA.out
      clear HA
      simp only [slices_Reverse_byte_byte.l0] at H
      by_cases c3 : x2_1 < x3_1
      · rw [if_pos c3] at H
        have c3b0 : decide (x2_1 < x3_1) = true := decide_eq_true c3
        clear c3
        by_cases c4 : 0 ≤ x3_1
        · rw [if_pos c4] at H
          have c4b0 : decide (0 ≤ x3_1) = true := decide_eq_true c4
          clear c4
          by_cases c5 : x3_1 < (x0_1.length : Int)
          · rw [if_pos c5] at H
            have c5b0 : decide (x3_1 < (x0_1.length : Int)) = true := decide_eq_true c5
            clear c5
            by_cases c6 : 0 ≤ x2_1
            · rw [if_pos c6] at H
              have c6b0 : decide (0 ≤ x2_1) = true := decide_eq_true c6
              clear c6
              by_cases c7 : x2_1 < (x0_1.length : Int)
              · rw [if_pos c7] at H
                have c7b0 : decide (x2_1 < (x0_1.length : Int)) = true := decide_eq_true c7
                clear c7
                obtain ⟨y103, hy103⟩ : ∃ y_ : List Int, y_ = (x0_1.set (x2_1 : Int).toNat (rd x0_1 x3_1)) := ⟨_, rfl⟩
                replace H : (slices_Reverse_byte_byte.l0 k1 (y103.set (x3_1 : Int).toNat (rd x0_1 x2_1)) (wrap64 (x2_1 + 1)) (wrap64 (x3_1 - 1))) = some r := by first | (rw [hy103]; with_reducible exact H) | (have H2_ := (Option.bind_some _ _).symm.trans H; rw [hy103]; with_reducible exact H2_) | (have H2_ := (Option.bind_some _ _).symm.trans H; with_reducible exact H2_) | with_reducible exact H | (rw [hy103]; exact H) | exact H
                have Ny103 := Aside0.mk hy103
                clear hy103
                obtain ⟨y104, hy104⟩ : ∃ y_ : List Int, y_ = (y103.set (x3_1 : Int).toNat (rd x0_1 x2_1)) := ⟨_, rfl⟩
                replace H : (slices_Reverse_byte_byte.l0 k1 y104 (wrap64 (x2_1 + 1)) (wrap64 (x3_1 - 1))) = some r := by first | (rw [hy104]; with_reducible exact H) | (have H2_ := (Option.bind_some _ _).symm.trans H; rw [hy104]; with_reducible exact H2_) | (have H2_ := (Option.bind_some _ _).symm.trans H; with_reducible exact H2_) | with_reducible exact H | (rw [hy104]; exact H) | exact H
                have Ny104 := Aside0.mk hy104
                clear hy104
                have H' := Aside0.mk H
                clear H
                try go_wp2
                have n0_ := Aside0.mk (Kd.R_drew HO_0.out)
                have n1_ := Aside0.mk (Kept.drew HK.out)
                have n2_ := Aside0.mk (below_drew1 HB.out)
                clear HO_0
                clear HK
                clear HB
                have HO_0 := n0_
                have HK := n1_
                have HB := n2_
                clear n0_ n1_ n2_
                have p101 : 0 ≤ (x3_1 : Int) := of_decide_eq_true (by first | (with_reducible assumption) | assumption)
                have q101 : x3_1 < (x0_1.length : Int) := of_decide_eq_true (by first | (with_reducible assumption) | assumption)
                obtain ⟨ad101, e101, hx101_0⟩ := Kd.at_int (Kd.R_reads' HO_0.out).2.2 x3_1 p101 q101
                cases e101
                replace p101 := eq_true p101
                replace q101 := eq_true q101
                have p102 : 0 ≤ (x2_1 : Int) := of_decide_eq_true (by first | (with_reducible assumption) | assumption)
                have q102 : x2_1 < (x0_1.length : Int) := of_decide_eq_true (by first | (with_reducible assumption) | assumption)
                obtain ⟨ad102, e102, hx102_0⟩ := Kd.at_int (Kd.R_reads' HO_0.out).2.2 x2_1 p102 q102
                obtain rfl : ad101 = ad102 := (by injection e102)
                replace p102 := eq_true p102
                replace q102 := eq_true q102
                have p8 : 0 ≤ (x2_1 : Int) := of_decide_eq_true (by first | (with_reducible assumption) | assumption)
                have q8 : (x2_1 : Int) < ((x0_1.length : Int) : Int) := of_decide_eq_true (by first | (with_reducible assumption) | assumption)
                obtain ⟨go8, co8, eo8, gb8, gl8, cl8, HG8⟩ := Kd.R_form HO_0.out (by omega)
                (first | cases eo8 | (injection eo8 with ea_ en_ ec_; (first | subst ea_ | (injection ea_ with ea_; subst ea_)); subst ec_; clear en_))
                have GB8 := Aside0.mk gb8
                have GG8 := Aside0.mk HG8
                clear gb8 gl8 HG8
                have HMgo8 := Aside0.mk (show (P0_ go8 ∨ w.heap.size ≤ go8) from (HO_0.out.1 _ rfl))
                (first | simp only [add_plain] at hx101_0 | skip)
                (first | simp only [add_plain] at hx102_0 | skip)
                obtain ⟨hx8_0, hf8_0⟩ := Kd.R_celln 0 HO_0.out (x2_1 : Int) p8 q8
                replace p8 := eq_true p8
                replace q8 := eq_true q8
                have HP11 := Kd.R_putn HO_0.out (x2_1 : Int) (rd x0_1 x3_1)
                rw [← Ny103.out] at HP11
                have HQ11 := Aside0.mk HP11
                clear HP11
                have p9 : 0 ≤ (x3_1 : Int) := of_decide_eq_true (by first | (with_reducible assumption) | assumption)
                have q9 : (x3_1 : Int) < ((x0_1.length : Int) : Int) := of_decide_eq_true (by first | (with_reducible assumption) | assumption)
                obtain ⟨hx9_0, hf9_0⟩ := Kd.R_celln 0 HQ11.out (x3_1 : Int) p9 q9
                replace p9 := eq_true p9
                replace q9 := eq_true q9
                have HP12 := Kd.R_putn HQ11.out (x3_1 : Int) (rd x0_1 x2_1)
                rw [← Ny104.out] at HP12
                have HQ12 := Aside0.mk HP12
                clear HP12
                refine start_ (n := 16) (S := fun w' => w'.cell? ⟨go8, (x3_1).toNat, none⟩ = some (.int .u8 (rd x0_1 x3_1)) ∧ w'.cell? ⟨go8, (x2_1).toNat, none⟩ = some (.int .u8 (rd x0_1 x2_1))) (ds := [13, 15]) #[false, false, false, false, false, false, false, false, false, false, false, false, false, false, false, false] (by kernel_rfl) rfl rfl ⟨hx101_0, hx102_0⟩ (fun hHeld => ?_); refine with_tabW slices_Reverse_byte_byte.tab3 slices_Reverse_byte_byte.bits3 (fun HT_ HW_ => ?_)
                generalize wr.drew = w10 at HO_0 HK HB GG8 HQ11 HQ12 hf8_0 hf9_0 hx101_0 hx102_0 hx8_0 hx9_0 hHeld ⊢
                refine pure_ (i := 0) (N := some 14) (v := ?_) (a' := ?_) #[true, false, false, false, false, false, false, false, false, false, false, false, false, false, false, false] rfl rfl (any_of HT_.out (by kernel_rfl)) (fun _ _ _ h => h) (Or.inl ⟨by rfl, ?_⟩) ?_ ?_
                rotate_left
                · intro w'
                  go_simp
                  with_reducible rfl
                rotate_left
                · simp only [Act.put, List.setIfInBounds_toArray, List.set_cons_zero, List.set_cons_succ, i64_w, i32_w]
                  rfl
                refine pure_ (i := 1) (N := some 15) (v := ?_) (a' := ?_) #[true, true, false, false, false, false, false, false, false, false, false, false, false, false, false, false] rfl rfl (any_of HT_.out (by kernel_rfl)) (fun _ _ _ h => h) (Or.inl ⟨by rfl, ?_⟩) ?_ ?_
                rotate_left
                · intro w'
                  go_simp
                  with_reducible rfl
                rotate_left
                · simp only [Act.put, List.setIfInBounds_toArray, List.set_cons_zero, List.set_cons_succ, i64_w, i32_w]
                  rfl
                refine pure_ (i := 2) (N := some 16) (v := ?_) (a' := ?_) #[true, true, true, false, false, false, false, false, false, false, false, false, false, false, false, false] rfl rfl (any_of HT_.out (by kernel_rfl)) (fun _ _ _ h => h) (Or.inl ⟨by rfl, ?_⟩) ?_ ?_
                rotate_left
                · intro w'
                  go_simp
                  with_reducible rfl
                rotate_left
                · simp only [Act.put, List.setIfInBounds_toArray, List.set_cons_zero, List.set_cons_succ, i64_w, i32_w]
                  rfl
                refine pure_ (i := 3) (N := some 17) (v := ?_) (a' := ?_) #[true, true, true, true, false, false, false, false, false, false, false, false, false, false, false, false] rfl rfl (any_of HT_.out (by kernel_rfl)) (fun _ _ _ h => h) (Or.inl ⟨by rfl, ?_⟩) ?_ ?_
                rotate_left
                · intro w'
                  go_simp
                  with_reducible rfl
                rotate_left
                · simp only [Act.put, List.setIfInBounds_toArray, List.set_cons_zero, List.set_cons_succ, i64_w, i32_w]
                  rfl
                refine pure_ (i := 4) (N := some 18) (v := ?_) (a' := ?_) #[true, true, true, true, true, false, false, false, false, false, false, false, false, false, false, false] rfl rfl (any_of HT_.out (by kernel_rfl)) (fun _ _ _ h => h) (Or.inl ⟨by rfl, ?_⟩) ?_ ?_
                rotate_left
                · intro w'
                  go_simp
                  with_reducible rfl
                rotate_left
                · simp only [Act.put, List.setIfInBounds_toArray, List.set_cons_zero, List.set_cons_succ, i64_w, i32_w]
                  rfl
                refine pure_ (i := 5) (N := some 19) (v := ?_) (a' := ?_) #[true, true, true, true, true, true, false, false, false, false, false, false, false, false, false, false] rfl rfl (any_of HT_.out (by kernel_rfl)) (fun _ _ _ h => h) (Or.inl ⟨by rfl, ?_⟩) ?_ ?_
                rotate_left
                · intro w'
                  go_simp
                  with_reducible rfl
                rotate_left
                · simp only [Act.put, List.setIfInBounds_toArray, List.set_cons_zero, List.set_cons_succ, i64_w, i32_w]
                  rfl
                refine pure_ (i := 6) (N := some 20) (v := ?_) (a' := ?_) #[true, true, true, true, true, true, true, false, false, false, false, false, false, false, false, false] rfl rfl (any_of HT_.out (by kernel_rfl)) (fun _ _ _ h => h) (Or.inl ⟨by rfl, ?_⟩) ?_ ?_
                rotate_left
                · intro w'
                  go_simp
                  with_reducible rfl
                rotate_left
                · simp only [Act.put, List.setIfInBounds_toArray, List.set_cons_zero, List.set_cons_succ, i64_w, i32_w]
                  rfl
                refine pure_ (i := 8) (N := some 22) (v := ?_) (a' := ?_) #[true, true, true, true, true, true, true, false, true, false, false, false, false, false, false, false] rfl rfl (any_of HT_.out (by kernel_rfl)) (fun _ _ _ h => h) (Or.inl ⟨by rfl, ?_⟩) ?_ ?_
                rotate_left
                · intro w'
                  go_simp
                  with_reducible rfl
                rotate_left
                · simp only [Act.put, List.setIfInBounds_toArray, List.set_cons_zero, List.set_cons_succ, i64_w, i32_w]
                  rfl
                refine pure_ (i := 9) (N := some 23) (v := ?_) (a' := ?_) #[true, true, true, true, true, true, true, false, true, true, false, false, false, false, false, false] rfl rfl (any_of HT_.out (by kernel_rfl)) (fun _ _ _ h => h) (Or.inl ⟨by rfl, ?_⟩) ?_ ?_
                rotate_left
                · intro w'
                  go_simp
                  with_reducible rfl
                rotate_left
                · simp only [Act.put, List.setIfInBounds_toArray, List.set_cons_zero, List.set_cons_succ, i64_w, i32_w]
                  rfl
                refine pure_ (i := 10) (N := some 24) (v := ?_) (a' := ?_) #[true, true, true, true, true, true, true, false, true, true, true, false, false, false, false, false] rfl rfl (any_of HT_.out (by kernel_rfl)) (fun _ _ _ h => h) (Or.inl ⟨by rfl, ?_⟩) ?_ ?_
                rotate_left
                · intro w'
                  go_simp
                  with_reducible rfl
                rotate_left
                · simp only [Act.put, List.setIfInBounds_toArray, List.set_cons_zero, List.set_cons_succ, i64_w, i32_w]
                  rfl
                refine take_ (i := 7) (N := some 21) (v := ?_) (a' := ?_) #[true, true, true, true, true, true, true, true, true, true, true, false, false, false, false, false] rfl rfl (take_ofW HT_.out HW_.out (by kernel_rfl)) (fun _ _ _ h => h) (Or.inl ⟨by rfl, ?_⟩) hHeld ?_ ?_
                rotate_left
                · rintro w' ⟨s0, s1⟩
                  go_simp
                  with_reducible rfl
                rotate_left
                · simp only [Act.put, List.setIfInBounds_toArray, List.set_cons_zero, List.set_cons_succ, i64_w, i32_w]
                  rfl
                refine take_ (i := 11) (N := some 25) (v := ?_) (a' := ?_) #[true, true, true, true, true, true, true, true, true, true, true, true, false, false, false, false] rfl rfl (take_ofW HT_.out HW_.out (by kernel_rfl)) (fun _ _ _ h => h) (Or.inl ⟨by rfl, ?_⟩) hHeld ?_ ?_
                rotate_left
                · rintro w' ⟨s0, s1⟩
                  go_simp
                  with_reducible rfl
                rotate_left
                · simp only [Act.put, List.setIfInBounds_toArray, List.set_cons_zero, List.set_cons_succ, i64_w, i32_w]
                  rfl
                refine pure_ (i := 12) (N := some 26) (v := ?_) (a' := ?_) #[true, true, true, true, true, true, true, true, true, true, true, true, true, false, false, false] rfl rfl (any_of HT_.out (by kernel_rfl)) (fun _ _ _ h => h) (Or.inl ⟨by rfl, ?_⟩) ?_ ?_
                rotate_left
                · intro w'
                  go_simp
                  with_reducible rfl
                rotate_left
                · simp only [Act.put, List.setIfInBounds_toArray, List.set_cons_zero, List.set_cons_succ, i64_w, i32_w]
                  rfl
                refine last_ (i := 13) (N := none) #[true, true, true, true, true, true, true, true, true, true, true, true, true, true, false, false] rfl rfl (one_of HT_.out (by kernel_rfl)) (by decide) (fun K hK => ?_)
                refine skip_ (w1 := ?_) (by rfl) rfl ?_ ?_
                rotate_left
                · go_simp
                  rfl
                refine hK.out _ _ ?_
                clear hK K
                refine pure_ (i := 14) (N := some 27) (v := ?_) (a' := ?_) #[true, true, true, true, true, true, true, true, true, true, true, true, true, true, true, false] rfl rfl (any_of HT_.out (by kernel_rfl)) (fun _ _ _ h => h) (Or.inl ⟨by rfl, ?_⟩) ?_ ?_
                rotate_left
                · intro w'
                  go_simp
                  with_reducible rfl
                rotate_left
                · simp only [Act.put, List.setIfInBounds_toArray, List.set_cons_zero, List.set_cons_succ, i64_w, i32_w]
                  rfl
                refine last_ (i := 15) (N := none) #[true, true, true, true, true, true, true, true, true, true, true, true, true, true, true, true] rfl rfl (one_of HT_.out (by kernel_rfl)) (by decide) (fun K hK => ?_)
                refine skip_ (w1 := ?_) (by rfl) rfl ?_ ?_
                rotate_left
                · go_simp
                  rfl
                refine hK.out _ _ ?_
                clear hK K
                refine done_ (done_of HT_.out (by kernel_rfl)) ?_
                try go_wp2
                (try simp only [← hl0_1])
                go_roundg k1
                case measure => have := HK1.out; omega
                case rel => exact ⟨(y104), (wrap64 (x2_1 + 1)), (wrap64 (x3_1 - 1)), (by first | rfl | (simp; done) | (simp [*]; done)), (by first | rfl | (simp; done) | (simp [*]; done)), H', ⟨by have := HK1.out; omega⟩, ⟨by (try simp only [hl0_1]); (with_reducible repeat (first | apply Kd.R_alloc | apply Kd.R_drewN | apply Kd.R_drew)); exact HQ12.out⟩, ⟨by repeat (first | (with_reducible first | exact HK.out | apply Kept.alloc | apply Kept.drewN | apply Kept.drew | refine Kept.setCell ?_ HMgo8.out _ | refine Kept.setCell ?_ HMgo8.out _) | exact HK.out)⟩, ⟨by repeat (first | (with_reducible first | exact HB.out | apply below_alloc | apply pw_below_drewN | apply below_drew1 | refine below_set ?_ GB8.out | refine below_set ?_ GB8.out) | exact HB.out)⟩⟩
              · rw [if_neg c7] at H
                exact absurd H (by simp)
            · rw [if_neg c6] at H
              exact absurd H (by simp)
          · rw [if_neg c5] at H
            exact absurd H (by simp)
        · rw [if_neg c4] at H
          exact absurd H (by simp)
      · rw [if_neg c3] at H
        have c3b0 : decide (x2_1 < x3_1) = false := decide_eq_false c3
        clear c3
        obtain rfl := Option.some.inj H
        go_wp2
        first | go_end0 | ((try simp only [Exit.inBlock, Exit.then]); refine bodyPost_ret (results_none rfl _ _ _) rfl ?_)
        exact ⟨by first | rfl | (simp [errW_none, errW_some] <;> rfl) | (simp [*, errW_none, errW_some] <;> rfl), (by first | exact (by (with_reducible repeat (first | apply Kd.R_alloc | apply Kd.R_drewN | apply Kd.R_drew)); exact HO_0.out) | (simp only [hl0_1]; exact (by (with_reducible repeat (first | apply Kd.R_alloc | apply Kd.R_drewN | apply Kd.R_drew)); exact HO_0.out))), by repeat (first | (with_reducible first | exact HB.out | apply below_alloc | apply pw_below_drewN | apply below_drew1) | exact HB.out), by repeat (first | (with_reducible first | exact HK.out | apply Kept.alloc | apply Kept.drewN | apply Kept.drew) | exact HK.out)⟩

end Go.Proofs.YtbcjhmeeonhmaaaDoor.M
end

section
set_option linter.unusedVariables false
namespace Go.Proofs.YtbcjhmeeonhmaaaDoor.H
open Go Go.RowKit Go.Proofs.YtbcjhmeeonhmaaaDoorW.PrintWords Go.Proofs.YtbcjhmeeonhmaaaDoor.M

theorem set_mid (A M B : List Int) (x y : Int) (i j : Nat) (hi : i = A.length) (hj : j = A.length + 1 + M.length) :
    ((A ++ x :: (M ++ y :: B)).set i y).set j x = (A ++ [y]) ++ (M ++ (x :: B)) := by
  subst hi hj
  rw [List.set_append_right _ _ (Nat.le_refl _), Nat.sub_self, List.set_cons_zero, List.set_append_right _ _ (by omega), show A.length + 1 + M.length - A.length = M.length + 1 from by omega, List.set_cons_succ,
    List.set_append_right _ _ (Nat.le_refl _), Nat.sub_self, List.set_cons_zero]
  simp
theorem rev_loop : ∀ (d : Nat) (M A B : List Int) (k : Nat) (i j : Int), M.length = d → i = A.length → j = (A.length : Int) + M.length - 1 → (A ++ (M ++ B)).length < 4611686018427387904 → d < k →
    slices_Reverse_byte_byte.l0 k (A ++ (M ++ B)) i j = some (A ++ (M.reverse ++ B)) := by
  intro d
  induction d using Nat.strongRecOn with
  | _ d ih =>
    intro M A B k i j hM hi hj hL hk
    obtain ⟨k, rfl⟩ : ∃ m, k = m + 1 := ⟨k - 1, by omega⟩
    simp only [slices_Reverse_byte_byte.l0]
    match M, hM with
    | [], hM => rw [if_neg (by simp at hj; omega)]; rfl
    | [x], hM => rw [if_neg (by simp at hj; omega)]; rfl
    | x :: z :: M2, hM =>
      obtain ⟨M', y, hMy⟩ : ∃ M' y, z :: M2 = M' ++ [y] := ⟨(z :: M2).dropLast, (z :: M2).getLast (by simp), (List.dropLast_concat_getLast (by simp)).symm⟩
      rw [hMy] at hM hj hL ⊢
      have hl : (A ++ (x :: (M' ++ [y]) ++ B)).length = A.length + M'.length + 2 + B.length := by simp; omega
      rw [hl] at hL
      simp only [List.length_cons, List.length_append, List.length_nil] at hM hj
      rw [hl, if_pos (by omega), if_pos (by omega), if_pos (by omega), if_pos (by omega), if_pos (by omega)]
      have e1 : A ++ (x :: (M' ++ [y]) ++ B) = A ++ x :: (M' ++ y :: B) := by simp
      have r1 : rd (A ++ x :: (M' ++ y :: B)) j = y := by
        unfold rd
        rw [List.getD_eq_getElem?_getD, List.getElem?_append_right (by omega), show j.toNat - A.length = M'.length + 1 from by omega, List.getElem?_cons_succ, List.getElem?_append_right (Nat.le_refl _), Nat.sub_self]
        rfl
      have r2 : rd (A ++ x :: (M' ++ y :: B)) i = x := by
        unfold rd
        rw [List.getD_eq_getElem?_getD, List.getElem?_append_right (by omega), show i.toNat - A.length = 0 from by omega]
        rfl
      rw [e1, r1, r2, set_mid A M' B x y _ _ (by omega) (by omega)]
      have w1 : wrap64 (i + 1) = i + 1 := by unfold wrap64; omega
      have w2 : wrap64 (j - 1) = j - 1 := by unfold wrap64; omega
      rw [w1, w2, ih M'.length (by omega) M' (A ++ [y]) (x :: B) k _ _ rfl (by simp; omega) (by simp; omega) (by simp; omega) (by omega)]
      simp
theorem reverse_f (l : List Int) (h : l.length < 4611686018427387904) : slices_Reverse_byte_byte.f (l.length + 1) l = some l.reverse := by
  unfold slices_Reverse_byte_byte.f
  have w1 : wrap64 ((l.length : Int) - 1) = (l.length : Int) - 1 := by unfold wrap64; omega
  have := rev_loop l.length l [] [] (l.length + 1) 0 ((l.length : Int) - 1) rfl rfl (by simp) (by simpa using h) (by omega)
  simp only [List.nil_append, List.append_nil] at this
  rw [w1, this]
end Go.Proofs.YtbcjhmeeonhmaaaDoor.H
end

section
set_option linter.unusedVariables false
namespace Go.Proofs.YtbcjhmeeonhmaaaDoor.H
open Go Go.RowKit Go.Proofs.YtbcjhmeeonhmaaaDoorW.PrintWords Go.Proofs.YtbcjhmeeonhmaaaDoor.M
attribute [local go_sem] Oper.semAt_some

theorem info_u8 : (Tryd.prog.info? 5).map (fun i => (i.zero, i.size, i.bytes)) = some (some (.int .u8 0), 1, 1) := by kernel_rfl
/-- A number's digits. -/
def putS (b n : Nat) : ByteArray := strOfNums (dgc b n).reverse
theorem dgc_len (b : Nat) (hb : 2 ≤ b) : ∀ (k n : Nat), n < 2 ^ (k + 1) → (dgc b n).length ≤ k + 1
  | 0, n, h => by
    have : n / b = 0 := Nat.div_eq_of_lt (by omega)
    rw [dgc_stop this]; simp
  | k + 1, n, h => by
    by_cases h0 : n / b = 0
    · rw [dgc_stop h0]; simp
    · rw [dgc_more hb h0, List.length_cons]
      have : n / b ≤ n / 2 := Nat.div_le_div_left hb (by omega)
      have := dgc_len b hb k (n / b) (by rw [Nat.pow_succ] at h; omega)
      omega

theorem reversed_mk (b n : Nat) (D : ByteArray) (w : World) : Calls Tryd.prog 40 #[.agg #[.int .u64 b, .string D], .int .u64 n] w fun e w' =>
    e = .returned (.func (.func 56) #[] #[.pointer (some ⟨w.heap.size, 0, none⟩), .pointer (some ⟨w.heap.size + 1, 0, none⟩)]) ∧ (w.alloc (.cells #[.int .u64 b, .string D] 84)).alloc (.cells #[.int .u64 n] 56) = w' := by
  have hmf : ∀ (fn : Fn) (first cap : Array Value) (w : World), (Instr.makeFunc fn first cap).run Tryd.prog w = .ok (.func fn first cap) w := fun _ _ _ _ => rfl
  go_enter Tryd.func40, Tryd.ntmps40
  go_wp2
  go_ret
  exact ⟨rfl, rfl⟩

set_option maxRecDepth 100000 in
set_option maxHeartbeats 1000000 in
theorem put_of (b n : Nat) (hb : b = 8 ∨ b = 10 ∨ b = 16) (hn : n < 18446744073709551616) (w : World) (hof : ∀ w, Calls Tryd.prog 39 #[.int .i64 b] w fun e w' => e = .returned (.tuple #[.agg #[.int .u64 b, .string (dig16.extract 0 b)], .nilIface]) ∧ Below w.heap.size w w') :
    Calls Tryd.prog 26 #[.int .i64 b, .int .u64 n] w fun e w' => e = .returned (.string (putS b n)) ∧ Below w.heap.size w w' := by
  have HN := Lib.hid hn
  have HBb := Lib.hid hb
  have HOF := Lib.hid hof
  clear hn hb hof
  obtain ⟨i0, hi, hz0, hz1, hz2⟩ := info_parts info_u8
  obtain ⟨D, hD⟩ : ∃ D, dig16.extract 0 b = D := ⟨_, rfl⟩
  have HD := Lib.hid hD
  clear hD
  refine (callsIn_wide (n := 0)).1 ?_
  refine callsIn_of_wp_marks Tryd.func26 rfl trivial ?_ rfl
  simp only [Tryd.ntmps26, List.size_toArray, List.length_cons, List.length_nil, Nat.reduceAdd, Nat.reduceSub, Array.replicate_succ, Array.replicate_zero, List.push_toArray, List.append_toArray, List.nil_append, List.cons_append]
  gi_wp2_with fail
  refine ⟨trivial, rfl, callsIn_wide.2 ((HOF.out _).mono ?_)⟩
  rintro _ w1 ⟨rfl, hb1⟩
  rw [HD.out]
  gi_wp2_with (refine ⟨trivial, rfl, ?_⟩; gi_at_call 40; refine callsIn_wide.2 ((reversed_mk _ _ _ _).mono ?_); rintro e w' ⟨rfl, rfl⟩)
  obtain ⟨W0, hW0⟩ : ∃ W0, (((w1.alloc (.cells #[.int .u64 b, .string D] 84)).alloc (.cells #[.slice none 0 0] 59)).alloc (.cells #[.int .u64 b, .string D] 84)).alloc (.cells #[.int .u64 n] 56) = W0 := ⟨_, rfl⟩
  have hz : W0.heap.size = w1.heap.size + 4 := by rw [← hW0]; simp
  have hbL : Boxed W0 (w1.heap.size + 1) 59 (.slice none 0 0) := by rw [← hW0]; have := Boxed.new (w1.alloc (.cells #[.int .u64 b, .string D] 84)) 59 (.slice none 0 0); rw [World.size_alloc] at this; exact (this.alloc _).alloc _
  have hB0 : Below w1.heap.size w1 W0 := by rw [← hW0]; exact ((((Below.refl _ w1).alloc (Nat.le_refl _) _).alloc (by simp) _).alloc (by simp; omega) _).alloc (by simp; omega) _
  have hAt : BAt (w1.heap.size + 1 + 1) (w1.heap.size + 1 + 1 + 1) b n W0 := by
    have k1 : W0.heap[w1.heap.size + 1 + 1]? = some (.cells #[.int .u64 b, .string D] 84 (0, 0)) := by
      rw [← hW0]; have := World.alloc_heap_new ((w1.alloc (.cells #[.int .u64 b, .string D] 84)).alloc (.cells #[.slice none 0 0] 59)) (.cells #[.int .u64 b, .string D] 84); rw [World.size_alloc, World.size_alloc] at this
      exact (Below.heap_alloc _ _ _ (by simp)).trans this
    have k2 : W0.heap[w1.heap.size + 1 + 1 + 1]? = some (.cells #[.int .u64 n] 56 (0, 0)) := by
      rw [← hW0]; have := World.alloc_heap_new (((w1.alloc (.cells #[.int .u64 b, .string D] 84)).alloc (.cells #[.slice none 0 0] 59)).alloc (.cells #[.int .u64 b, .string D] 84)) (.cells #[.int .u64 n] 56); rw [World.size_alloc, World.size_alloc, World.size_alloc] at this
      exact this
    exact ⟨by simp [World.cell?, k1], by rw [HD.out]; simp [World.cell?, k1], by simp [World.cell?, k2], by simp [World.frozen?, k2]⟩
  rw [hW0]
  have HDL := Lib.hid (dgc_len b (by have := HBb.out; omega) 63 n (by have := HN.out; omega))
  refine wp_rangeFunc_iter (gf := 56) (lb := #[.pointer (some ⟨w1.heap.size + 1 + 1, 0, none⟩), .pointer (some ⟨w1.heap.size + 1 + 1 + 1, 0, none⟩)]) rfl (enters_of Tryd.func56 (by kernel_rfl) rfl)
    (reversed_iter (w1.heap.size + 1 + 1) (w1.heap.size + 1 + 1 + 1) b n HBb.out HN.out (by omega))
    (fun A B h => KeepsFrom.of_grownBy h (fun j e => by cases e; omega)) (fun W h => hAt.below h)
    (fun h k => ⟨k.1.trans h.1, k.2.trans h.2⟩) (fun W l o o' hl h _ _ => ⟨World.putObj_heap_other (by omega), World.putObj_heap_other (by omega)⟩) (fun _ => rfl)
    (fun pre W => (∃ v, Boxed W (w1.heap.size + 1) 59 v ∧ W.ownsRow (w1.heap.size + 4) 5 1 v pre.length (pre.map (Value.int .u8))) ∧ Below w1.heap.size w1 W ∧ w1.heap.size + 4 ≤ W.heap.size)
    (fun _ _ _ => False) ?hI (fun _ _ _ _ _ hs _ _ => hs) ?hIs (fun _ _ _ _ h _ => h) (fun x => ownFrom_pure _ _) (ownFrom_pure _ _) (ownFrom_pure _ _)
    ⟨⟨_, hbL, World.ownsRow_nil _ _ _ _⟩, hB0, by omega⟩
    (fun x => { tmps := #[.int .i64 b, .int .u64 n, undef, undef, .string ⟨#[]⟩, .pointer (some ⟨w1.heap.size, 0, none⟩), .nilIface, .pointer (some ⟨w1.heap.size + 1, 0, none⟩), .int .u8 x, .tuple #[.agg #[.int .u64 b, .string D], .nilIface], .int .i64 b, .tuple #[.agg #[.int .u64 b, .string D], .nilIface], .agg #[.int .u64 b, .string D], .nilIface, .nilIface, .bool false, .agg #[.int .u64 b, .string D], .int .u64 n, .func (.func 56) #[] #[.pointer (some ⟨w1.heap.size + 1 + 1, 0, none⟩), .pointer (some ⟨w1.heap.size + 1 + 1 + 1, 0, none⟩)], .int .u8 x, undef, undef, undef, undef, undef, undef, undef, undef], defers := [] }) ?assign ?body ?done ?stop
  case hI =>
    rintro pre A B row ⟨⟨v, hv, hr⟩, hB, hz'⟩ hg hrow
    exact ⟨⟨v, hv.kept hg (fun e => by have := hrow _ e.symm; omega), hr.kept hg (ownBlock_ne_row hr hrow)⟩, hB.grown hg (by omega) (fun k e => by have := hrow _ e; omega), Nat.le_trans hz' hg.size⟩
  case hIs =>
    rintro pre A B ⟨⟨v, hv, hr⟩, hB, hz'⟩ hg
    exact ⟨⟨v, hv.kept hg (fun e => by injection e with e; omega), hr.kept hg (ownBlock_ne_of_base hr (by omega))⟩, hB.grown hg (by omega) (fun k e => by cases e; omega), Nat.le_trans hz' hg.size⟩
  case assign =>
    intro l x W K hK
    gi_wp2
    exact hK
  case stop =>
    rintro D c pre W _ _ h _
    exact h.elim
  case body =>
    rintro l pre x W ⟨⟨v, hv, hrow⟩, hB, hz'⟩ hlen
    have hc := hv.cell
    have hlen' : pre.length < 64 := by have := HDL.out; omega
    clear hlen
    gi_wp2_with (gi_at_builtin; refine wpListIn_append_own _ rfl _ _ 59 rfl (w1.heap.size + 4) 5 i0 (.int .u8 0) 1 1 Tryd.underlying59 hi hz0 hz1 hz2 rfl (by decide) _ _ _ rfl (hrow.alloc _) ⟨W.heap.size, 0, none⟩ 1 1 [.int .u8 x] rfl rfl (cell_one_new _ _ _) (by simp [Value.oneCell']) (by unfold maxLen; omega) (by omega) (by simp; omega) ?_; intro v' w3 hown' hgrow _; obtain ⟨g', cap', rfl⟩ := ownsRow_succ hown'; obtain ⟨hv1, hv2, _, hk2, hb2⟩ := hv.appended (by decide) (ownsRow_base hrow (base' := w1.heap.size + 1) (by omega)) (by omega) (Nat.le_refl _) (ownsRow_base hown' (base' := w1.heap.size + 1) (by omega)) hgrow; have hr2 := hown'.kept (grownBy_setCell' w3 (w1.heap.size + 1) (.slice (some ⟨g', 0, none⟩) (pre.length + 1) cap')) (.inr (hv1.not_row (by decide) hown').symm); have hc1 := hv1.cell; have hf1 := hv1.frozen)
    have hg2 : (W.alloc (.cells #[.int .u8 x] 5)).grownBy w3 v.ownBlock := hgrow
    have oX := fun C (hC : C < w1.heap.size + 4) (hC2 : C ≠ w1.heap.size + 1) => appended_other (C := C) (v' := .slice (some ⟨g', 0, none⟩) (pre.length + 1) cap') hg2 (by omega) (B := w1.heap.size + 1) hC2 (fun e => by rcases ownBlock_ne_of_base hrow (X := C) hC with h | h; rw [h] at e; cases e; exact h e.symm)
    exact ⟨hk2.from _, ⟨oX _ (by omega) (by omega), oX _ (by omega) (by omega)⟩, ⟨⟨_, hv2, by simpa using hr2⟩, hB.trans (hb2.mono (by omega)), by have := hb2.size; omega⟩⟩
  case done =>
    rintro Dk ys W hD hS ⟨⟨v, hv, hrow⟩, hB, hz'⟩ hK
    subst hS
    have hc := hv.cell
    have HR0 := Kd.R_of_own (enc := Value.int .u8) (h1 := fun _ => rfl) (ok := fun k => v.ownBlock = some k) (xs := dgc b n) (ownsRow_base hrow (base' := w1.heap.size) (by omega)) (fun k h => h)
    have hrv := reverse_f (dgc b n) (by have := HDL.out; omega)
    have HRV := Lib.hid hrv
    have hDK : ¬ v.ownBlock = some Dk := fun e => by obtain ⟨cs, hcs⟩ := own_typed hrow _ e; rw [hK] at hcs; cases hcs
    have hDL : ¬ v.ownBlock = some (w1.heap.size + 1) := fun e => hv.not_row (by decide) hrow e.symm
    clear hrv
    gi_wp2_with fail
    refine ⟨trivial, rfl, callsIn_wide.2 ((slices_Reverse_byte_byte.calls _ _ v (dgc b n) _ w1 W hB HR0 HRV.out).mono ?_)⟩
    rintro _ w4 ⟨rfl, hR4, hB4, hK4⟩
    have hc4 : w4.cell? ⟨w1.heap.size + 1, 0, none⟩ = some v := (hv.kept (W' := w4) (row := v.ownBlock) ⟨by rw [hB4.os, hB.os], by rw [hB4.tape, hB.tape], by rw [hB4.output, hB.output], hK4.1, fun k hk hn => hK4.2 k hk (fun e => hn e.symm)⟩ (fun e => hDL e.symm)).cell
    have hDf : w4.heap[Dk]? = some (.deferred (some [])) := (hK4.2 Dk (Array.getElem?_eq_some_iff.1 hK).1 hDK).trans hK
    have hcv := own_string (P := Tryd.prog) (src := 59) (dst := 9) Tryd.underlying59 Tryd.underlying5 Tryd.underlying9 (Kd.own_of_R hR4)
    gi_wp2
    refine ⟨by simp, .inl ⟨_, _, rfl, run_takeDeferred hDf, ?_⟩⟩
    refine ⟨_, results_tmp rfl _ _ _, rfl, ?_⟩
    exact below_tr hb1 (hB4.trans (belowK_b (w := w1) (Nat.le_refl _) w4 Dk _ _ (by omega) hDf rfl rfl))
end Go.Proofs.YtbcjhmeeonhmaaaDoor.H
end

-- Laid by a program of this session for this claim.
section
namespace Go.Proofs.YtbcjhmeeonhmaaaDoor.M
open Go.RowKit Go.Proofs.YtbcjhmeeonhmaaaDoorW.PrintWords Go.Proofs.YtbcjhmeeonhmaaaDoorW.PrintLast Go.Proofs.YtbcjhmeeonhmaaaDoorW.PrintMore
attribute [local go_sem] max2_int min2_int max_two min_two max_three min_three max_four min_four   -- for this text's walks alone
set_option linter.unusedVariables false
set_option linter.unusedSimpArgs false

/-! ### pleacherref03_is: function 46 -/
def pleacherref03_is.f (a0 : Int) : Option (Bool) := if a0 = 8 then (some true) else (if a0 = 10 then (some true) else (some (a0 == 16)))
set_option maxHeartbeats 8000000 in
set_option maxRecDepth 100000 in
theorem pleacherref03_is.calls (a0 : Int) (r : Bool) (w : World) (h : pleacherref03_is.f a0 = some r) :
    Calls Tryd.prog 46 #[.int .i64 a0] w fun e w' => e = .returned (.bool r) ∧ Drawn0 w w' := by
  have H : (if a0 = 8 then (some true) else (if a0 = 10 then (some true) else (some (a0 == 16)))) = some r := h
  clear h
  by_cases c2 : a0 = 8
  · rw [if_pos c2] at H
    have c2b0 : (a0 == 8) = true := beq_iff_eq.mpr c2
    have c2b1 : (a0 != 8) = false := bne_eq_false_iff_eq.mpr c2
    clear c2
    obtain rfl := Option.some.inj H
    go_enter Tryd.func46, Tryd.ntmps46
    go_wp2
    go_ret
    exact ⟨by first | rfl | (simp; done) | (simp [*]; done), by repeat (first | exact Drawn0.refl _ | apply Drawn0.step)⟩
  · rw [if_neg c2] at H
    have c2b0 : (a0 == 8) = false := beq_eq_false_iff_ne.mpr c2
    have c2b1 : (a0 != 8) = true := bne_iff_ne.mpr c2
    by_cases c3 : a0 = 10
    · rw [if_pos c3] at H
      have c3b0 : (a0 == 10) = true := beq_iff_eq.mpr c3
      have c3b1 : (a0 != 10) = false := bne_eq_false_iff_eq.mpr c3
      clear c3
      obtain rfl := Option.some.inj H
      go_enter Tryd.func46, Tryd.ntmps46
      go_wp2
      go_ret
      exact ⟨by first | rfl | (simp; done) | (simp [*]; done), by repeat (first | exact Drawn0.refl _ | apply Drawn0.step)⟩
    · rw [if_neg c3] at H
      have c3b0 : (a0 == 10) = false := beq_eq_false_iff_ne.mpr c3
      have c3b1 : (a0 != 10) = true := bne_iff_ne.mpr c3
      obtain rfl := Option.some.inj H
      go_enter Tryd.func46, Tryd.ntmps46
      go_wp2
      go_ret
      exact ⟨by first | rfl | (simp; done) | (simp [*]; done), by repeat (first | exact Drawn0.refl _ | apply Drawn0.step)⟩

end Go.Proofs.YtbcjhmeeonhmaaaDoor.M
end

-- Laid by a program of this session for this claim.
section
namespace Go.Proofs.YtbcjhmeeonhmaaaDoor.M
open Go.RowKit Go.Proofs.YtbcjhmeeonhmaaaDoorW.PrintWords Go.Proofs.YtbcjhmeeonhmaaaDoorW.PrintLast Go.Proofs.YtbcjhmeeonhmaaaDoorW.PrintMore
attribute [local go_sem] max2_int min2_int max_two min_two max_three min_three max_four min_four   -- for this text's walks alone
set_option linter.unusedVariables false
set_option linter.unusedSimpArgs false

/-! ### pleacherref03_Put: function 32 -/
def pleacherref03_Put.f : Nat → Int → Int → Option (ByteArray)
  | 0, _, _ => none
  | k + 1, a0, a1 => (pleacherref03_is.f a0).bind fun t163 => (if t163 = true then (if (IntKind.u64.wrap (a0)) = 0 then (none) else (if 0 ≤ (Int.tmod a1 (IntKind.u64.wrap (a0))) then (if (Int.tmod a1 (IntKind.u64.wrap (a0))) ≤ (IntKind.u64.wrap ((Int.tmod a1 (IntKind.u64.wrap (a0))) + 1)) then (if (IntKind.u64.wrap ((Int.tmod a1 (IntKind.u64.wrap (a0))) + 1)) ≤ 16 then (if a1 < (IntKind.u64.wrap (a0)) then (some ((⟨#[48, 49, 50, 51, 52, 53, 54, 55, 56, 57, 97, 98, 99, 100, 101, 102]⟩ : ByteArray).extract ((Int.tmod a1 (IntKind.u64.wrap (a0))) : Int).toNat ((IntKind.u64.wrap ((Int.tmod a1 (IntKind.u64.wrap (a0))) + 1)) : Int).toNat)) else ((pleacherref03_Put.f k a0 (IntKind.u64.wrap (Int.tdiv a1 (IntKind.u64.wrap (a0))))).bind fun t164 => (if t164.size + ((⟨#[48, 49, 50, 51, 52, 53, 54, 55, 56, 57, 97, 98, 99, 100, 101, 102]⟩ : ByteArray).extract ((Int.tmod a1 (IntKind.u64.wrap (a0))) : Int).toNat ((IntKind.u64.wrap ((Int.tmod a1 (IntKind.u64.wrap (a0))) + 1)) : Int).toNat).size ≤ 9223372036854775807 then (some (t164 ++ ((⟨#[48, 49, 50, 51, 52, 53, 54, 55, 56, 57, 97, 98, 99, 100, 101, 102]⟩ : ByteArray).extract ((Int.tmod a1 (IntKind.u64.wrap (a0))) : Int).toNat ((IntKind.u64.wrap ((Int.tmod a1 (IntKind.u64.wrap (a0))) + 1)) : Int).toNat))) else (none)))) else (none)) else (none)) else (none))) else (some (⟨#[]⟩ : ByteArray)))
set_option maxHeartbeats 8000000 in
set_option maxRecDepth 100000 in
theorem pleacherref03_Put.calls (k : Nat) : ∀ (a0 : Int) (a1 : Int) (r : ByteArray) (w : World) (h : pleacherref03_Put.f k a0 a1 = some r),
    Calls Tryd.prog 32 #[.int .i64 a0, .int .u64 a1] w fun e w' => e = .returned (.string r) ∧ Drawn0 w w' := by
  induction k using Nat.strongRecOn with
  | _ k ih =>
  intro a0 a1 r w h
  cases k with
  | zero => exact absurd h (by simp [pleacherref03_Put.f])
  | succ k =>
  simp only [pleacherref03_Put.f] at h
  have H : ((pleacherref03_is.f a0).bind fun t163 => (if t163 = true then (if (IntKind.u64.wrap (a0)) = 0 then (none) else (if 0 ≤ (Int.tmod a1 (IntKind.u64.wrap (a0))) then (if (Int.tmod a1 (IntKind.u64.wrap (a0))) ≤ (IntKind.u64.wrap ((Int.tmod a1 (IntKind.u64.wrap (a0))) + 1)) then (if (IntKind.u64.wrap ((Int.tmod a1 (IntKind.u64.wrap (a0))) + 1)) ≤ 16 then (if a1 < (IntKind.u64.wrap (a0)) then (some ((⟨#[48, 49, 50, 51, 52, 53, 54, 55, 56, 57, 97, 98, 99, 100, 101, 102]⟩ : ByteArray).extract ((Int.tmod a1 (IntKind.u64.wrap (a0))) : Int).toNat ((IntKind.u64.wrap ((Int.tmod a1 (IntKind.u64.wrap (a0))) + 1)) : Int).toNat)) else ((pleacherref03_Put.f k a0 (IntKind.u64.wrap (Int.tdiv a1 (IntKind.u64.wrap (a0))))).bind fun t164 => (if t164.size + ((⟨#[48, 49, 50, 51, 52, 53, 54, 55, 56, 57, 97, 98, 99, 100, 101, 102]⟩ : ByteArray).extract ((Int.tmod a1 (IntKind.u64.wrap (a0))) : Int).toNat ((IntKind.u64.wrap ((Int.tmod a1 (IntKind.u64.wrap (a0))) + 1)) : Int).toNat).size ≤ 9223372036854775807 then (some (t164 ++ ((⟨#[48, 49, 50, 51, 52, 53, 54, 55, 56, 57, 97, 98, 99, 100, 101, 102]⟩ : ByteArray).extract ((Int.tmod a1 (IntKind.u64.wrap (a0))) : Int).toNat ((IntKind.u64.wrap ((Int.tmod a1 (IntKind.u64.wrap (a0))) + 1)) : Int).toNat))) else (none)))) else (none)) else (none)) else (none))) else (some (⟨#[]⟩ : ByteArray)))) = some r := h
  clear h
  replace H := Option.bind_eq_some_iff.mp H
  obtain ⟨t163, A30, H⟩ := H
  replace H : (if t163 = true then (if (IntKind.u64.wrap (a0)) = 0 then (none) else (if 0 ≤ (Int.tmod a1 (IntKind.u64.wrap (a0))) then (if (Int.tmod a1 (IntKind.u64.wrap (a0))) ≤ (IntKind.u64.wrap ((Int.tmod a1 (IntKind.u64.wrap (a0))) + 1)) then (if (IntKind.u64.wrap ((Int.tmod a1 (IntKind.u64.wrap (a0))) + 1)) ≤ 16 then (if a1 < (IntKind.u64.wrap (a0)) then (some ((⟨#[48, 49, 50, 51, 52, 53, 54, 55, 56, 57, 97, 98, 99, 100, 101, 102]⟩ : ByteArray).extract ((Int.tmod a1 (IntKind.u64.wrap (a0))) : Int).toNat ((IntKind.u64.wrap ((Int.tmod a1 (IntKind.u64.wrap (a0))) + 1)) : Int).toNat)) else ((pleacherref03_Put.f k a0 (IntKind.u64.wrap (Int.tdiv a1 (IntKind.u64.wrap (a0))))).bind fun t164 => (if t164.size + ((⟨#[48, 49, 50, 51, 52, 53, 54, 55, 56, 57, 97, 98, 99, 100, 101, 102]⟩ : ByteArray).extract ((Int.tmod a1 (IntKind.u64.wrap (a0))) : Int).toNat ((IntKind.u64.wrap ((Int.tmod a1 (IntKind.u64.wrap (a0))) + 1)) : Int).toNat).size ≤ 9223372036854775807 then (some (t164 ++ ((⟨#[48, 49, 50, 51, 52, 53, 54, 55, 56, 57, 97, 98, 99, 100, 101, 102]⟩ : ByteArray).extract ((Int.tmod a1 (IntKind.u64.wrap (a0))) : Int).toNat ((IntKind.u64.wrap ((Int.tmod a1 (IntKind.u64.wrap (a0))) + 1)) : Int).toNat))) else (none)))) else (none)) else (none)) else (none))) else (some (⟨#[]⟩ : ByteArray))) = some r := H
  have A3 := Aside0.mk A30
  clear A30
  by_cases c4 : t163 = true
  · subst c4
    have H1 : (if (IntKind.u64.wrap (a0)) = 0 then (none) else (if 0 ≤ (Int.tmod a1 (IntKind.u64.wrap (a0))) then (if (Int.tmod a1 (IntKind.u64.wrap (a0))) ≤ (IntKind.u64.wrap ((Int.tmod a1 (IntKind.u64.wrap (a0))) + 1)) then (if (IntKind.u64.wrap ((Int.tmod a1 (IntKind.u64.wrap (a0))) + 1)) ≤ 16 then (if a1 < (IntKind.u64.wrap (a0)) then (some ((⟨#[48, 49, 50, 51, 52, 53, 54, 55, 56, 57, 97, 98, 99, 100, 101, 102]⟩ : ByteArray).extract ((Int.tmod a1 (IntKind.u64.wrap (a0))) : Int).toNat ((IntKind.u64.wrap ((Int.tmod a1 (IntKind.u64.wrap (a0))) + 1)) : Int).toNat)) else ((pleacherref03_Put.f k a0 (IntKind.u64.wrap (Int.tdiv a1 (IntKind.u64.wrap (a0))))).bind fun t164 => (if t164.size + ((⟨#[48, 49, 50, 51, 52, 53, 54, 55, 56, 57, 97, 98, 99, 100, 101, 102]⟩ : ByteArray).extract ((Int.tmod a1 (IntKind.u64.wrap (a0))) : Int).toNat ((IntKind.u64.wrap ((Int.tmod a1 (IntKind.u64.wrap (a0))) + 1)) : Int).toNat).size ≤ 9223372036854775807 then (some (t164 ++ ((⟨#[48, 49, 50, 51, 52, 53, 54, 55, 56, 57, 97, 98, 99, 100, 101, 102]⟩ : ByteArray).extract ((Int.tmod a1 (IntKind.u64.wrap (a0))) : Int).toNat ((IntKind.u64.wrap ((Int.tmod a1 (IntKind.u64.wrap (a0))) + 1)) : Int).toNat))) else (none)))) else (none)) else (none)) else (none))) = some r := by rw [if_pos rfl] at H; exact H
    clear H
    have H := H1
    clear H1
    by_cases c5 : (IntKind.u64.wrap (a0)) = 0
    · rw [if_pos c5] at H
      exact absurd H (by simp)
    · rw [if_neg c5] at H
      have c5b0 : ((IntKind.u64.wrap (a0)) == 0) = false := beq_eq_false_iff_ne.mpr c5
      have c5b1 : ((IntKind.u64.wrap (a0)) != 0) = true := bne_iff_ne.mpr c5
      obtain ⟨ji6, hji6⟩ : ∃ j_ : Int, (Int.tmod a1 (IntKind.u64.wrap (a0))) = j_ := ⟨_, rfl⟩
      replace H : (if 0 ≤ (ji6) then (if (ji6) ≤ (IntKind.u64.wrap ((ji6) + 1)) then (if (IntKind.u64.wrap ((ji6) + 1)) ≤ 16 then (if a1 < (IntKind.u64.wrap (a0)) then (some ((⟨#[48, 49, 50, 51, 52, 53, 54, 55, 56, 57, 97, 98, 99, 100, 101, 102]⟩ : ByteArray).extract ((ji6) : Int).toNat ((IntKind.u64.wrap ((ji6) + 1)) : Int).toNat)) else ((pleacherref03_Put.f k a0 (IntKind.u64.wrap (Int.tdiv a1 (IntKind.u64.wrap (a0))))).bind fun t164 => (if t164.size + ((⟨#[48, 49, 50, 51, 52, 53, 54, 55, 56, 57, 97, 98, 99, 100, 101, 102]⟩ : ByteArray).extract ((ji6) : Int).toNat ((IntKind.u64.wrap ((ji6) + 1)) : Int).toNat).size ≤ 9223372036854775807 then (some (t164 ++ ((⟨#[48, 49, 50, 51, 52, 53, 54, 55, 56, 57, 97, 98, 99, 100, 101, 102]⟩ : ByteArray).extract ((ji6) : Int).toNat ((IntKind.u64.wrap ((ji6) + 1)) : Int).toNat))) else (none)))) else (none)) else (none)) else (none)) = some r := by first | (rw [hji6] at H; exact H) | (simp only [hji6] at H ⊢; exact H)
      (try rw [hji6] at A3)
      by_cases c7 : 0 ≤ (ji6)
      · rw [if_pos c7] at H
        have c7b0 := eq_true c7
        have c7b1 : decide (0 ≤ (ji6)) = true := decide_eq_true c7
        clear c7
        by_cases c8 : (ji6) ≤ (IntKind.u64.wrap ((ji6) + 1))
        · rw [if_pos c8] at H
          have c8b0 := eq_true c8
          have c8b1 : decide ((ji6) ≤ (IntKind.u64.wrap ((ji6) + 1))) = true := decide_eq_true c8
          by_cases c9 : (IntKind.u64.wrap ((ji6) + 1)) ≤ 16
          · rw [if_pos c9] at H
            have c9b0 := eq_true c9
            have c9b1 : decide ((IntKind.u64.wrap ((ji6) + 1)) ≤ 16) = true := decide_eq_true c9
            by_cases c10 : a1 < (IntKind.u64.wrap (a0))
            · rw [if_pos c10] at H
              have c10b0 : decide (a1 < (IntKind.u64.wrap (a0))) = true := decide_eq_true c10
              clear c10
              obtain rfl := Option.some.inj H
              go_enter Tryd.func32, Tryd.ntmps32
              go_wp2_with (first | (go_at_call 46; (with_reducible refine (pleacherref03_is.calls a0 true _ A3.out).mono ?_); rintro e w' ⟨rfl, ⟨nd, rfl⟩⟩; (try first | exact ⟨rfl, _, World.drewN_drewN _ _ _⟩ | exact ⟨rfl, _, Eq.trans (World.drewN_drewN _ _ _) (congrArg (World.drewN _) (Nat.add_assoc _ _ _))⟩)))
              repeat (go_quiet (first | (go_at_call 46; (with_reducible refine (pleacherref03_is.calls a0 true _ A3.out).mono ?_); rintro e w' ⟨rfl, ⟨nd, rfl⟩⟩; (try first | exact ⟨rfl, _, World.drewN_drewN _ _ _⟩ | exact ⟨rfl, _, Eq.trans (World.drewN_drewN _ _ _) (congrArg (World.drewN _) (Nat.add_assoc _ _ _))⟩))); try go_wp2_with (first | (go_at_call 46; (with_reducible refine (pleacherref03_is.calls a0 true _ A3.out).mono ?_); rintro e w' ⟨rfl, ⟨nd, rfl⟩⟩; (try first | exact ⟨rfl, _, World.drewN_drewN _ _ _⟩ | exact ⟨rfl, _, Eq.trans (World.drewN_drewN _ _ _) (congrArg (World.drewN _) (Nat.add_assoc _ _ _))⟩))))
              go_ret
              exact ⟨by first | rfl | (simp; done) | (simp only [← hji6] <;> (first | rfl | simp)) | (simp [*]; done), by repeat (first | exact Drawn0.refl _ | apply Drawn0.step)⟩
            · rw [if_neg c10] at H
              have c10b0 : decide (a1 < (IntKind.u64.wrap (a0))) = false := decide_eq_false c10
              clear c10
              replace H := Option.bind_eq_some_iff.mp H
              obtain ⟨t164, A110, H⟩ := H
              replace H : (if t164.size + ((⟨#[48, 49, 50, 51, 52, 53, 54, 55, 56, 57, 97, 98, 99, 100, 101, 102]⟩ : ByteArray).extract ((ji6) : Int).toNat ((IntKind.u64.wrap ((ji6) + 1)) : Int).toNat).size ≤ 9223372036854775807 then (some (t164 ++ ((⟨#[48, 49, 50, 51, 52, 53, 54, 55, 56, 57, 97, 98, 99, 100, 101, 102]⟩ : ByteArray).extract ((ji6) : Int).toNat ((IntKind.u64.wrap ((ji6) + 1)) : Int).toNat))) else (none)) = some r := H
              have A11 := Aside0.mk A110
              clear A110
              by_cases c12 : t164.size + ((⟨#[48, 49, 50, 51, 52, 53, 54, 55, 56, 57, 97, 98, 99, 100, 101, 102]⟩ : ByteArray).extract ((ji6) : Int).toNat ((IntKind.u64.wrap ((ji6) + 1)) : Int).toNat).size ≤ 9223372036854775807
              · rw [if_pos c12] at H
                have c12b0 := eq_true c12
                have c12b1 : decide (t164.size + ((⟨#[48, 49, 50, 51, 52, 53, 54, 55, 56, 57, 97, 98, 99, 100, 101, 102]⟩ : ByteArray).extract ((ji6) : Int).toNat ((IntKind.u64.wrap ((ji6) + 1)) : Int).toNat).size ≤ 9223372036854775807) = true := decide_eq_true c12
                try have c12b2 : (9223372036854775807 < t164.size + ((⟨#[48, 49, 50, 51, 52, 53, 54, 55, 56, 57, 97, 98, 99, 100, 101, 102]⟩ : ByteArray).extract ((ji6) : Int).toNat ((IntKind.u64.wrap ((ji6) + 1)) : Int).toNat).size) = False := eq_false (Nat.not_lt.2 c12)
                obtain rfl := Option.some.inj H
                go_enter Tryd.func32, Tryd.ntmps32
                go_wp2_with (first | (go_at_call 46; (with_reducible refine (pleacherref03_is.calls a0 true _ A3.out).mono ?_); rintro e w' ⟨rfl, ⟨nd, rfl⟩⟩; (try first | exact ⟨rfl, _, World.drewN_drewN _ _ _⟩ | exact ⟨rfl, _, Eq.trans (World.drewN_drewN _ _ _) (congrArg (World.drewN _) (Nat.add_assoc _ _ _))⟩)) | (go_at_call 32; (with_reducible refine (ih k (by omega) a0 (IntKind.u64.wrap (Int.tdiv a1 (IntKind.u64.wrap (a0)))) t164 _ A11.out).mono ?_); rintro e w' ⟨rfl, ⟨nd, rfl⟩⟩; (try first | exact ⟨rfl, _, World.drewN_drewN _ _ _⟩ | exact ⟨rfl, _, Eq.trans (World.drewN_drewN _ _ _) (congrArg (World.drewN _) (Nat.add_assoc _ _ _))⟩)))
                repeat (go_quiet (first | (go_at_call 46; (with_reducible refine (pleacherref03_is.calls a0 true _ A3.out).mono ?_); rintro e w' ⟨rfl, ⟨nd, rfl⟩⟩; (try first | exact ⟨rfl, _, World.drewN_drewN _ _ _⟩ | exact ⟨rfl, _, Eq.trans (World.drewN_drewN _ _ _) (congrArg (World.drewN _) (Nat.add_assoc _ _ _))⟩)) | (go_at_call 32; (with_reducible refine (ih k (by omega) a0 (IntKind.u64.wrap (Int.tdiv a1 (IntKind.u64.wrap (a0)))) t164 _ A11.out).mono ?_); rintro e w' ⟨rfl, ⟨nd, rfl⟩⟩; (try first | exact ⟨rfl, _, World.drewN_drewN _ _ _⟩ | exact ⟨rfl, _, Eq.trans (World.drewN_drewN _ _ _) (congrArg (World.drewN _) (Nat.add_assoc _ _ _))⟩))); try go_wp2_with (first | (go_at_call 46; (with_reducible refine (pleacherref03_is.calls a0 true _ A3.out).mono ?_); rintro e w' ⟨rfl, ⟨nd, rfl⟩⟩; (try first | exact ⟨rfl, _, World.drewN_drewN _ _ _⟩ | exact ⟨rfl, _, Eq.trans (World.drewN_drewN _ _ _) (congrArg (World.drewN _) (Nat.add_assoc _ _ _))⟩)) | (go_at_call 32; (with_reducible refine (ih k (by omega) a0 (IntKind.u64.wrap (Int.tdiv a1 (IntKind.u64.wrap (a0)))) t164 _ A11.out).mono ?_); rintro e w' ⟨rfl, ⟨nd, rfl⟩⟩; (try first | exact ⟨rfl, _, World.drewN_drewN _ _ _⟩ | exact ⟨rfl, _, Eq.trans (World.drewN_drewN _ _ _) (congrArg (World.drewN _) (Nat.add_assoc _ _ _))⟩))))
                go_ret
                exact ⟨by first | rfl | (simp; done) | (simp only [← hji6] <;> (first | rfl | simp)) | (simp [*]; done), by repeat (first | exact Drawn0.refl _ | apply Drawn0.step)⟩
              · rw [if_neg c12] at H
                exact absurd H (by simp)
          · rw [if_neg c9] at H
            exact absurd H (by simp)
        · rw [if_neg c8] at H
          exact absurd H (by simp)
      · rw [if_neg c7] at H
        exact absurd H (by simp)
  · replace c4 := Bool.eq_false_iff.mpr c4
    subst c4
    have H1 : (some (⟨#[]⟩ : ByteArray)) = some r := by rw [if_neg (show ¬ (false = true) by decide)] at H; exact H
    clear H
    have H := H1
    clear H1
    obtain rfl := Option.some.inj H
    go_enter Tryd.func32, Tryd.ntmps32
    go_wp2_with (first | (go_at_call 46; (with_reducible refine (pleacherref03_is.calls a0 false _ A3.out).mono ?_); rintro e w' ⟨rfl, ⟨nd, rfl⟩⟩; (try first | exact ⟨rfl, _, World.drewN_drewN _ _ _⟩ | exact ⟨rfl, _, Eq.trans (World.drewN_drewN _ _ _) (congrArg (World.drewN _) (Nat.add_assoc _ _ _))⟩)))
    repeat (go_quiet (first | (go_at_call 46; (with_reducible refine (pleacherref03_is.calls a0 false _ A3.out).mono ?_); rintro e w' ⟨rfl, ⟨nd, rfl⟩⟩; (try first | exact ⟨rfl, _, World.drewN_drewN _ _ _⟩ | exact ⟨rfl, _, Eq.trans (World.drewN_drewN _ _ _) (congrArg (World.drewN _) (Nat.add_assoc _ _ _))⟩))); try go_wp2_with (first | (go_at_call 46; (with_reducible refine (pleacherref03_is.calls a0 false _ A3.out).mono ?_); rintro e w' ⟨rfl, ⟨nd, rfl⟩⟩; (try first | exact ⟨rfl, _, World.drewN_drewN _ _ _⟩ | exact ⟨rfl, _, Eq.trans (World.drewN_drewN _ _ _) (congrArg (World.drewN _) (Nat.add_assoc _ _ _))⟩))))
    go_ret
    exact ⟨by first | rfl | (simp; done) | (simp [*]; done), by repeat (first | exact Drawn0.refl _ | apply Drawn0.step)⟩

end Go.Proofs.YtbcjhmeeonhmaaaDoor.M
end

-- Laid by a program of this session for this claim.
section
namespace Go.Proofs.YtbcjhmeeonhmaaaDoor.M
open Go.RowKit Go.Proofs.YtbcjhmeeonhmaaaDoorW.PrintWords Go.Proofs.YtbcjhmeeonhmaaaDoorW.PrintLast Go.Proofs.YtbcjhmeeonhmaaaDoorW.PrintMore
attribute [local go_sem] max2_int min2_int max_two min_two max_three min_three max_four min_four   -- for this text's walks alone
set_option linter.unusedVariables false
set_option linter.unusedSimpArgs false

/-! ### pleacherref03_digit: function 66 -/
mutual
def pleacherref03_digit.j0 : Nat → Int → Bool → Option (Int)
  | 0, _, _ => none
  | k + 1, x0, x8 => if x8 = true then (some ((x0 - 48) % 256)) else (if x0 ≥ 97 then (pleacherref03_digit.j1 k x0 (decide (x0 ≤ 102))) else (pleacherref03_digit.j1 k x0 false))
def pleacherref03_digit.j1 : Nat → Int → Bool → Option (Int)
  | 0, _, _ => none
  | k + 1, x0, x17 => if x17 = true then (some (((x0 - 97) % 256) + 10)) else (if x0 ≥ 65 then (if x0 ≤ 70 then (some (((x0 - 65) % 256) + 10)) else (some 99)) else (some 99))
end
def pleacherref03_digit.f (k : Nat) (a0 : Int) : Option (Int) := if a0 ≥ 48 then (pleacherref03_digit.j0 k a0 (decide (a0 ≤ 57))) else (pleacherref03_digit.j0 k a0 false)
set_option maxHeartbeats 8000000 in
set_option maxRecDepth 100000 in
theorem pleacherref03_digit.calls (k : Nat) (a0 : Int) (r : Int) (w : World) (h : pleacherref03_digit.f k a0 = some r) :
    Calls Tryd.prog 66 #[.int .u8 a0] w fun e w' => e = .returned (.int .u64 r) ∧ Drawn0 w w' := by
  have H : (if a0 ≥ 48 then (pleacherref03_digit.j0 k a0 (decide (a0 ≤ 57))) else (pleacherref03_digit.j0 k a0 false)) = some r := h
  clear h
  have HC2 := Aside0.mk H
  clear H
  go_enter Tryd.func66, Tryd.ntmps66
  go_upto_region 1 with (fail)
  go_cut [8] (fun v8 wc => ∃ (kq : Nat) (x8_1 : Bool), v8 = .bool x8_1 ∧ Aside0 (pleacherref03_digit.j0 kq a0 x8_1 = some r) ∧ Aside0 (kq ≤ k) ∧ Drawn0 w wc)
  case first =>
    have H := HC2.out
    clear HC2
    by_cases c3 : a0 ≥ 48
    · rw [if_pos c3] at H
      have c3b0 : decide (48 ≤ a0) = true := decide_eq_true c3
      clear c3
      (first | rw [c3b0] | (simp only [i64_w, i32_w]; rw [c3b0]) | skip)
      have H' := Aside0.mk H
      clear H
      go_wp2
      go_meet
      case rel => exact ⟨_, (decide (a0 ≤ 57)), (by first | rfl | (simp; done) | (simp [*]; done)), H', ⟨by first | omega | exact Nat.le_refl _⟩, by repeat (first | exact Drawn0.refl _ | apply Drawn0.step)⟩
    · rw [if_neg c3] at H
      have c3b0 : decide (48 ≤ a0) = false := decide_eq_false c3
      clear c3
      (first | rw [c3b0] | (simp only [i64_w, i32_w]; rw [c3b0]) | skip)
      have H' := Aside0.mk H
      clear H
      go_wp2
      go_meet
      case rel => exact ⟨_, (false), (by first | rfl | (simp; done) | (simp [*]; done)), H', ⟨by first | omega | exact Nat.le_refl _⟩, by repeat (first | exact Drawn0.refl _ | apply Drawn0.step)⟩
  case rest =>
    clear HC2
    try clear p2
    try clear c3
    try clear c3b0
    obtain ⟨kq, x8_1, rfl, HA, HJ1, ⟨mc1, rfl⟩⟩ := hcut
    cases kq with
    | zero => exact absurd HA.out (by simp [pleacherref03_digit.j0])
    | succ kj1 =>
      have H := HA.out
      clear HA
      simp only [pleacherref03_digit.j0] at H
      by_cases c4 : x8_1 = true
      · subst c4
        have H1 : (some ((a0 - 48) % 256)) = some r := by rw [if_pos rfl] at H; exact H
        clear H
        have H := H1
        clear H1
        obtain rfl := Option.some.inj H
        go_wp2
        go_ret
        exact ⟨by first | rfl | (simp; done) | (simp [*]; done), by repeat (first | exact Drawn0.refl _ | apply Drawn0.step)⟩
      · replace c4 := Bool.eq_false_iff.mpr c4
        subst c4
        have H1 : (if a0 ≥ 97 then (pleacherref03_digit.j1 kj1 a0 (decide (a0 ≤ 102))) else (pleacherref03_digit.j1 kj1 a0 false)) = some r := by rw [if_neg (show ¬ (false = true) by decide)] at H; exact H
        clear H
        have H := H1
        clear H1
        have HC5 := Aside0.mk H
        clear H
        go_upto_region 3 with (fail)
        go_cut [17] (fun v17 wc => ∃ (kq : Nat) (x17_4 : Bool), v17 = .bool x17_4 ∧ Aside0 (pleacherref03_digit.j1 kq a0 x17_4 = some r) ∧ Aside0 (kq ≤ kj1) ∧ Drawn0 w wc)
        case first =>
          have H := HC5.out
          clear HC5
          by_cases c6 : a0 ≥ 97
          · rw [if_pos c6] at H
            have c6b0 : decide (97 ≤ a0) = true := decide_eq_true c6
            clear c6
            (first | rw [c6b0] | (simp only [i64_w, i32_w]; rw [c6b0]) | skip)
            have H' := Aside0.mk H
            clear H
            go_wp2
            go_meet
            case rel => exact ⟨_, (decide (a0 ≤ 102)), (by first | rfl | (simp; done) | (simp [*]; done)), H', ⟨by have := HJ1.out; first | omega | exact Nat.le_refl _⟩, by repeat (first | exact Drawn0.refl _ | apply Drawn0.step)⟩
          · rw [if_neg c6] at H
            have c6b0 : decide (97 ≤ a0) = false := decide_eq_false c6
            clear c6
            (first | rw [c6b0] | (simp only [i64_w, i32_w]; rw [c6b0]) | skip)
            have H' := Aside0.mk H
            clear H
            go_wp2
            go_meet
            case rel => exact ⟨_, (false), (by first | rfl | (simp; done) | (simp [*]; done)), H', ⟨by have := HJ1.out; first | omega | exact Nat.le_refl _⟩, by repeat (first | exact Drawn0.refl _ | apply Drawn0.step)⟩
        case rest =>
          clear HC5
          try clear c1
          try clear p2
          try clear c3
          try clear c3b0
          try clear c4
          try clear c6
          try clear c6b0
          try clear p2
          obtain ⟨kq, x17_4, rfl, HA, HJ4, ⟨mc4, rfl⟩⟩ := hcut
          cases kq with
          | zero => exact absurd HA.out (by simp [pleacherref03_digit.j1])
          | succ kj4 =>
            have H := HA.out
            clear HA
            simp only [pleacherref03_digit.j1] at H
            by_cases c7 : x17_4 = true
            · subst c7
              have H1 : (some (((a0 - 97) % 256) + 10)) = some r := by rw [if_pos rfl] at H; exact H
              clear H
              have H := H1
              clear H1
              obtain rfl := Option.some.inj H
              go_wp2
              go_ret
              exact ⟨by first | rfl | (simp; done) | (simp [*]; done), by repeat (first | exact Drawn0.refl _ | apply Drawn0.step)⟩
            · replace c7 := Bool.eq_false_iff.mpr c7
              subst c7
              have H1 : (if a0 ≥ 65 then (if a0 ≤ 70 then (some (((a0 - 65) % 256) + 10)) else (some 99)) else (some 99)) = some r := by rw [if_neg (show ¬ (false = true) by decide)] at H; exact H
              clear H
              have H := H1
              clear H1
              by_cases c8 : a0 ≥ 65
              · rw [if_pos c8] at H
                have c8b0 : decide (65 ≤ a0) = true := decide_eq_true c8
                clear c8
                by_cases c9 : a0 ≤ 70
                · rw [if_pos c9] at H
                  have c9b0 : decide (a0 ≤ 70) = true := decide_eq_true c9
                  clear c9
                  obtain rfl := Option.some.inj H
                  go_wp2
                  go_ret
                  exact ⟨by first | rfl | (simp; done) | (simp [*]; done), by repeat (first | exact Drawn0.refl _ | apply Drawn0.step)⟩
                · rw [if_neg c9] at H
                  have c9b0 : decide (a0 ≤ 70) = false := decide_eq_false c9
                  clear c9
                  obtain rfl := Option.some.inj H
                  go_wp2
                  go_ret
                  exact ⟨by first | rfl | (simp; done) | (simp [*]; done), by repeat (first | exact Drawn0.refl _ | apply Drawn0.step)⟩
              · rw [if_neg c8] at H
                have c8b0 : decide (65 ≤ a0) = false := decide_eq_false c8
                clear c8
                obtain rfl := Option.some.inj H
                go_wp2
                go_ret
                exact ⟨by first | rfl | (simp; done) | (simp [*]; done), by repeat (first | exact Drawn0.refl _ | apply Drawn0.step)⟩

end Go.Proofs.YtbcjhmeeonhmaaaDoor.M
end

-- Laid by a program of this session for this claim.
section
namespace Go.Proofs.YtbcjhmeeonhmaaaDoor.M
open Go.RowKit Go.Proofs.YtbcjhmeeonhmaaaDoorW.PrintWords Go.Proofs.YtbcjhmeeonhmaaaDoorW.PrintLast Go.Proofs.YtbcjhmeeonhmaaaDoorW.PrintMore
attribute [local go_sem] max2_int min2_int max_two min_two max_three min_three max_four min_four   -- for this text's walks alone
set_option linter.unusedVariables false
set_option linter.unusedSimpArgs false

/-! ### pleacherref03_Get: function 53 -/
def pleacherref03_Get.l0 : Nat → ByteArray → Int → Int → Int → Option (Int × Int)
  | 0, _, _, _, _ => none
  | k + 1, x1, x6, x7, x8 => if x8 < (x1.size : Int) then (if 0 ≤ x8 then ((pleacherref03_digit.f k (bt x1 x8)).bind fun t166 => (if t166 ≥ x6 then (some (0, 30)) else (if x6 = 0 then (none) else (if x7 > (IntKind.u64.wrap (Int.tdiv (IntKind.u64.wrap (18446744073709551615 - t166)) x6)) then (some (0, 30)) else (pleacherref03_Get.l0 k x1 x6 (IntKind.u64.wrap ((IntKind.u64.wrap (x6 * x7)) + t166)) (wrap64 (x8 + 1))))))) else (none)) else (if x1.toList = ([] : List UInt8) then (some (0, 30)) else (some (x7, 0)))
def pleacherref03_Get.f (k : Nat) (a0 : Int) (a1 : ByteArray) : Option (Int × Int) := (pleacherref03_is.f a0).bind fun t165 => (if t165 = true then (pleacherref03_Get.l0 k a1 (IntKind.u64.wrap (a0)) 0 0) else (some (0, 2)))
set_option maxHeartbeats 8000000 in
set_option maxRecDepth 100000 in
theorem pleacherref03_Get.calls (k : Nat) (a0 : Int) (a1 : ByteArray) (r1 : Int) (r2 : Int) (w : World) (h : pleacherref03_Get.f k a0 a1 = some (r1, r2)) :
    Calls Tryd.prog 53 #[.int .i64 a0, .string a1] w fun e w' => e = .returned (.tuple #[.int .u64 r1, .int .i64 r2]) ∧ Drawn0 w w' := by
  have H : ((pleacherref03_is.f a0).bind fun t165 => (if t165 = true then (pleacherref03_Get.l0 k a1 (IntKind.u64.wrap (a0)) 0 0) else (some (0, 2)))) = some (r1, r2) := h
  clear h
  replace H := Option.bind_eq_some_iff.mp H
  obtain ⟨t165, A30, H⟩ := H
  replace H : (if t165 = true then (pleacherref03_Get.l0 k a1 (IntKind.u64.wrap (a0)) 0 0) else (some (0, 2))) = some (r1, r2) := H
  have A3 := Aside0.mk A30
  clear A30
  by_cases c4 : t165 = true
  · subst c4
    have H1 : (pleacherref03_Get.l0 k a1 (IntKind.u64.wrap (a0)) 0 0) = some (r1, r2) := by rw [if_pos rfl] at H; exact H
    clear H
    have H := H1
    clear H1
    have H' := Aside0.mk H
    clear H
    go_enter Tryd.func53, Tryd.ntmps53
    go_wp2_with (first | ((with_reducible refine gate_callee (f := 46) rfl ?_); refine goesL_ (some 11) rfl rfl Tryd.func46 (by kernel_rfl) rfl #[.int .i64 a0] rfl (by (try simp only [List.map_toArray, List.map_cons, List.map_nil]); first | done | rfl | (simp only [List.length_drop, List.length_take]; rfl)) ?_; (with_reducible refine (pleacherref03_is.calls a0 true _ A3.out).mono ?_); rintro e w' ⟨rfl, ⟨nd, rfl⟩⟩; refine ⟨_, rfl, ?_⟩))
    go_loopg [7, 8] k (fun kq v7 v8 w' => ∃ (x7_1 : Int) (x8_1 : Int), v7 = .int .u64 x7_1 ∧ v8 = .int .i64 x8_1 ∧ Aside0 (pleacherref03_Get.l0 kq a1 (IntKind.u64.wrap (a0)) x7_1 x8_1 = some (r1, r2)) ∧ Aside0 (kq ≤ k) ∧ Drawn0 w w')
    case atStart => exact ⟨(0), (0), (by first | rfl | (simp; done) | (simp [*]; done)), (by first | rfl | (simp; done) | (simp [*]; done)), H', ⟨Nat.le_refl _⟩, by repeat (first | exact Drawn0.refl _ | apply Drawn0.step)⟩
    case round =>
      clear H'
      try clear p2
      try clear c4
      obtain ⟨x7_1, x8_1, rfl, rfl, HA, HK1, ⟨m1, rfl⟩⟩ := hrel
      cases gk with
      | zero => exact absurd HA.out (by simp [pleacherref03_Get.l0])
      | succ k1 =>
        have H := HA.out
        clear HA
        simp only [pleacherref03_Get.l0] at H
        by_cases c5 : x8_1 < (a1.size : Int)
        · rw [if_pos c5] at H
          have c5b0 : decide (x8_1 < (a1.size : Int)) = true := decide_eq_true c5
          clear c5
          by_cases c6 : 0 ≤ x8_1
          · rw [if_pos c6] at H
            have c6b0 : decide (0 ≤ x8_1) = true := decide_eq_true c6
            clear c6
            replace H := Option.bind_eq_some_iff.mp H
            obtain ⟨t166, A80, H⟩ := H
            replace H : (if t166 ≥ (IntKind.u64.wrap (a0)) then (some (0, 30)) else (if (IntKind.u64.wrap (a0)) = 0 then (none) else (if x7_1 > (IntKind.u64.wrap (Int.tdiv (IntKind.u64.wrap (18446744073709551615 - t166)) (IntKind.u64.wrap (a0)))) then (some (0, 30)) else (pleacherref03_Get.l0 k1 a1 (IntKind.u64.wrap (a0)) (IntKind.u64.wrap ((IntKind.u64.wrap ((IntKind.u64.wrap (a0)) * x7_1)) + t166)) (wrap64 (x8_1 + 1)))))) = some (r1, r2) := H
            have A8 := Aside0.mk A80
            clear A80
            by_cases c9 : t166 ≥ (IntKind.u64.wrap (a0))
            · rw [if_pos c9] at H
              have c9b0 : decide ((IntKind.u64.wrap (a0)) ≤ t166) = true := decide_eq_true c9
              clear c9
              simp only [Option.some.injEq, Prod.mk.injEq] at H
              obtain ⟨rfl, rfl⟩ := H
              have p7 : 0 ≤ (x8_1 : Int) := of_decide_eq_true (by first | (with_reducible assumption) | assumption)
              have q7 : x8_1 < (a1.size : Int) := of_decide_eq_true (by first | (with_reducible assumption) | assumption)
              have hx7 := bt_at a1 x8_1
              replace p7 := eq_true p7
              replace q7 := eq_true q7
              go_wp2_with (first | ((with_reducible refine gate_callee (f := 66) rfl ?_); refine goesL_ (some 24) rfl rfl Tryd.func66 (by kernel_rfl) rfl #[.int .u8 (bt a1 x8_1)] rfl (by (try simp only [List.map_toArray, List.map_cons, List.map_nil]); first | done | rfl | (simp only [List.length_drop, List.length_take]; rfl)) ?_; (with_reducible refine (pleacherref03_digit.calls k1 (bt a1 x8_1) t166 _ A8.out).mono ?_); rintro e w' ⟨rfl, ⟨nd, rfl⟩⟩; refine ⟨_, rfl, ?_⟩))
              go_ret2
              exact ⟨by first | rfl | (simp; done) | (simp [*]; done), by repeat (first | exact Drawn0.refl _ | apply Drawn0.step)⟩
            · rw [if_neg c9] at H
              have c9b0 : decide ((IntKind.u64.wrap (a0)) ≤ t166) = false := decide_eq_false c9
              clear c9
              by_cases c10 : (IntKind.u64.wrap (a0)) = 0
              · rw [if_pos c10] at H
                exact absurd H (by simp)
              · rw [if_neg c10] at H
                have c10b0 : ((IntKind.u64.wrap (a0)) == 0) = false := beq_eq_false_iff_ne.mpr c10
                have c10b1 : ((IntKind.u64.wrap (a0)) != 0) = true := bne_iff_ne.mpr c10
                by_cases c11 : x7_1 > (IntKind.u64.wrap (Int.tdiv (IntKind.u64.wrap (18446744073709551615 - t166)) (IntKind.u64.wrap (a0))))
                · rw [if_pos c11] at H
                  have c11b0 : decide ((IntKind.u64.wrap (Int.tdiv (IntKind.u64.wrap (18446744073709551615 - t166)) (IntKind.u64.wrap (a0)))) < x7_1) = true := decide_eq_true c11
                  clear c11
                  simp only [Option.some.injEq, Prod.mk.injEq] at H
                  obtain ⟨rfl, rfl⟩ := H
                  have p7 : 0 ≤ (x8_1 : Int) := of_decide_eq_true (by first | (with_reducible assumption) | assumption)
                  have q7 : x8_1 < (a1.size : Int) := of_decide_eq_true (by first | (with_reducible assumption) | assumption)
                  have hx7 := bt_at a1 x8_1
                  replace p7 := eq_true p7
                  replace q7 := eq_true q7
                  go_wp2_with (first | ((with_reducible refine gate_callee (f := 66) rfl ?_); refine goesL_ (some 24) rfl rfl Tryd.func66 (by kernel_rfl) rfl #[.int .u8 (bt a1 x8_1)] rfl (by (try simp only [List.map_toArray, List.map_cons, List.map_nil]); first | done | rfl | (simp only [List.length_drop, List.length_take]; rfl)) ?_; (with_reducible refine (pleacherref03_digit.calls k1 (bt a1 x8_1) t166 _ A8.out).mono ?_); rintro e w' ⟨rfl, ⟨nd, rfl⟩⟩; refine ⟨_, rfl, ?_⟩))
                  go_ret2
                  exact ⟨by first | rfl | (simp; done) | (simp [*]; done), by repeat (first | exact Drawn0.refl _ | apply Drawn0.step)⟩
                · rw [if_neg c11] at H
                  have c11b0 : decide ((IntKind.u64.wrap (Int.tdiv (IntKind.u64.wrap (18446744073709551615 - t166)) (IntKind.u64.wrap (a0)))) < x7_1) = false := decide_eq_false c11
                  clear c11
                  have H' := Aside0.mk H
                  clear H
                  have p7 : 0 ≤ (x8_1 : Int) := of_decide_eq_true (by first | (with_reducible assumption) | assumption)
                  have q7 : x8_1 < (a1.size : Int) := of_decide_eq_true (by first | (with_reducible assumption) | assumption)
                  have hx7 := bt_at a1 x8_1
                  replace p7 := eq_true p7
                  replace q7 := eq_true q7
                  go_wp2_with (first | ((with_reducible refine gate_callee (f := 66) rfl ?_); refine goesL_ (some 24) rfl rfl Tryd.func66 (by kernel_rfl) rfl #[.int .u8 (bt a1 x8_1)] rfl (by (try simp only [List.map_toArray, List.map_cons, List.map_nil]); first | done | rfl | (simp only [List.length_drop, List.length_take]; rfl)) ?_; (with_reducible refine (pleacherref03_digit.calls k1 (bt a1 x8_1) t166 _ A8.out).mono ?_); rintro e w' ⟨rfl, ⟨nd, rfl⟩⟩; refine ⟨_, rfl, ?_⟩))
                  go_roundg k1
                  case measure => have := HK1.out; omega
                  case rel => exact ⟨(IntKind.u64.wrap ((IntKind.u64.wrap ((IntKind.u64.wrap (a0)) * x7_1)) + t166)), (wrap64 (x8_1 + 1)), (by first | rfl | (simp; done) | (simp [*]; done)), (by first | rfl | (simp; done) | (simp [*]; done)), H', ⟨by have := HK1.out; omega⟩, by repeat (first | exact Drawn0.refl _ | apply Drawn0.step)⟩
          · rw [if_neg c6] at H
            exact absurd H (by simp)
        · rw [if_neg c5] at H
          have c5b0 : decide (x8_1 < (a1.size : Int)) = false := decide_eq_false c5
          clear c5
          by_cases c12 : a1.toList = ([] : List UInt8)
          · rw [if_pos c12] at H
            have c12b0 : (a1.toList == ([] : List UInt8)) = true := beq_iff_eq.mpr c12
            have c12b1 : (a1.toList != ([] : List UInt8)) = false := bne_eq_false_iff_eq.mpr c12
            clear c12
            simp only [Option.some.injEq, Prod.mk.injEq] at H
            obtain ⟨rfl, rfl⟩ := H
            go_wp2
            go_ret2
            exact ⟨by first | rfl | (simp; done) | (simp [*]; done), by repeat (first | exact Drawn0.refl _ | apply Drawn0.step)⟩
          · rw [if_neg c12] at H
            have c12b0 : (a1.toList == ([] : List UInt8)) = false := beq_eq_false_iff_ne.mpr c12
            have c12b1 : (a1.toList != ([] : List UInt8)) = true := bne_iff_ne.mpr c12
            simp only [Option.some.injEq, Prod.mk.injEq] at H
            obtain ⟨rfl, rfl⟩ := H
            go_wp2
            go_ret2
            exact ⟨by first | rfl | (simp; done) | (simp [*]; done), by repeat (first | exact Drawn0.refl _ | apply Drawn0.step)⟩
  · replace c4 := Bool.eq_false_iff.mpr c4
    subst c4
    have H1 : (some (0, 2)) = some (r1, r2) := by rw [if_neg (show ¬ (false = true) by decide)] at H; exact H
    clear H
    have H := H1
    clear H1
    simp only [Option.some.injEq, Prod.mk.injEq] at H
    obtain ⟨rfl, rfl⟩ := H
    go_enter Tryd.func53, Tryd.ntmps53
    go_wp2_with (first | ((with_reducible refine gate_callee (f := 46) rfl ?_); refine goesL_ (some 11) rfl rfl Tryd.func46 (by kernel_rfl) rfl #[.int .i64 a0] rfl (by (try simp only [List.map_toArray, List.map_cons, List.map_nil]); first | done | rfl | (simp only [List.length_drop, List.length_take]; rfl)) ?_; (with_reducible refine (pleacherref03_is.calls a0 false _ A3.out).mono ?_); rintro e w' ⟨rfl, ⟨nd, rfl⟩⟩; refine ⟨_, rfl, ?_⟩))
    go_ret2
    exact ⟨by first | rfl | (simp; done) | (simp [*]; done), by repeat (first | exact Drawn0.refl _ | apply Drawn0.step)⟩

end Go.Proofs.YtbcjhmeeonhmaaaDoor.M
end

-- Laid by a program of this session for this claim.
section
namespace Go.Proofs.YtbcjhmeeonhmaaaDoor.M
open Go.RowKit Go.Proofs.YtbcjhmeeonhmaaaDoorW.PrintWords Go.Proofs.YtbcjhmeeonhmaaaDoorW.PrintLast Go.Proofs.YtbcjhmeeonhmaaaDoorW.PrintMore
attribute [local go_sem] max2_int min2_int max_two min_two max_three min_three max_four min_four   -- for this text's walks alone
set_option linter.unusedVariables false
set_option linter.unusedSimpArgs false

/-! ### pleacherref03_Own: function 36 -/
def pleacherref03_Own.f (k : Nat) (a0 : Int) (a1 : ByteArray) : Option (Int × Int) := (pleacherref03_Get.f k a0 a1).bind fun bt167 => (if bt167.2 = 0 then ((pleacherref03_Put.f k a0 bt167.1).bind fun t169 => (if t169.toList = a1.toList then (some (bt167.1, 0)) else (some (0, 30)))) else (some (0, bt167.2)))
set_option maxHeartbeats 8000000 in
set_option maxRecDepth 100000 in
theorem pleacherref03_Own.calls (k : Nat) (a0 : Int) (a1 : ByteArray) (r1 : Int) (r2 : Int) (w : World) (h : pleacherref03_Own.f k a0 a1 = some (r1, r2)) :
    Calls Tryd.prog 36 #[.int .i64 a0, .string a1] w fun e w' => e = .returned (.tuple #[.int .u64 r1, .int .i64 r2]) ∧ Drawn0 w w' := by
  have H : ((pleacherref03_Get.f k a0 a1).bind fun bt167 => (if bt167.2 = 0 then ((pleacherref03_Put.f k a0 bt167.1).bind fun t169 => (if t169.toList = a1.toList then (some (bt167.1, 0)) else (some (0, 30)))) else (some (0, bt167.2)))) = some (r1, r2) := h
  clear h
  replace H := Option.bind_eq_some_iff.mp H
  obtain ⟨⟨t167, t168⟩, A30, H⟩ := H
  replace H : (if t168 = 0 then ((pleacherref03_Put.f k a0 t167).bind fun t169 => (if t169.toList = a1.toList then (some (t167, 0)) else (some (0, 30)))) else (some (0, t168))) = some (r1, r2) := H
  have A3 := Aside0.mk A30
  clear A30
  by_cases c4 : t168 = 0
  · rw [if_pos c4] at H
    have c4b0 : (t168 == 0) = true := beq_iff_eq.mpr c4
    have c4b1 : (t168 != 0) = false := bne_eq_false_iff_eq.mpr c4
    clear c4
    replace H := Option.bind_eq_some_iff.mp H
    obtain ⟨t169, A50, H⟩ := H
    replace H : (if t169.toList = a1.toList then (some (t167, 0)) else (some (0, 30))) = some (r1, r2) := H
    have A5 := Aside0.mk A50
    clear A50
    by_cases c6 : t169.toList = a1.toList
    · rw [if_pos c6] at H
      have c6b0 : (t169.toList == a1.toList) = true := beq_iff_eq.mpr c6
      have c6b1 : (t169.toList != a1.toList) = false := bne_eq_false_iff_eq.mpr c6
      clear c6
      simp only [Option.some.injEq, Prod.mk.injEq] at H
      obtain ⟨rfl, rfl⟩ := H
      go_enter Tryd.func36, Tryd.ntmps36
      go_wp2_with (first | ((with_reducible refine gate_callee (f := 53) rfl ?_); refine goesL_ (some 11) rfl rfl Tryd.func53 (by kernel_rfl) rfl #[.int .i64 a0, .string a1] rfl (by (try simp only [List.map_toArray, List.map_cons, List.map_nil]); first | done | rfl | (simp only [List.length_drop, List.length_take]; rfl)) ?_; (with_reducible refine (pleacherref03_Get.calls k a0 a1 t167 t168 _ A3.out).mono ?_); rintro e w' ⟨rfl, ⟨nd, rfl⟩⟩; refine ⟨_, rfl, ?_⟩) | ((with_reducible refine gate_callee (f := 32) rfl ?_); refine goesL_ (some 19) rfl rfl Tryd.func32 (by kernel_rfl) rfl #[.int .i64 a0, .int .u64 t167] rfl (by (try simp only [List.map_toArray, List.map_cons, List.map_nil]); first | done | rfl | (simp only [List.length_drop, List.length_take]; rfl)) ?_; (with_reducible refine (pleacherref03_Put.calls k a0 t167 t169 _ A5.out).mono ?_); rintro e w' ⟨rfl, ⟨nd, rfl⟩⟩; refine ⟨_, rfl, ?_⟩))
      go_ret2
      exact ⟨by first | rfl | (simp; done) | (simp [*]; done), by repeat (first | exact Drawn0.refl _ | apply Drawn0.step)⟩
    · rw [if_neg c6] at H
      have c6b0 : (t169.toList == a1.toList) = false := beq_eq_false_iff_ne.mpr c6
      have c6b1 : (t169.toList != a1.toList) = true := bne_iff_ne.mpr c6
      simp only [Option.some.injEq, Prod.mk.injEq] at H
      obtain ⟨rfl, rfl⟩ := H
      go_enter Tryd.func36, Tryd.ntmps36
      go_wp2_with (first | ((with_reducible refine gate_callee (f := 53) rfl ?_); refine goesL_ (some 11) rfl rfl Tryd.func53 (by kernel_rfl) rfl #[.int .i64 a0, .string a1] rfl (by (try simp only [List.map_toArray, List.map_cons, List.map_nil]); first | done | rfl | (simp only [List.length_drop, List.length_take]; rfl)) ?_; (with_reducible refine (pleacherref03_Get.calls k a0 a1 t167 t168 _ A3.out).mono ?_); rintro e w' ⟨rfl, ⟨nd, rfl⟩⟩; refine ⟨_, rfl, ?_⟩) | ((with_reducible refine gate_callee (f := 32) rfl ?_); refine goesL_ (some 19) rfl rfl Tryd.func32 (by kernel_rfl) rfl #[.int .i64 a0, .int .u64 t167] rfl (by (try simp only [List.map_toArray, List.map_cons, List.map_nil]); first | done | rfl | (simp only [List.length_drop, List.length_take]; rfl)) ?_; (with_reducible refine (pleacherref03_Put.calls k a0 t167 t169 _ A5.out).mono ?_); rintro e w' ⟨rfl, ⟨nd, rfl⟩⟩; refine ⟨_, rfl, ?_⟩))
      go_ret2
      exact ⟨by first | rfl | (simp; done) | (simp [*]; done), by repeat (first | exact Drawn0.refl _ | apply Drawn0.step)⟩
  · rw [if_neg c4] at H
    have c4b0 : (t168 == 0) = false := beq_eq_false_iff_ne.mpr c4
    have c4b1 : (t168 != 0) = true := bne_iff_ne.mpr c4
    simp only [Option.some.injEq, Prod.mk.injEq] at H
    obtain ⟨rfl, rfl⟩ := H
    go_enter Tryd.func36, Tryd.ntmps36
    go_wp2_with (first | ((with_reducible refine gate_callee (f := 53) rfl ?_); refine goesL_ (some 11) rfl rfl Tryd.func53 (by kernel_rfl) rfl #[.int .i64 a0, .string a1] rfl (by (try simp only [List.map_toArray, List.map_cons, List.map_nil]); first | done | rfl | (simp only [List.length_drop, List.length_take]; rfl)) ?_; (with_reducible refine (pleacherref03_Get.calls k a0 a1 t167 t168 _ A3.out).mono ?_); rintro e w' ⟨rfl, ⟨nd, rfl⟩⟩; refine ⟨_, rfl, ?_⟩))
    go_ret2
    exact ⟨by first | rfl | (simp; done) | (simp [*]; done), by repeat (first | exact Drawn0.refl _ | apply Drawn0.step)⟩

end Go.Proofs.YtbcjhmeeonhmaaaDoor.M
end

/-
The document's numbers (pleacherref03) and the program's say the same.
-/
section
set_option linter.unusedVariables false
set_option maxRecDepth 100000
namespace Go.Proofs.YtbcjhmeeonhmaaaDoor.H
open Go Go.RowKit Go.Proofs.YtbcjhmeeonhmaaaDoorW.PrintWords Go.Proofs.YtbcjhmeeonhmaaaDoorW.PrintMore Go.Proofs.YtbcjhmeeonhmaaaDoor.M

theorem ref03_is (b : Nat) (hb : b = 8 ∨ b = 10 ∨ b = 16) : pleacherref03_is.f b = some true := by
  rcases hb with rfl | rfl | rfl <;> rfl
theorem dig_one : ∀ d : Nat, d < 16 → dig16.extract d (d + 1) = strOfNums [chr d] := by
  intro d hd
  have : d = 0 ∨ d = 1 ∨ d = 2 ∨ d = 3 ∨ d = 4 ∨ d = 5 ∨ d = 6 ∨ d = 7 ∨ d = 8 ∨ d = 9 ∨ d = 10 ∨ d = 11 ∨ d = 12 ∨ d = 13 ∨ d = 14 ∨ d = 15 := by omega
  rcases this with rfl | rfl | rfl | rfl | rfl | rfl | rfl | rfl | rfl | rfl | rfl | rfl | rfl | rfl | rfl | rfl <;> rfl
theorem strOf_append (a b : List Int) : strOfNums (a ++ b) = strOfNums a ++ strOfNums b := by
  unfold strOfNums
  rw [List.map_append]
  apply ByteArray.ext
  simp
theorem putS_more {b n : Nat} (hb : 2 ≤ b) (h : n / b ≠ 0) : putS b n = putS b (n / b) ++ strOfNums [chr (n % b)] := by
  unfold putS
  rw [dgc_more hb h, List.reverse_cons, strOf_append]
theorem putS_stop {b n : Nat} (h : n / b = 0) : putS b n = strOfNums [chr (n % b)] := by
  unfold putS
  rw [dgc_stop h]; rfl
theorem ref03_put_step (b : Nat) (hb : b = 8 ∨ b = 10 ∨ b = 16) (k n : Nat) (h2 : n < 18446744073709551616) : pleacherref03_Put.f (k + 1) b n =
    if n < b then some (strOfNums [chr (n % b)]) else (pleacherref03_Put.f k b ((n / b : Nat) : Int)).bind fun t => if t.size + 1 ≤ 9223372036854775807 then some (t ++ strOfNums [chr (n % b)]) else none := by
  have hb2 : 2 ≤ b := by omega
  have hm : n % b < b := Nat.mod_lt _ (by omega)
  have hmi : Int.tmod (n : Int) (b : Int) = ((n % b : Nat) : Int) := (Int.ofNat_tmod n b).symm
  have hdi : Int.tdiv (n : Int) (b : Int) = ((n / b : Nat) : Int) := (Int.ofNat_tdiv n b).symm
  have hle : n / b ≤ n := Nat.div_le_self _ _
  obtain ⟨q, hq⟩ : ∃ q, n / b = q := ⟨_, rfl⟩
  obtain ⟨m, hmm⟩ : ∃ m, n % b = m := ⟨_, rfl⟩
  rw [hq] at hdi hle
  rw [hmm] at hmi hm
  rw [pleacherref03_Put.f, ref03_is b hb]
  simp only [Option.bind_some, if_true]
  rw [wrap_u64 (b : Int) (by omega) (by omega), hmi, hdi, if_neg (by omega), if_pos (by omega), wrap_u64 ((m : Int) + 1) (by omega) (by omega), if_pos (by omega), if_pos (by omega), wrap_u64 (q : Int) (by omega) (by omega)]
  rw [show (((m : Int) + 1)).toNat = m + 1 from by omega, Int.toNat_natCast, hq, hmm]
  have hd := dig_one m (by omega)
  unfold dig16 at hd
  rw [hd]
  by_cases hlt : n < b
  · rw [if_pos (by omega), if_pos hlt]
  · rw [if_neg (by omega), if_neg hlt]
    rfl
theorem ref03_put (b : Nat) (hb : b = 8 ∨ b = 10 ∨ b = 16) : ∀ (k n : Nat), n < 2 ^ k → n < 18446744073709551616 → pleacherref03_Put.f (k + 1) b n = some (putS b n) := by
  intro k
  induction k with
  | zero =>
    intro n h1 h2
    obtain rfl : n = 0 := by omega
    rw [ref03_put_step b hb _ _ h2, if_pos (by omega), putS_stop (by simp)]
  | succ k ih =>
    intro n h1 h2
    have hb2 : 2 ≤ b := by omega
    rw [ref03_put_step b hb _ _ h2]
    by_cases hlt : n < b
    · rw [if_pos hlt, putS_stop (Nat.div_eq_of_lt hlt)]
    · have hne : n / b ≠ 0 := by
        have := Nat.div_pos (Nat.le_of_not_lt hlt) (by omega : 0 < b)
        omega
      have hle : n / b ≤ n / 2 := Nat.div_le_div_left hb2 (by omega)
      have hp : 2 ^ (k + 1) = 2 * 2 ^ k := by rw [Nat.pow_succ]; omega
      rw [if_neg hlt, ih (n / b) (by omega) (by omega)]
      simp only [Option.bind_some]
      have hsz : (putS b (n / b)).size ≤ 65 := by
        unfold putS; rw [strOfNums_size, List.length_reverse]
        exact dgc_len b hb2 64 (n / b) (by omega)
      rw [if_pos (by omega), putS_more hb2 hne]
theorem ref03_putI (b : Nat) (hb : b = 8 ∨ b = 10 ∨ b = 16) (k : Nat) (hk : 65 ≤ k) (n : Int) (h0 : 0 ≤ n) (h : n < 18446744073709551616) : pleacherref03_Put.f k b n = some (putS b n.toNat) := by
  obtain ⟨m, rfl⟩ := Int.eq_ofNat_of_zero_le h0
  obtain ⟨j, rfl⟩ : ∃ j, k = (64 + j) + 1 := ⟨k - 65, by omega⟩
  refine ref03_put b hb (64 + j) m ?_ (by omega)
  have : 2 ^ 64 ≤ 2 ^ (64 + j) := Nat.pow_le_pow_right (by decide) (by omega)
  omega

/-- A byte's digit, in the document. -/
def dref (c : Int) : Int := if 48 ≤ c ∧ c ≤ 57 then c - 48 else if 97 ≤ c ∧ c ≤ 102 then c - 87 else if 65 ≤ c ∧ c ≤ 70 then c - 55 else 99
theorem ref03_digit (c : Int) (h0 : 0 ≤ c) (h1 : c ≤ 255) (k : Nat) : pleacherref03_digit.f (k + 2) c = some (dref c) := by
  unfold pleacherref03_digit.f dref
  by_cases a1 : 48 ≤ c
  · rw [if_pos a1]
    by_cases a2 : c ≤ 57
    · rw [if_pos ⟨a1, a2⟩, pleacherref03_digit.j0, if_pos (by simpa using a2), m256 _ (by omega) (by omega)]
    · rw [if_neg (by omega), pleacherref03_digit.j0, if_neg (by simpa using a2)]
      by_cases a3 : 97 ≤ c
      · rw [if_pos a3]
        by_cases a4 : c ≤ 102
        · rw [if_pos ⟨a3, a4⟩, pleacherref03_digit.j1, if_pos (by simpa using a4), m256 _ (by omega) (by omega)]; congr 1; omega
        · rw [if_neg (by omega), if_neg (by omega), pleacherref03_digit.j1, if_neg (by simpa using a4), if_pos (by omega), if_neg (by omega)]
      · rw [if_neg a3, if_neg (by omega), pleacherref03_digit.j1, if_neg (by decide)]
        by_cases a5 : 65 ≤ c
        · rw [if_pos a5]
          by_cases a6 : c ≤ 70
          · rw [if_pos a6, if_pos ⟨a5, a6⟩, m256 _ (by omega) (by omega)]; congr 1; omega
          · rw [if_neg a6, if_neg (by omega)]
        · rw [if_neg a5, if_neg (by omega)]
  · rw [if_neg a1, if_neg (by omega), if_neg (by omega), if_neg (by omega), pleacherref03_digit.j0, if_neg (by decide), if_neg (by omega), pleacherref03_digit.j1, if_neg (by decide), if_neg (by omega)]
theorem dref_dg (b : Nat) (hb : b = 8 ∨ b = 10 ∨ b = 16) (c : Int) : (dgV b c = -1 ∧ dref c ≥ b) ∨ (dgV b c = dref c ∧ 0 ≤ dref c ∧ dref c < b) := by
  have hr : ∀ x, dv (low c) = x → (0 ≤ x → dref c = x) → (x < 0 → dref c ≥ b) → (dgV b c = -1 ∧ dref c ≥ b) ∨ (dgV b c = dref c ∧ 0 ≤ dref c ∧ dref c < b) := by
    intro x hx h1 h2
    unfold dgV rv
    rw [hx]
    by_cases h : 0 ≤ x ∧ x < (b : Int)
    · rw [if_pos h, h1 h.1]; right; exact ⟨rfl, h⟩
    · rw [if_neg h]
      left
      refine ⟨rfl, ?_⟩
      by_cases h0 : 0 ≤ x
      · rw [h1 h0]; omega
      · exact h2 (by omega)
  by_cases a5 : 65 ≤ c ∧ c ≤ 70
  · have e1 : low c = c + 32 := if_pos a5
    have e2 : dv (c + 32) = c - 55 := by unfold dv; rw [if_neg (by omega), if_pos (by omega)]; omega
    have e3 : dref c = c - 55 := by unfold dref; rw [if_neg (by omega), if_neg (by omega), if_pos a5]
    exact hr (c - 55) (by rw [e1, e2]) (fun _ => e3) (fun h => by omega)
  · have e1 : low c = c := if_neg a5
    by_cases a1 : 48 ≤ c ∧ c ≤ 57
    · have e2 : dv c = c - 48 := if_pos a1
      have e3 : dref c = c - 48 := if_pos a1
      exact hr (c - 48) (by rw [e1, e2]) (fun _ => e3) (fun h => by omega)
    · by_cases a3 : 97 ≤ c ∧ c ≤ 102
      · have e2 : dv c = c - 87 := by unfold dv; rw [if_neg a1, if_pos a3]
        have e3 : dref c = c - 87 := by unfold dref; rw [if_neg a1, if_pos a3]
        exact hr (c - 87) (by rw [e1, e2]) (fun _ => e3) (fun h => by omega)
      · have e2 : dv c = -1 := by unfold dv; rw [if_neg a1, if_neg a3]
        have e3 : dref c = 99 := by unfold dref; rw [if_neg a1, if_neg a3, if_neg a5]
        exact hr (-1) (by rw [e1, e2]) (fun h => by omega) (fun h => by omega)
theorem nil_iff (s : ByteArray) : s.toList = [] ↔ s.size = 0 := by
  rw [toList_data]
  constructor
  · intro e; rw [← size_data, e]; rfl
  · intro h; exact List.eq_nil_of_length_eq_zero (by rw [size_data]; exact h)
theorem get_end (s : ByteArray) (acc : Nat) : (if s.toList = ([] : List UInt8) then some ((0 : Int), (30 : Int)) else some ((acc : Int), 0)) = some (match getL 10 [] acc with | none => ((0 : Int), (30 : Int)) | some x => if s.size = 0 then (0, 30) else ((x : Int), 0)) := by
  unfold getL
  by_cases h : s.size = 0
  · rw [if_pos ((nil_iff s).2 h)]; simp only [if_pos h]
  · rw [if_neg (fun e => h ((nil_iff s).1 e))]; simp only [if_neg h]
theorem getL_cons (b : Nat) (c : UInt8) (t : List UInt8) (acc : Nat) (x : Int) (h : (c.toNat : Int) = x) : getL b (c :: t) acc = match step b acc x with | none => none | some a => getL b t a := by subst h; rfl
set_option maxHeartbeats 2000000 in
theorem ref03_get_l (b : Nat) (hb : b = 8 ∨ b = 10 ∨ b = 16) (s : ByteArray) (hs : s.size ≤ 1073741824) : ∀ (k i n acc : Nat), i + n = s.size → n ≤ k → acc < 18446744073709551616 →
    pleacherref03_Get.l0 (k + 3) s b acc i = some (match getL b (s.data.toList.drop i) acc with | none => (0, 30) | some x => if s.size = 0 then (0, 30) else ((x : Int), 0)) := by
  intro k
  induction k with
  | zero =>
    intro i n acc h1 h2 ha
    rw [pleacherref03_Get.l0, if_neg (by omega), List.drop_of_length_le (by rw [size_data]; omega)]
    exact get_end s acc
  | succ k ih =>
    intro i n acc h1 h2 ha
    by_cases hn : n = 0
    · subst hn
      rw [pleacherref03_Get.l0, if_neg (by omega), List.drop_of_length_le (by rw [size_data]; omega)]
      exact get_end s acc
    · have hi : i < s.size := by omega
      have hb1 := bt_range s (i : Int)
      rw [show k + 1 + 3 = (k + 3) + 1 from by omega, pleacherref03_Get.l0, if_pos (by omega), if_pos (by omega), ref03_digit _ hb1.1 hb1.2]
      have hd : s.data.toList.drop i = (s[i]'hi) :: s.data.toList.drop (i + 1) := by
        have : i < s.data.toList.length := by rw [size_data]; exact hi
        rw [List.drop_eq_getElem_cons this]; rfl
      have hbt : ((s[i]'hi).toNat : Int) = bt s (i : Int) := bt_at s (i : Int) (by simpa using hi)
      rw [hd, getL_cons b _ _ acc _ hbt, Option.bind_some]
      obtain ⟨c, hc⟩ : ∃ c, bt s (i : Int) = c := ⟨_, rfl⟩
      rw [hc]
      rcases dref_dg b hb c with ⟨g1, g2⟩ | ⟨g1, g2, g3⟩
      · rw [if_pos g2, step_none g1]
      · obtain ⟨d, hdd⟩ := Int.eq_ofNat_of_zero_le g2
        rw [hdd] at g1 g3
        obtain ⟨q, hq⟩ : ∃ q, (18446744073709551615 - d) / b = q := ⟨_, rfl⟩
        have hql : q ≤ 18446744073709551615 - d := by rw [← hq]; exact Nat.div_le_self _ _
        have hti : Int.tdiv (((18446744073709551615 - d : Nat) : Int)) (b : Int) = (q : Int) := by rw [← hq]; exact (Int.ofNat_tdiv _ b).symm
        rw [hdd, if_neg (by omega), if_neg (by omega), wrap_u64 (18446744073709551615 - (d : Int)) (by omega) (by omega), show (18446744073709551615 - (d : Int)) = ((18446744073709551615 - d : Nat) : Int) from by omega, hti, wrap_u64 (q : Int) (by omega) (by omega)]
        by_cases hlt : q < acc
        · rw [if_pos (by omega), step_over g1 (by rw [hq]; exact hlt)]
        · obtain ⟨m, m1, m2, m3, m4, m5⟩ := digit_in hq hlt (by omega)
          rw [if_neg (by omega), step_some g1 (by rw [hq]; exact hlt), m2, Int.mul_comm, m3, m4, m5, w64 (by omega) (by omega)]
          simp only []
          exact ih (i + 1) (n - 1) (m + d) (by omega) (by omega) m1
theorem ref03_get (b : Nat) (hb : b = 8 ∨ b = 10 ∨ b = 16) (s : ByteArray) (hs : s.size ≤ 1073741824) (k : Nat) (hk : s.size + 3 ≤ k) : pleacherref03_Get.f k b s = some (getC b s) := by
  obtain ⟨j, rfl⟩ : ∃ j, k = (s.size + j) + 3 := ⟨k - 3 - s.size, by omega⟩
  unfold pleacherref03_Get.f
  rw [ref03_is b hb]
  simp only [Option.bind_some, if_true]
  rw [wrap_u64 (b : Int) (by omega) (by omega)]
  have := ref03_get_l b hb s hs (s.size + j) 0 s.size 0 (by omega) (by omega) (by omega)
  rw [show ((0 : Nat) : Int) = 0 from rfl] at this
  rw [this, List.drop_zero]
  unfold getC getN
  by_cases h0 : s.size = 0
  · rw [if_pos h0]
    simp only [if_pos h0]
    cases getL b s.data.toList 0 <;> rfl
  · rw [if_neg h0]
    simp only [if_neg h0]
    cases getL b s.data.toList 0 <;> rfl
/-- What Own says. -/
def ownC (b : Nat) (s : ByteArray) : Int × Int := if (getC b s).2 = 0 ∧ putS b (getC b s).1.toNat ≠ s then (0, 30) else getC b s
theorem getL_lt (b : Nat) : ∀ (l : List UInt8) (acc n : Nat), acc < 18446744073709551616 → b ≤ 16 → getL b l acc = some n → n < 18446744073709551616
  | [], acc, n, h, _, e => by unfold getL at e; obtain rfl := Option.some.inj e; exact h
  | c :: t, acc, n, h, hb, e => by
    unfold getL at e
    cases hs : step b acc c.toNat with
    | none => rw [hs] at e; cases e
    | some a =>
      rw [hs] at e
      refine getL_lt b t a n ?_ hb e
      unfold step at hs
      split at hs
      · cases hs
      · split at hs
        · cases hs
        · obtain rfl := Option.some.inj hs
          rename_i h1 h2
          rcases dgV_bd b (c.toNat : Int) with h | ⟨d, hd, hdb⟩
          · omega
          · rw [hd] at h2 ⊢
            rw [Int.toNat_natCast] at h2 ⊢
            obtain ⟨m, m1, m2, _⟩ := digit_in rfl h2 (by omega)
            omega
theorem getC_bd (b : Nat) (hb : b = 8 ∨ b = 10 ∨ b = 16) (s : ByteArray) : 0 ≤ (getC b s).1 ∧ (getC b s).1 < 18446744073709551616 ∧ ((getC b s).2 = 0 ∨ getC b s = (0, 30)) := by
  unfold getC getN
  by_cases h0 : s.size = 0
  · rw [if_pos h0]; simp
  · rw [if_neg h0]
    cases h : getL b s.data.toList 0 with
    | none => simp
    | some n =>
      have := getL_lt b _ 0 n (by omega) (by omega) h
      simp; omega
theorem ref03_own (b : Nat) (hb : b = 8 ∨ b = 10 ∨ b = 16) (s : ByteArray) (hs : s.size ≤ 1073741824) (k : Nat) (hk : s.size + 65 ≤ k) : pleacherref03_Own.f k b s = some (ownC b s) := by
  unfold pleacherref03_Own.f
  rw [ref03_get b hb s hs k (by omega)]
  simp only [Option.bind_some]
  have hbd := getC_bd b hb s
  unfold ownC
  by_cases h : (getC b s).2 = 0
  · rw [if_pos h, ref03_putI b hb k (by omega) _ hbd.1 hbd.2.1]
    simp only [Option.bind_some]
    by_cases h2 : putS b (getC b s).1.toNat = s
    · rw [if_pos (toList_inj.2 h2), if_neg (fun e => e.2 h2), ← h]
    · rw [if_neg (fun e => h2 (toList_inj.1 e)), if_pos ⟨h, h2⟩]
  · rw [if_neg h, if_neg (fun e => h e.1)]
    rcases hbd.2.2 with e | e
    · exact absurd e h
    · rw [e]
end Go.Proofs.YtbcjhmeeonhmaaaDoor.H
end

/-
  DERIVED: THE SHELF's CONTRACTS AT THIS DUMP, IN PLAIN WORDS (tools/lay-plain.mjs out of 'TrydShelf.lean', which tools/lay-shelf.mjs wrote): THE SAME DECLARATIONS UNDER THE SAME NAMES: 'import', 'namespace', 'open', 'def', 'theorem' AND NOTHING ELSE: no command of the shelf's: FOR A HAND-IN. Each laying: the table of numbers ('.._ren') and one theorem, a field a fact of the dump's own or the kernel's comparison; each contract: ONE APPLICATION.
-/
section
namespace Go.Proofs
open Go.Shelf
def Tryd.lays219_ren : Go.Shelf.Ren := ⟨fun | 219 => 68 | 217 => 73 | 225 => 74 | 224 => 75 | 267 => 76 | 266 => 83 | 314 => 84 | n => n, fun | 9 => 9 | 3 => 3 | 4 => 4 | 5 => 5 | 46 => 153 | 146 => 162 | 51 => 161 | n => n, fun | 1 => 3 | n => n⟩
theorem Tryd.lays219 : Go.Proofs.Lays.n219 Tryd.prog Tryd.lays219_ren := {
  mixed := by kernel_rfl
  f217 := Tryd.func73.trans (congrArg some (by kernel_rfl))
  f219 := Tryd.func68.trans (congrArg some (by kernel_rfl))
  f224 := Tryd.func75.trans (congrArg some (by kernel_rfl))
  f225 := Tryd.func74.trans (congrArg some (by kernel_rfl))
  f266 := Tryd.func83.trans (congrArg some (by kernel_rfl))
  f267 := Tryd.func76.trans (congrArg some (by kernel_rfl))
  f314 := Tryd.func84.trans (congrArg some (by kernel_rfl))
  t3 := Tryd.underlying3
  a3 := Tryd.isAgg3
  z3 := Tryd.sizeOf3
  v3 := Tryd.zeroValue3
  t4 := Tryd.underlying4
  a4 := Tryd.isAgg4
  z4 := Tryd.sizeOf4
  v4 := Tryd.zeroValue4
  t5 := Tryd.underlying5
  a5 := Tryd.isAgg5
  z5 := Tryd.sizeOf5
  v5 := Tryd.zeroValue5
  t9 := Tryd.underlying9
  a9 := Tryd.isAgg9
  z9 := Tryd.sizeOf9
  v9 := Tryd.zeroValue9
  t46 := Tryd.underlying153
  a46 := Tryd.isAgg153
  z46 := Tryd.sizeOf153
  v46 := Tryd.zeroValue153
  t51 := Tryd.underlying161
  a51 := Tryd.isAgg161
  z51 := Tryd.sizeOf161
  v51 := Tryd.zeroValue161
  t146 := Tryd.underlying162
  a146 := Tryd.isAgg162
  z146 := Tryd.sizeOf162
  v146 := Tryd.zeroValue162
  g1 := by kernel_rfl }
open Go.RowKit Go.Lib in
/-- internal/stringslite.Index (what strings.Index calls) AT A substr OF ONE BYTE c: IT RETURNS 'Lib.indexByte s c'; the world is as it was. (LAID: no walk: one application.) -/
theorem Tryd.stringslite_Index_one (s : ByteArray) (c : UInt8) (w : World) :
    Calls Tryd.prog 68 #[.string s, .string ⟨#[c]⟩] w fun e w' => e = .returned (.int .i64 (Lib.indexByte s.data.toList c)) ∧ w' = w := Any.stringslite_Index_one Tryd.lays219 s c w
def Tryd.lays144_ren : Go.Shelf.Ren := ⟨fun | 144 => 38 | 143 => 55 | 219 => 68 | 217 => 73 | 225 => 74 | 224 => 75 | 267 => 76 | 266 => 83 | 314 => 84 | n => n, fun | 9 => 9 | 4 => 4 | 3 => 3 | 5 => 5 | 46 => 153 | 146 => 162 | 51 => 161 | n => n, fun | 1 => 3 | n => n⟩
theorem Tryd.lays144 : Go.Proofs.Lays.n144 Tryd.prog Tryd.lays144_ren := {
  mixed := by kernel_rfl
  f143 := Tryd.func55.trans (congrArg some (by kernel_rfl))
  f144 := Tryd.func38.trans (congrArg some (by kernel_rfl))
  f217 := Tryd.func73.trans (congrArg some (by kernel_rfl))
  f219 := Tryd.func68.trans (congrArg some (by kernel_rfl))
  f224 := Tryd.func75.trans (congrArg some (by kernel_rfl))
  f225 := Tryd.func74.trans (congrArg some (by kernel_rfl))
  f266 := Tryd.func83.trans (congrArg some (by kernel_rfl))
  f267 := Tryd.func76.trans (congrArg some (by kernel_rfl))
  f314 := Tryd.func84.trans (congrArg some (by kernel_rfl))
  t3 := Tryd.underlying3
  a3 := Tryd.isAgg3
  z3 := Tryd.sizeOf3
  v3 := Tryd.zeroValue3
  t4 := Tryd.underlying4
  a4 := Tryd.isAgg4
  z4 := Tryd.sizeOf4
  v4 := Tryd.zeroValue4
  t5 := Tryd.underlying5
  a5 := Tryd.isAgg5
  z5 := Tryd.sizeOf5
  v5 := Tryd.zeroValue5
  t9 := Tryd.underlying9
  a9 := Tryd.isAgg9
  z9 := Tryd.sizeOf9
  v9 := Tryd.zeroValue9
  t46 := Tryd.underlying153
  a46 := Tryd.isAgg153
  z46 := Tryd.sizeOf153
  v46 := Tryd.zeroValue153
  t51 := Tryd.underlying161
  a51 := Tryd.isAgg161
  z51 := Tryd.sizeOf161
  v51 := Tryd.zeroValue161
  t146 := Tryd.underlying162
  a146 := Tryd.isAgg162
  z146 := Tryd.sizeOf162
  v146 := Tryd.zeroValue162
  g1 := by kernel_rfl }
open Go.RowKit Go.Lib in
/-- strings.Contains: "Contains reports whether substr is within s.": AT A substr OF ONE BYTE c: IT RETURNS 'decide (0 ≤ Lib.indexByte s c)'; the world is as it was. (LAID: no walk: one application.) -/
theorem Tryd.strings_Contains_one (s : ByteArray) (c : UInt8) (w : World) :
    Calls Tryd.prog 38 #[.string s, .string ⟨#[c]⟩] w fun e w' => e = .returned (.bool (decide (0 ≤ Lib.indexByte s.data.toList c))) ∧ w' = w := Any.strings_Contains_one Tryd.lays144 s c w
end Go.Proofs
end

-- Laid by a program of this session for this claim.
section
namespace Go.Proofs.YtbcjhmeeonhmaaaDoor.M
open Go.RowKit Go.Proofs.YtbcjhmeeonhmaaaDoorW.PrintWords Go.Proofs.YtbcjhmeeonhmaaaDoorW.PrintLast Go.Proofs.YtbcjhmeeonhmaaaDoorW.PrintMore
attribute [local go_sem] max2_int min2_int max_two min_two max_three min_three max_four min_four   -- for this text's walks alone
set_option linter.unusedVariables false
set_option linter.unusedSimpArgs false

/-! ### strings_Contains: function 38 -/
-- IMPORT Derived.Test.YtbcjhmeeonhmaaaDoorShelf
def strings_Contains.f (a0 : ByteArray) (a1 : ByteArray) : Option Bool := if a1.size = 1 then some (decide (0 ≤ Lib.indexByte a0.data.toList (a1.data.getD 0 0))) else none
theorem strings_Contains.calls (a0 : ByteArray) (a1 : ByteArray) (r : Bool) (w : World) (h : strings_Contains.f a0 a1 = some r) :
    Calls Tryd.prog 38 #[.string a0, .string a1] w fun e w' => e = .returned (.bool r) ∧ Below w.heap.size w w' := by
  unfold strings_Contains.f at h
  by_cases hh : a1.size = 1
  · rw [if_pos hh] at h
    obtain rfl := Option.some.inj h
    obtain ⟨⟨l⟩⟩ := a1
    obtain ⟨c, rfl⟩ := List.length_eq_one_iff.1 hh
    exact (Go.Proofs.Tryd.strings_Contains_one a0 c w).mono fun e w' h => ⟨h.1, h.2 ▸ Below.refl _ _⟩
  · rw [if_neg hh] at h; cases h

end Go.Proofs.YtbcjhmeeonhmaaaDoor.M
end

-- Laid by a program of this session for this claim.
section
namespace Go.Proofs.YtbcjhmeeonhmaaaDoor.M
open Go.RowKit Go.Proofs.YtbcjhmeeonhmaaaDoorW.PrintWords Go.Proofs.YtbcjhmeeonhmaaaDoorW.PrintLast Go.Proofs.YtbcjhmeeonhmaaaDoorW.PrintMore
attribute [local go_sem] max2_int min2_int max_two min_two max_three min_three max_four min_four   -- for this text's walks alone
set_option linter.unusedVariables false
set_option linter.unusedSimpArgs false

/-! ### utf_Valid: function 54 -/
-- IMPORT Derived.Test.YtbcjhmeeonhmaaaDoorHValid
def utf_Valid.f (a0 : ByteArray) : Option (Int × Bool) := if a0.size ≤ 1073741824 then some (H.vld a0) else none
theorem utf_Valid.calls (a0 : ByteArray) (r1 : Int) (r2 : Bool) (w : World) (h : utf_Valid.f a0 = some (r1, r2)) :
    Calls Tryd.prog 54 #[.string a0] w fun e w' => e = .returned (.tuple #[.int .i64 r1, .bool r2]) ∧ Below w.heap.size w w' := by
  unfold utf_Valid.f at h
  by_cases hh : a0.size ≤ 1073741824
  · rw [if_pos hh] at h
    have := H.valid a0 w hh
    rw [Option.some.inj h] at this
    exact this
  · rw [if_neg hh] at h; cases h

end Go.Proofs.YtbcjhmeeonhmaaaDoor.M
end

-- Laid by a program of this session for this claim.
section
namespace Go.Proofs.YtbcjhmeeonhmaaaDoor.M
open Go.RowKit Go.Proofs.YtbcjhmeeonhmaaaDoorW.PrintWords Go.Proofs.YtbcjhmeeonhmaaaDoorW.PrintLast Go.Proofs.YtbcjhmeeonhmaaaDoorW.PrintMore
attribute [local go_sem] max2_int min2_int max_two min_two max_three min_three max_four min_four   -- for this text's walks alone
set_option linter.unusedVariables false
set_option linter.unusedSimpArgs false

/-! ### pax_areRunes: function 37 -/
def pax_areRunes.l0 : Nat → List ByteArray → Int → Int → Option (Bool)
  | 0, _, _, _ => none
  | k + 1, x7, x8, x9 => if x9 < x8 then (if 0 ≤ x9 then (if x9 < (x7.length : Int) then ((utf_Valid.f (rdOf ByteArray.empty x7 x9)).bind fun bt117 => (if bt117.2 = true then ((strings_Contains.f (rdOf ByteArray.empty x7 x9) (⟨#[0]⟩ : ByteArray)).bind fun t119 => (if t119 = true then (some false) else (pax_areRunes.l0 k x7 x8 (wrap64 (x9 + 1))))) else (some false))) else (none)) else (none)) else (some true)
def pax_areRunes.f (k : Nat) (l0 : List ByteArray) : Option (Bool) := pax_areRunes.l0 k l0 (l0.length : Int) 0
set_option maxHeartbeats 8000000 in
set_option maxRecDepth 100000 in
theorem pax_areRunes.calls (k : Nat) (A0 : Option Addr) (c0 : Nat) (l0 : List ByteArray) (r : Bool) (w : World) (hr0 : Kd.C Kd.string w A0 l0.length l0) (hc0 : l0.length ≤ c0) (h : pax_areRunes.f k l0 = some r) :
    Calls Tryd.prog 37 #[.slice A0 l0.length c0] w fun e w' => e = .returned (.bool r) ∧ Below w.heap.size w w' := by
  have HR0 := Aside0.mk hr0
  have HC0 := Aside0.mk hc0
  clear hr0 hc0
  have HB := Aside0.mk (Below.refl w.heap.size w)
  have H : (pax_areRunes.l0 k l0 (l0.length : Int) 0) = some r := h
  clear h
  have H' := Aside0.mk H
  clear H
  go_enter Tryd.func37, Tryd.ntmps37
  go_wp2
  go_loopg [9] k (fun kq v9 w' => ∃ (x9_1 : Int), v9 = .int .i64 x9_1 ∧ Aside0 (pax_areRunes.l0 kq l0 (l0.length : Int) x9_1 = some r) ∧ Aside0 (kq ≤ k) ∧ Aside0 (Below w.heap.size w w'))
  case atStart => exact ⟨(0), (by first | rfl | (simp; done) | (simp [*]; done)), H', ⟨Nat.le_refl _⟩, ⟨by repeat (first | (with_reducible first | exact HB.out | apply below_alloc | apply pw_below_drewN | apply below_drew1) | exact HB.out)⟩⟩
  case round =>
    clear H'
    obtain ⟨x9_1, rfl, HA, HK1, HB⟩ := hrel
    cases gk with
    | zero => exact absurd HA.out (by simp [pax_areRunes.l0])
    | succ k1 =>
      have H := HA.out
      clear HA
      simp only [pax_areRunes.l0] at H
      by_cases c2 : x9_1 < (l0.length : Int)
      · rw [if_pos c2] at H
        have c2b0 : decide (x9_1 < (l0.length : Int)) = true := decide_eq_true c2
        clear c2
        by_cases c3 : 0 ≤ x9_1
        · rw [if_pos c3] at H
          have c3b0 : decide (0 ≤ x9_1) = true := decide_eq_true c3
          clear c3
          by_cases c4 : x9_1 < (l0.length : Int)
          · rw [if_pos c4] at H
            have c4b0 : decide (x9_1 < (l0.length : Int)) = true := decide_eq_true c4
            clear c4
            replace H := Option.bind_eq_some_iff.mp H
            obtain ⟨⟨t117, t118⟩, A50, H⟩ := H
            replace H : (if t118 = true then ((strings_Contains.f (rdOf ByteArray.empty l0 x9_1) (⟨#[0]⟩ : ByteArray)).bind fun t119 => (if t119 = true then (some false) else (pax_areRunes.l0 k1 l0 (l0.length : Int) (wrap64 (x9_1 + 1))))) else (some false)) = some r := H
            have A5 := Aside0.mk A50
            clear A50
            by_cases c6 : t118 = true
            · subst c6
              have H1 : ((strings_Contains.f (rdOf ByteArray.empty l0 x9_1) (⟨#[0]⟩ : ByteArray)).bind fun t119 => (if t119 = true then (some false) else (pax_areRunes.l0 k1 l0 (l0.length : Int) (wrap64 (x9_1 + 1))))) = some r := by rw [if_pos rfl] at H; exact H
              clear H
              have H := H1
              clear H1
              replace H := Option.bind_eq_some_iff.mp H
              obtain ⟨t119, A70, H⟩ := H
              replace H : (if t119 = true then (some false) else (pax_areRunes.l0 k1 l0 (l0.length : Int) (wrap64 (x9_1 + 1)))) = some r := H
              have A7 := Aside0.mk A70
              clear A70
              by_cases c8 : t119 = true
              · subst c8
                have H1 : (some false) = some r := by rw [if_pos rfl] at H; exact H
                clear H
                have H := H1
                clear H1
                obtain rfl := Option.some.inj H
                have p116 : 0 ≤ (x9_1 : Int) := of_decide_eq_true (by first | (with_reducible assumption) | assumption)
                have q116 : x9_1 < (l0.length : Int) := of_decide_eq_true (by first | (with_reducible assumption) | assumption)
                obtain ⟨ad116, e116, hx116_0⟩ := Kd.at_string HR0.out x9_1 p116 q116
                cases e116
                replace hx116_0 := (HB.out.cell (World.block_lt_of_cell? w _ hx116_0)).trans hx116_0
                replace p116 := eq_true p116
                replace q116 := eq_true q116
                go_wp2_with (first | ((with_reducible refine gate_callee (f := 54) rfl ?_); refine goesL_ (some 15) rfl rfl Tryd.func54 (by kernel_rfl) rfl #[.string (rdOf ByteArray.empty l0 x9_1)] rfl (by (try simp only [List.map_toArray, List.map_cons, List.map_nil]); first | done | rfl | (simp only [List.length_drop, List.length_take]; rfl)) ?_; (with_reducible refine (utf_Valid.calls (rdOf ByteArray.empty l0 x9_1) t117 true _ A5.out).mono ?_); rintro e w9 ⟨rfl, hb⟩; refine ⟨_, rfl, ?_⟩; have n0_ := Aside0.mk (below_step (by repeat (first | (with_reducible first | exact HB.out | apply below_alloc | apply pw_below_drewN | apply below_drew1) | exact HB.out)) hb); clear HB; have HB := n0_; clear n0_; (try clear hb); (try clear hb2); (try clear hk); (try clear hi)) | (go_at_call 38; (with_reducible refine (strings_Contains.calls (rdOf ByteArray.empty l0 x9_1) (⟨#[0]⟩ : ByteArray) true _ A7.out).mono ?_); rintro e w10 ⟨rfl, hb⟩; have n0_ := Aside0.mk (below_step (by repeat (first | (with_reducible first | exact HB.out | apply below_alloc | apply pw_below_drewN | apply below_drew1) | exact HB.out)) hb); clear HB; have HB := n0_; clear n0_; (try clear hb); (try clear hb2); (try clear hk); (try clear hi)))
                go_ret
                exact ⟨by first | rfl | (simp [errW_none, errW_some] <;> rfl) | (simp [*, errW_none, errW_some] <;> rfl), by repeat (first | (with_reducible first | exact HB.out | apply below_alloc | apply pw_below_drewN | apply below_drew1) | exact HB.out)⟩
              · replace c8 := Bool.eq_false_iff.mpr c8
                subst c8
                have H1 : (pax_areRunes.l0 k1 l0 (l0.length : Int) (wrap64 (x9_1 + 1))) = some r := by rw [if_neg (show ¬ (false = true) by decide)] at H; exact H
                clear H
                have H := H1
                clear H1
                have H' := Aside0.mk H
                clear H
                have p116 : 0 ≤ (x9_1 : Int) := of_decide_eq_true (by first | (with_reducible assumption) | assumption)
                have q116 : x9_1 < (l0.length : Int) := of_decide_eq_true (by first | (with_reducible assumption) | assumption)
                obtain ⟨ad116, e116, hx116_0⟩ := Kd.at_string HR0.out x9_1 p116 q116
                cases e116
                replace hx116_0 := (HB.out.cell (World.block_lt_of_cell? w _ hx116_0)).trans hx116_0
                replace p116 := eq_true p116
                replace q116 := eq_true q116
                go_wp2_with (first | ((with_reducible refine gate_callee (f := 54) rfl ?_); refine goesL_ (some 15) rfl rfl Tryd.func54 (by kernel_rfl) rfl #[.string (rdOf ByteArray.empty l0 x9_1)] rfl (by (try simp only [List.map_toArray, List.map_cons, List.map_nil]); first | done | rfl | (simp only [List.length_drop, List.length_take]; rfl)) ?_; (with_reducible refine (utf_Valid.calls (rdOf ByteArray.empty l0 x9_1) t117 true _ A5.out).mono ?_); rintro e w11 ⟨rfl, hb⟩; refine ⟨_, rfl, ?_⟩; have n0_ := Aside0.mk (below_step (by repeat (first | (with_reducible first | exact HB.out | apply below_alloc | apply pw_below_drewN | apply below_drew1) | exact HB.out)) hb); clear HB; have HB := n0_; clear n0_; (try clear hb); (try clear hb2); (try clear hk); (try clear hi)) | (go_at_call 38; (with_reducible refine (strings_Contains.calls (rdOf ByteArray.empty l0 x9_1) (⟨#[0]⟩ : ByteArray) false _ A7.out).mono ?_); rintro e w12 ⟨rfl, hb⟩; have n0_ := Aside0.mk (below_step (by repeat (first | (with_reducible first | exact HB.out | apply below_alloc | apply pw_below_drewN | apply below_drew1) | exact HB.out)) hb); clear HB; have HB := n0_; clear n0_; (try clear hb); (try clear hb2); (try clear hk); (try clear hi)))
                go_roundg k1
                case measure => have := HK1.out; omega
                case rel => exact ⟨(wrap64 (x9_1 + 1)), (by first | rfl | (simp; done) | (simp [*]; done)), H', ⟨by have := HK1.out; omega⟩, ⟨by repeat (first | (with_reducible first | exact HB.out | apply below_alloc | apply pw_below_drewN | apply below_drew1) | exact HB.out)⟩⟩
            · replace c6 := Bool.eq_false_iff.mpr c6
              subst c6
              have H1 : (some false) = some r := by rw [if_neg (show ¬ (false = true) by decide)] at H; exact H
              clear H
              have H := H1
              clear H1
              obtain rfl := Option.some.inj H
              have p116 : 0 ≤ (x9_1 : Int) := of_decide_eq_true (by first | (with_reducible assumption) | assumption)
              have q116 : x9_1 < (l0.length : Int) := of_decide_eq_true (by first | (with_reducible assumption) | assumption)
              obtain ⟨ad116, e116, hx116_0⟩ := Kd.at_string HR0.out x9_1 p116 q116
              cases e116
              replace hx116_0 := (HB.out.cell (World.block_lt_of_cell? w _ hx116_0)).trans hx116_0
              replace p116 := eq_true p116
              replace q116 := eq_true q116
              go_wp2_with (first | ((with_reducible refine gate_callee (f := 54) rfl ?_); refine goesL_ (some 15) rfl rfl Tryd.func54 (by kernel_rfl) rfl #[.string (rdOf ByteArray.empty l0 x9_1)] rfl (by (try simp only [List.map_toArray, List.map_cons, List.map_nil]); first | done | rfl | (simp only [List.length_drop, List.length_take]; rfl)) ?_; (with_reducible refine (utf_Valid.calls (rdOf ByteArray.empty l0 x9_1) t117 false _ A5.out).mono ?_); rintro e w13 ⟨rfl, hb⟩; refine ⟨_, rfl, ?_⟩; have n0_ := Aside0.mk (below_step (by repeat (first | (with_reducible first | exact HB.out | apply below_alloc | apply pw_below_drewN | apply below_drew1) | exact HB.out)) hb); clear HB; have HB := n0_; clear n0_; (try clear hb); (try clear hb2); (try clear hk); (try clear hi)))
              go_ret
              exact ⟨by first | rfl | (simp [errW_none, errW_some] <;> rfl) | (simp [*, errW_none, errW_some] <;> rfl), by repeat (first | (with_reducible first | exact HB.out | apply below_alloc | apply pw_below_drewN | apply below_drew1) | exact HB.out)⟩
          · rw [if_neg c4] at H
            exact absurd H (by simp)
        · rw [if_neg c3] at H
          exact absurd H (by simp)
      · rw [if_neg c2] at H
        have c2b0 : decide (x9_1 < (l0.length : Int)) = false := decide_eq_false c2
        clear c2
        obtain rfl := Option.some.inj H
        go_wp2
        go_ret
        exact ⟨by first | rfl | (simp [errW_none, errW_some] <;> rfl) | (simp [*, errW_none, errW_some] <;> rfl), by repeat (first | (with_reducible first | exact HB.out | apply below_alloc | apply pw_below_drewN | apply below_drew1) | exact HB.out)⟩

end Go.Proofs.YtbcjhmeeonhmaaaDoor.M
end

/-
The premise on package-level variables, under the name that the printed texts use.
-/
section
namespace Go.Proofs.YtbcjhmeeonhmaaaDoor.M
open Go Go.RowKit
abbrev GW (w : World) : Prop := H.GW w
theorem GW.below {w w1 : World} (g : GW w) (h : Below w.heap.size w w1) : GW w1 := H.GW.below g h
end Go.Proofs.YtbcjhmeeonhmaaaDoor.M
end

-- Laid by a program of this session for this claim.
section
namespace Go.Proofs.YtbcjhmeeonhmaaaDoor.M
open Go.RowKit Go.Proofs.YtbcjhmeeonhmaaaDoorW.PrintWords Go.Proofs.YtbcjhmeeonhmaaaDoorW.PrintLast Go.Proofs.YtbcjhmeeonhmaaaDoorW.PrintMore
attribute [local go_sem] max2_int min2_int max_two min_two max_three min_three max_four min_four   -- for this text's walks alone
set_option linter.unusedVariables false
set_option linter.unusedSimpArgs false

/-! ### pax_isOne: function 25 -/
def pax_isOne.f (k : Nat) (a0_0 : ByteArray) (a0_1 : ByteArray) : Option (Bool) := if a0_0.toList = ([] : List UInt8) then (some false) else (if (a0_0.size : Int) ≤ 400 then (if (a0_1.size : Int) ≤ 400 then ((pax_areRunes.f k (([a0_0, a0_1] : List ByteArray))).bind fun t124 => (if t124 = true then ((strings_Contains.f a0_0 (⟨#[61]⟩ : ByteArray)).bind fun t125 => (some (!t125))) else (some false))) else (some false)) else (some false))
set_option maxHeartbeats 8000000 in
set_option maxRecDepth 100000 in
theorem pax_isOne.calls (k : Nat) (a0_0 : ByteArray) (a0_1 : ByteArray) (r : Bool) (w : World) (h : pax_isOne.f k a0_0 a0_1 = some r) :
    Calls Tryd.prog 25 #[.agg #[.string a0_0, .string a0_1]] w fun e w' => e = .returned (.bool r) ∧ Below w.heap.size w w' := by
  have hu31 := Tryd.underlying31
  have HB := Aside0.mk (Below.refl w.heap.size w)
  have H : (if a0_0.toList = ([] : List UInt8) then (some false) else (if (a0_0.size : Int) ≤ 400 then (if (a0_1.size : Int) ≤ 400 then ((pax_areRunes.f k (([a0_0, a0_1] : List ByteArray))).bind fun t124 => (if t124 = true then ((strings_Contains.f a0_0 (⟨#[61]⟩ : ByteArray)).bind fun t125 => (some (!t125))) else (some false))) else (some false)) else (some false))) = some r := h
  clear h
  by_cases c2 : a0_0.toList = ([] : List UInt8)
  · rw [if_pos c2] at H
    have c2b0 : (a0_0.toList == ([] : List UInt8)) = true := beq_iff_eq.mpr c2
    have c2b1 : (a0_0.toList != ([] : List UInt8)) = false := bne_eq_false_iff_eq.mpr c2
    clear c2
    obtain rfl := Option.some.inj H
    go_enter Tryd.func25, Tryd.ntmps25
    go_wp2_with (first | ((with_reducible refine gate_dst (N := 1) rfl ?_); (try (refine gate_guard (by rfl) ?_; dsimp only)); refine box_event ?hg (N := 1) ?hd (cs := #[.string a0_0, .string a0_1]) (t := 31) ?hr ?_; (case hd => rfl); (case hg => rfl); (case hr => first | (go_simp; done) | (go_simp; rfl)); intro gb120 hg w3 hbox hb; have n0_ := Aside0.mk (below_step (by repeat (first | (with_reducible first | exact HB.out | apply below_alloc | apply pw_below_drewN | apply below_drew1) | exact HB.out)) hb); have n1_ := Aside0.mk (hbox); have n2_ := Aside0.mk ((by rw [hg]; exact (below_size (by repeat (first | (with_reducible first | exact HB.out | apply below_alloc | apply pw_below_drewN | apply below_drew1) | exact HB.out))) : w.heap.size ≤ gb120)); have n3_ := Aside0.mk ((by rw [hg]; exact (below_size (by repeat (first | (with_reducible first | exact HB.out | apply below_alloc | apply pw_below_drewN | apply below_drew1) | exact HB.out))) : w.heap.size ≤ gb120)); clear HB; have HB := n0_; have BK120 := n1_; have GW120 := n2_; have GE120 := n3_; clear n0_ n1_ n2_ n3_; clear hb hbox hg; have hcz4_0 : w3.cell? ⟨gb120, 0, none⟩ = some (.string a0_0) := (blk_cell BK120.out 0).trans rfl; have hcz4_1 : w3.cell? ⟨gb120, 1, none⟩ = some (.string a0_1) := (blk_cell BK120.out 1).trans rfl; have hfz4_0 := blk_frozen BK120.out 0; have hfz4_1 := blk_frozen BK120.out 1))
    go_ret
    exact ⟨by first | rfl | (simp [errW_none, errW_some] <;> rfl) | (simp [*, errW_none, errW_some] <;> rfl), by repeat (first | (with_reducible first | exact HB.out | apply below_alloc | apply pw_below_drewN | apply below_drew1 | refine below_set ?_ GE120.out) | exact HB.out)⟩
  · rw [if_neg c2] at H
    have c2b0 : (a0_0.toList == ([] : List UInt8)) = false := beq_eq_false_iff_ne.mpr c2
    have c2b1 : (a0_0.toList != ([] : List UInt8)) = true := bne_iff_ne.mpr c2
    by_cases c5 : (a0_0.size : Int) ≤ 400
    · rw [if_pos c5] at H
      have c5b0 : decide ((a0_0.size : Int) ≤ 400) = true := decide_eq_true c5
      have c5b1 : decide (a0_0.size ≤ 400) = true := decide_eq_true (by omega)
      clear c5
      by_cases c6 : (a0_1.size : Int) ≤ 400
      · rw [if_pos c6] at H
        have c6b0 : decide ((a0_1.size : Int) ≤ 400) = true := decide_eq_true c6
        have c6b1 : decide (a0_1.size ≤ 400) = true := decide_eq_true (by omega)
        clear c6
        obtain ⟨y121, hy121⟩ : ∃ y_ : List ByteArray, y_ = (([a0_0, a0_1] : List ByteArray)) := ⟨_, rfl⟩
        replace H : ((pax_areRunes.f k y121).bind fun t124 => (if t124 = true then ((strings_Contains.f a0_0 (⟨#[61]⟩ : ByteArray)).bind fun t125 => (some (!t125))) else (some false))) = some r := by first | (rw [hy121]; with_reducible exact H) | (have H2_ := (Option.bind_some _ _).symm.trans H; rw [hy121]; with_reducible exact H2_) | (have H2_ := (Option.bind_some _ _).symm.trans H; with_reducible exact H2_) | with_reducible exact H | (rw [hy121]; exact H) | exact H
        have Ny121 := Aside0.mk hy121
        clear hy121
        replace H := Option.bind_eq_some_iff.mp H
        obtain ⟨t124, A70, H⟩ := H
        replace H : (if t124 = true then ((strings_Contains.f a0_0 (⟨#[61]⟩ : ByteArray)).bind fun t125 => (some (!t125))) else (some false)) = some r := H
        have A7 := Aside0.mk A70
        clear A70
        by_cases c8 : t124 = true
        · subst c8
          have H1 : ((strings_Contains.f a0_0 (⟨#[61]⟩ : ByteArray)).bind fun t125 => (some (!t125))) = some r := by rw [if_pos rfl] at H; exact H
          clear H
          have H := H1
          clear H1
          replace H := Option.bind_eq_some_iff.mp H
          obtain ⟨t125, A90, H⟩ := H
          replace H : (some (!t125)) = some r := H
          have A9 := Aside0.mk A90
          clear A90
          obtain rfl := Option.some.inj H
          go_enter Tryd.func25, Tryd.ntmps25
          go_wp2_with (first | ((with_reducible refine gate_dst (N := 1) rfl ?_); (try (refine gate_guard (by rfl) ?_; dsimp only)); refine box_event ?hg (N := 1) ?hd (cs := #[.string a0_0, .string a0_1]) (t := 31) ?hr ?_; (case hd => rfl); (case hg => rfl); (case hr => first | (go_simp; done) | (go_simp; rfl)); intro gb120 hg w10 hbox hb; have n0_ := Aside0.mk (below_step (by repeat (first | (with_reducible first | exact HB.out | apply below_alloc | apply pw_below_drewN | apply below_drew1) | exact HB.out)) hb); have n1_ := Aside0.mk (hbox); have n2_ := Aside0.mk ((by rw [hg]; exact (below_size (by repeat (first | (with_reducible first | exact HB.out | apply below_alloc | apply pw_below_drewN | apply below_drew1) | exact HB.out))) : w.heap.size ≤ gb120)); have n3_ := Aside0.mk ((by rw [hg]; exact (below_size (by repeat (first | (with_reducible first | exact HB.out | apply below_alloc | apply pw_below_drewN | apply below_drew1) | exact HB.out))) : w.heap.size ≤ gb120)); clear HB; have HB := n0_; have BK120 := n1_; have GW120 := n2_; have GE120 := n3_; clear n0_ n1_ n2_ n3_; clear hb hbox hg; have hcz11_0 : w10.cell? ⟨gb120, 0, none⟩ = some (.string a0_0) := (blk_cell BK120.out 0).trans rfl; have hcz11_1 : w10.cell? ⟨gb120, 1, none⟩ = some (.string a0_1) := (blk_cell BK120.out 1).trans rfl; have hfz11_0 := blk_frozen BK120.out 0; have hfz11_1 := blk_frozen BK120.out 1) | ((with_reducible refine gate_dst (N := 23) rfl ?_); (try (refine gate_guard (by rfl) ?_; dsimp only)); refine Kd.R_lit Kd.string _ 9 ?hg (N := 23) ?hd (xs := ([a0_0, a0_1] : List ByteArray)) (inner := [.string a0_0, .string a0_1]) (ok := fun _ => True) (okp := fun _ => True) ?hr ?hp (fun _ hk => hk) trivial (Below.refl _ _) (Nat.le_refl _) (by simp) ?_; (case hd => rfl); (case hg => rfl); (case hr => first | (go_simp; done) | (go_simp; rfl)); (case hp => exact (Reps.one (show Kd.M Kd.string _ _ _ a0_0 [.string a0_0] from rfl) (Reps.one (show Kd.M Kd.string _ _ _ a0_1 [.string a0_1] from rfl) (Reps.none _ _)))); intro v122 w12 ho13 hb hg_ hnew_; clear hg_ hnew_; (first | rw [← Ny121.out] at ho13 | (simp only [Int.reduceToNat] at ho13; rw [← Ny121.out] at ho13)); have n0_ := Aside0.mk (Kd.R_lower ho13 (below_size (by repeat (first | (with_reducible first | exact HB.out | apply below_alloc | apply pw_below_drewN | apply below_drew1 | refine below_set ?_ GE120.out) | exact HB.out)))); have n1_ := Aside0.mk (blk_below (g := gb120) (o := .cells #[.string a0_0, .string a0_1] 31 (0, 0)) (by (with_reducible repeat (first | refine blk_drewN ?_ _ | refine blk_drew ?_ | refine blk_alloc ?_ _)); exact BK120.out) hb); have n2_ := Aside0.mk (below_step (by repeat (first | (with_reducible first | exact HB.out | apply below_alloc | apply pw_below_drewN | apply below_drew1 | refine below_set ?_ GE120.out) | exact HB.out)) hb); clear BK120; clear HB; have HO123 := n0_; have BK120 := n1_; have HB := n2_; clear n0_ n1_ n2_; clear hb ho13; obtain ⟨Ao14, co14, eo14⟩ := Kd.R_slice HO123.out; subst eo14) | (go_at_call 37; (with_reducible refine (pax_areRunes.calls k _ _ y121 true _ ?side1 ?side2 A7.out).mono ?_); (case side1 => repeat (first | exact (Kd.R_reads' HO123.out).2.2 | (with_reducible refine Kd.C_alloc ?_ _) | (with_reducible refine Kd.C_drewN ?_ _) | (with_reducible refine Kd.C_drew ?_))); (case side2 => exact (Kd.R_reads' HO123.out).2.1); rintro e w15 ⟨rfl, hb⟩; have n0_ := Aside0.mk (Kd.R_below (by (with_reducible repeat (first | apply Kd.R_alloc | apply Kd.R_drewN | apply Kd.R_drew)); exact HO123.out) hb); have n1_ := Aside0.mk (blk_below (g := gb120) (o := .cells #[.string a0_0, .string a0_1] 31 (0, 0)) (by (with_reducible repeat (first | refine blk_drewN ?_ _ | refine blk_drew ?_ | refine blk_alloc ?_ _)); exact BK120.out) hb); have n2_ := Aside0.mk (below_step (by repeat (first | (with_reducible first | exact HB.out | apply below_alloc | apply pw_below_drewN | apply below_drew1 | refine below_set ?_ GE120.out) | exact HB.out)) hb); clear HO123; clear BK120; clear HB; have HO123 := n0_; have BK120 := n1_; have HB := n2_; clear n0_ n1_ n2_; (try clear hb); (try clear hb2); (try clear hk); (try clear hi); have hcz16_0 : w15.cell? ⟨gb120, 0, none⟩ = some (.string a0_0) := (blk_cell BK120.out 0).trans rfl; have hcz16_1 : w15.cell? ⟨gb120, 1, none⟩ = some (.string a0_1) := (blk_cell BK120.out 1).trans rfl; have hfz16_0 := blk_frozen BK120.out 0; have hfz16_1 := blk_frozen BK120.out 1) | (go_at_call 38; (with_reducible refine (strings_Contains.calls a0_0 (⟨#[61]⟩ : ByteArray) t125 _ A9.out).mono ?_); rintro e w17 ⟨rfl, hb⟩; have n0_ := Aside0.mk (Kd.R_below (by (with_reducible repeat (first | apply Kd.R_alloc | apply Kd.R_drewN | apply Kd.R_drew)); exact HO123.out) hb); have n1_ := Aside0.mk (blk_below (g := gb120) (o := .cells #[.string a0_0, .string a0_1] 31 (0, 0)) (by (with_reducible repeat (first | refine blk_drewN ?_ _ | refine blk_drew ?_ | refine blk_alloc ?_ _)); exact BK120.out) hb); have n2_ := Aside0.mk (below_step (by repeat (first | (with_reducible first | exact HB.out | apply below_alloc | apply pw_below_drewN | apply below_drew1 | refine below_set ?_ GE120.out) | exact HB.out)) hb); clear HO123; clear BK120; clear HB; have HO123 := n0_; have BK120 := n1_; have HB := n2_; clear n0_ n1_ n2_; (try clear hb); (try clear hb2); (try clear hk); (try clear hi)))
          go_ret
          exact ⟨by first | rfl | (simp [errW_none, errW_some] <;> rfl) | (simp [*, errW_none, errW_some] <;> rfl), by repeat (first | (with_reducible first | exact HB.out | apply below_alloc | apply pw_below_drewN | apply below_drew1 | refine below_set ?_ GE120.out) | exact HB.out)⟩
        · replace c8 := Bool.eq_false_iff.mpr c8
          subst c8
          have H1 : (some false) = some r := by rw [if_neg (show ¬ (false = true) by decide)] at H; exact H
          clear H
          have H := H1
          clear H1
          obtain rfl := Option.some.inj H
          go_enter Tryd.func25, Tryd.ntmps25
          go_wp2_with (first | ((with_reducible refine gate_dst (N := 1) rfl ?_); (try (refine gate_guard (by rfl) ?_; dsimp only)); refine box_event ?hg (N := 1) ?hd (cs := #[.string a0_0, .string a0_1]) (t := 31) ?hr ?_; (case hd => rfl); (case hg => rfl); (case hr => first | (go_simp; done) | (go_simp; rfl)); intro gb120 hg w18 hbox hb; have n0_ := Aside0.mk (below_step (by repeat (first | (with_reducible first | exact HB.out | apply below_alloc | apply pw_below_drewN | apply below_drew1) | exact HB.out)) hb); have n1_ := Aside0.mk (hbox); have n2_ := Aside0.mk ((by rw [hg]; exact (below_size (by repeat (first | (with_reducible first | exact HB.out | apply below_alloc | apply pw_below_drewN | apply below_drew1) | exact HB.out))) : w.heap.size ≤ gb120)); have n3_ := Aside0.mk ((by rw [hg]; exact (below_size (by repeat (first | (with_reducible first | exact HB.out | apply below_alloc | apply pw_below_drewN | apply below_drew1) | exact HB.out))) : w.heap.size ≤ gb120)); clear HB; have HB := n0_; have BK120 := n1_; have GW120 := n2_; have GE120 := n3_; clear n0_ n1_ n2_ n3_; clear hb hbox hg; have hcz19_0 : w18.cell? ⟨gb120, 0, none⟩ = some (.string a0_0) := (blk_cell BK120.out 0).trans rfl; have hcz19_1 : w18.cell? ⟨gb120, 1, none⟩ = some (.string a0_1) := (blk_cell BK120.out 1).trans rfl; have hfz19_0 := blk_frozen BK120.out 0; have hfz19_1 := blk_frozen BK120.out 1) | ((with_reducible refine gate_dst (N := 23) rfl ?_); (try (refine gate_guard (by rfl) ?_; dsimp only)); refine Kd.R_lit Kd.string _ 9 ?hg (N := 23) ?hd (xs := ([a0_0, a0_1] : List ByteArray)) (inner := [.string a0_0, .string a0_1]) (ok := fun _ => True) (okp := fun _ => True) ?hr ?hp (fun _ hk => hk) trivial (Below.refl _ _) (Nat.le_refl _) (by simp) ?_; (case hd => rfl); (case hg => rfl); (case hr => first | (go_simp; done) | (go_simp; rfl)); (case hp => exact (Reps.one (show Kd.M Kd.string _ _ _ a0_0 [.string a0_0] from rfl) (Reps.one (show Kd.M Kd.string _ _ _ a0_1 [.string a0_1] from rfl) (Reps.none _ _)))); intro v122 w20 ho21 hb hg_ hnew_; clear hg_ hnew_; (first | rw [← Ny121.out] at ho21 | (simp only [Int.reduceToNat] at ho21; rw [← Ny121.out] at ho21)); have n0_ := Aside0.mk (Kd.R_lower ho21 (below_size (by repeat (first | (with_reducible first | exact HB.out | apply below_alloc | apply pw_below_drewN | apply below_drew1 | refine below_set ?_ GE120.out) | exact HB.out)))); have n1_ := Aside0.mk (blk_below (g := gb120) (o := .cells #[.string a0_0, .string a0_1] 31 (0, 0)) (by (with_reducible repeat (first | refine blk_drewN ?_ _ | refine blk_drew ?_ | refine blk_alloc ?_ _)); exact BK120.out) hb); have n2_ := Aside0.mk (below_step (by repeat (first | (with_reducible first | exact HB.out | apply below_alloc | apply pw_below_drewN | apply below_drew1 | refine below_set ?_ GE120.out) | exact HB.out)) hb); clear BK120; clear HB; have HO123 := n0_; have BK120 := n1_; have HB := n2_; clear n0_ n1_ n2_; clear hb ho21; obtain ⟨Ao22, co22, eo22⟩ := Kd.R_slice HO123.out; subst eo22) | (go_at_call 37; (with_reducible refine (pax_areRunes.calls k _ _ y121 false _ ?side1 ?side2 A7.out).mono ?_); (case side1 => repeat (first | exact (Kd.R_reads' HO123.out).2.2 | (with_reducible refine Kd.C_alloc ?_ _) | (with_reducible refine Kd.C_drewN ?_ _) | (with_reducible refine Kd.C_drew ?_))); (case side2 => exact (Kd.R_reads' HO123.out).2.1); rintro e w23 ⟨rfl, hb⟩; have n0_ := Aside0.mk (Kd.R_below (by (with_reducible repeat (first | apply Kd.R_alloc | apply Kd.R_drewN | apply Kd.R_drew)); exact HO123.out) hb); have n1_ := Aside0.mk (blk_below (g := gb120) (o := .cells #[.string a0_0, .string a0_1] 31 (0, 0)) (by (with_reducible repeat (first | refine blk_drewN ?_ _ | refine blk_drew ?_ | refine blk_alloc ?_ _)); exact BK120.out) hb); have n2_ := Aside0.mk (below_step (by repeat (first | (with_reducible first | exact HB.out | apply below_alloc | apply pw_below_drewN | apply below_drew1 | refine below_set ?_ GE120.out) | exact HB.out)) hb); clear HO123; clear BK120; clear HB; have HO123 := n0_; have BK120 := n1_; have HB := n2_; clear n0_ n1_ n2_; (try clear hb); (try clear hb2); (try clear hk); (try clear hi)))
          go_ret
          exact ⟨by first | rfl | (simp [errW_none, errW_some] <;> rfl) | (simp [*, errW_none, errW_some] <;> rfl), by repeat (first | (with_reducible first | exact HB.out | apply below_alloc | apply pw_below_drewN | apply below_drew1 | refine below_set ?_ GE120.out) | exact HB.out)⟩
      · rw [if_neg c6] at H
        have c6b0 : decide ((a0_1.size : Int) ≤ 400) = false := decide_eq_false c6
        have c6b1 : decide (a0_1.size ≤ 400) = false := decide_eq_false (by omega)
        clear c6
        obtain rfl := Option.some.inj H
        go_enter Tryd.func25, Tryd.ntmps25
        go_wp2_with (first | ((with_reducible refine gate_dst (N := 1) rfl ?_); (try (refine gate_guard (by rfl) ?_; dsimp only)); refine box_event ?hg (N := 1) ?hd (cs := #[.string a0_0, .string a0_1]) (t := 31) ?hr ?_; (case hd => rfl); (case hg => rfl); (case hr => first | (go_simp; done) | (go_simp; rfl)); intro gb120 hg w24 hbox hb; have n0_ := Aside0.mk (below_step (by repeat (first | (with_reducible first | exact HB.out | apply below_alloc | apply pw_below_drewN | apply below_drew1) | exact HB.out)) hb); have n1_ := Aside0.mk (hbox); have n2_ := Aside0.mk ((by rw [hg]; exact (below_size (by repeat (first | (with_reducible first | exact HB.out | apply below_alloc | apply pw_below_drewN | apply below_drew1) | exact HB.out))) : w.heap.size ≤ gb120)); have n3_ := Aside0.mk ((by rw [hg]; exact (below_size (by repeat (first | (with_reducible first | exact HB.out | apply below_alloc | apply pw_below_drewN | apply below_drew1) | exact HB.out))) : w.heap.size ≤ gb120)); clear HB; have HB := n0_; have BK120 := n1_; have GW120 := n2_; have GE120 := n3_; clear n0_ n1_ n2_ n3_; clear hb hbox hg; have hcz25_0 : w24.cell? ⟨gb120, 0, none⟩ = some (.string a0_0) := (blk_cell BK120.out 0).trans rfl; have hcz25_1 : w24.cell? ⟨gb120, 1, none⟩ = some (.string a0_1) := (blk_cell BK120.out 1).trans rfl; have hfz25_0 := blk_frozen BK120.out 0; have hfz25_1 := blk_frozen BK120.out 1))
        go_ret
        exact ⟨by first | rfl | (simp [errW_none, errW_some] <;> rfl) | (simp [*, errW_none, errW_some] <;> rfl), by repeat (first | (with_reducible first | exact HB.out | apply below_alloc | apply pw_below_drewN | apply below_drew1 | refine below_set ?_ GE120.out) | exact HB.out)⟩
    · rw [if_neg c5] at H
      have c5b0 : decide ((a0_0.size : Int) ≤ 400) = false := decide_eq_false c5
      have c5b1 : decide (a0_0.size ≤ 400) = false := decide_eq_false (by omega)
      clear c5
      obtain rfl := Option.some.inj H
      go_enter Tryd.func25, Tryd.ntmps25
      go_wp2_with (first | ((with_reducible refine gate_dst (N := 1) rfl ?_); (try (refine gate_guard (by rfl) ?_; dsimp only)); refine box_event ?hg (N := 1) ?hd (cs := #[.string a0_0, .string a0_1]) (t := 31) ?hr ?_; (case hd => rfl); (case hg => rfl); (case hr => first | (go_simp; done) | (go_simp; rfl)); intro gb120 hg w26 hbox hb; have n0_ := Aside0.mk (below_step (by repeat (first | (with_reducible first | exact HB.out | apply below_alloc | apply pw_below_drewN | apply below_drew1) | exact HB.out)) hb); have n1_ := Aside0.mk (hbox); have n2_ := Aside0.mk ((by rw [hg]; exact (below_size (by repeat (first | (with_reducible first | exact HB.out | apply below_alloc | apply pw_below_drewN | apply below_drew1) | exact HB.out))) : w.heap.size ≤ gb120)); have n3_ := Aside0.mk ((by rw [hg]; exact (below_size (by repeat (first | (with_reducible first | exact HB.out | apply below_alloc | apply pw_below_drewN | apply below_drew1) | exact HB.out))) : w.heap.size ≤ gb120)); clear HB; have HB := n0_; have BK120 := n1_; have GW120 := n2_; have GE120 := n3_; clear n0_ n1_ n2_ n3_; clear hb hbox hg; have hcz27_0 : w26.cell? ⟨gb120, 0, none⟩ = some (.string a0_0) := (blk_cell BK120.out 0).trans rfl; have hcz27_1 : w26.cell? ⟨gb120, 1, none⟩ = some (.string a0_1) := (blk_cell BK120.out 1).trans rfl; have hfz27_0 := blk_frozen BK120.out 0; have hfz27_1 := blk_frozen BK120.out 1))
      go_ret
      exact ⟨by first | rfl | (simp [errW_none, errW_some] <;> rfl) | (simp [*, errW_none, errW_some] <;> rfl), by repeat (first | (with_reducible first | exact HB.out | apply below_alloc | apply pw_below_drewN | apply below_drew1 | refine below_set ?_ GE120.out) | exact HB.out)⟩

end Go.Proofs.YtbcjhmeeonhmaaaDoor.M
end

-- Laid by a program of this session for this claim.
section
namespace Go.Proofs.YtbcjhmeeonhmaaaDoor.M
open Go.RowKit Go.Proofs.YtbcjhmeeonhmaaaDoorW.PrintWords Go.Proofs.YtbcjhmeeonhmaaaDoorW.PrintLast Go.Proofs.YtbcjhmeeonhmaaaDoorW.PrintMore
attribute [local go_sem] max2_int min2_int max_two min_two max_three min_three max_four min_four   -- for this text's walks alone
set_option linter.unusedVariables false
set_option linter.unusedSimpArgs false

/-! ### pleacherref09_has: function 45 -/
def pleacherref09_has.l0 : Nat → ByteArray → Int → Int → Option (Bool)
  | 0, _, _, _ => none
  | k + 1, x0, x1, x5 => if x5 < (x0.size : Int) then (if 0 ≤ x5 then (if (bt x0 x5) = x1 then (some true) else (pleacherref09_has.l0 k x0 x1 (wrap64 (x5 + 1)))) else (none)) else (some false)
def pleacherref09_has.f (k : Nat) (a0 : ByteArray) (a1 : Int) : Option (Bool) := pleacherref09_has.l0 k a0 a1 0
set_option maxHeartbeats 8000000 in
set_option maxRecDepth 100000 in
theorem pleacherref09_has.calls (k : Nat) (a0 : ByteArray) (a1 : Int) (r : Bool) (w : World) (h : pleacherref09_has.f k a0 a1 = some r) :
    Calls Tryd.prog 45 #[.string a0, .int .u8 a1] w fun e w' => e = .returned (.bool r) ∧ Drawn0 w w' := by
  have H : (pleacherref09_has.l0 k a0 a1 0) = some r := h
  clear h
  have H' := Aside0.mk H
  clear H
  go_enter Tryd.func45, Tryd.ntmps45
  go_wp2
  go_loopg [5] k (fun kq v5 w' => ∃ (x5_1 : Int), v5 = .int .i64 x5_1 ∧ Aside0 (pleacherref09_has.l0 kq a0 a1 x5_1 = some r) ∧ Aside0 (kq ≤ k) ∧ Drawn0 w w')
  case atStart => exact ⟨(0), (by first | rfl | (simp; done) | (simp [*]; done)), H', ⟨Nat.le_refl _⟩, by repeat (first | exact Drawn0.refl _ | apply Drawn0.step)⟩
  case round =>
    clear H'
    try clear p2
    obtain ⟨x5_1, rfl, HA, HK1, ⟨m1, rfl⟩⟩ := hrel
    cases gk with
    | zero => exact absurd HA.out (by simp [pleacherref09_has.l0])
    | succ k1 =>
      have H := HA.out
      clear HA
      simp only [pleacherref09_has.l0] at H
      by_cases c3 : x5_1 < (a0.size : Int)
      · rw [if_pos c3] at H
        have c3b0 : decide (x5_1 < (a0.size : Int)) = true := decide_eq_true c3
        clear c3
        by_cases c4 : 0 ≤ x5_1
        · rw [if_pos c4] at H
          have c4b0 : decide (0 ≤ x5_1) = true := decide_eq_true c4
          clear c4
          by_cases c6 : (bt a0 x5_1) = a1
          · rw [if_pos c6] at H
            have c6b0 : ((bt a0 x5_1) == a1) = true := beq_iff_eq.mpr c6
            have c6b1 : ((bt a0 x5_1) != a1) = false := bne_eq_false_iff_eq.mpr c6
            clear c6
            obtain rfl := Option.some.inj H
            have p5 : 0 ≤ (x5_1 : Int) := of_decide_eq_true (by first | (with_reducible assumption) | assumption)
            have q5 : x5_1 < (a0.size : Int) := of_decide_eq_true (by first | (with_reducible assumption) | assumption)
            have hx5 := bt_at a0 x5_1
            replace p5 := eq_true p5
            replace q5 := eq_true q5
            go_wp2
            go_ret
            exact ⟨by first | rfl | (simp; done) | (simp [*]; done), by repeat (first | exact Drawn0.refl _ | apply Drawn0.step)⟩
          · rw [if_neg c6] at H
            have c6b0 : ((bt a0 x5_1) == a1) = false := beq_eq_false_iff_ne.mpr c6
            have c6b1 : ((bt a0 x5_1) != a1) = true := bne_iff_ne.mpr c6
            have H' := Aside0.mk H
            clear H
            have p5 : 0 ≤ (x5_1 : Int) := of_decide_eq_true (by first | (with_reducible assumption) | assumption)
            have q5 : x5_1 < (a0.size : Int) := of_decide_eq_true (by first | (with_reducible assumption) | assumption)
            have hx5 := bt_at a0 x5_1
            replace p5 := eq_true p5
            replace q5 := eq_true q5
            go_wp2
            go_roundg k1
            case measure => have := HK1.out; omega
            case rel => exact ⟨(wrap64 (x5_1 + 1)), (by first | rfl | (simp; done) | (simp [*]; done)), H', ⟨by have := HK1.out; omega⟩, by repeat (first | exact Drawn0.refl _ | apply Drawn0.step)⟩
        · rw [if_neg c4] at H
          exact absurd H (by simp)
      · rw [if_neg c3] at H
        have c3b0 : decide (x5_1 < (a0.size : Int)) = false := decide_eq_false c3
        clear c3
        obtain rfl := Option.some.inj H
        go_wp2
        go_ret
        exact ⟨by first | rfl | (simp; done) | (simp [*]; done), by repeat (first | exact Drawn0.refl _ | apply Drawn0.step)⟩

end Go.Proofs.YtbcjhmeeonhmaaaDoor.M
end

-- Laid by a program of this session for this claim.
section
namespace Go.Proofs.YtbcjhmeeonhmaaaDoor.M
open Go.RowKit Go.Proofs.YtbcjhmeeonhmaaaDoorW.PrintWords Go.Proofs.YtbcjhmeeonhmaaaDoorW.PrintLast Go.Proofs.YtbcjhmeeonhmaaaDoorW.PrintMore
attribute [local go_sem] max2_int min2_int max_two min_two max_three min_three max_four min_four   -- for this text's walks alone
set_option linter.unusedVariables false
set_option linter.unusedSimpArgs false

/-! ### pleacherref09_is: function 31 -/
def pleacherref09_is.f (k : Nat) (a0_0 : ByteArray) (a0_1 : ByteArray) : Option (Bool) := (pleacherref02_Valid.f k a0_0).bind fun bt171 => ((pleacherref02_Valid.f k a0_1).bind fun bt173 => (if bt171.2 = true then (if bt173.2 = true then (if (a0_0.size : Int) ≥ 1 then (if (a0_0.size : Int) ≤ 400 then (if (a0_1.size : Int) ≤ 400 then ((pleacherref09_has.f k a0_0 61).bind fun t175 => (if t175 = true then (some false) else ((pleacherref09_has.f k a0_0 0).bind fun t176 => (if t176 = true then (some false) else ((pleacherref09_has.f k a0_1 0).bind fun t177 => (some (!t177))))))) else (some false)) else (some false)) else (some false)) else (some false)) else (some false)))
set_option maxHeartbeats 8000000 in
set_option maxRecDepth 100000 in
theorem pleacherref09_is.calls (k : Nat) (a0_0 : ByteArray) (a0_1 : ByteArray) (r : Bool) (w : World) (h : pleacherref09_is.f k a0_0 a0_1 = some r) :
    Calls Tryd.prog 31 #[.agg #[.string a0_0, .string a0_1]] w fun e w' => e = .returned (.bool r) ∧ Below w.heap.size w w' := by
  have hu31 := Tryd.underlying31
  have HB := Aside0.mk (Below.refl w.heap.size w)
  have H : ((pleacherref02_Valid.f k a0_0).bind fun bt171 => ((pleacherref02_Valid.f k a0_1).bind fun bt173 => (if bt171.2 = true then (if bt173.2 = true then (if (a0_0.size : Int) ≥ 1 then (if (a0_0.size : Int) ≤ 400 then (if (a0_1.size : Int) ≤ 400 then ((pleacherref09_has.f k a0_0 61).bind fun t175 => (if t175 = true then (some false) else ((pleacherref09_has.f k a0_0 0).bind fun t176 => (if t176 = true then (some false) else ((pleacherref09_has.f k a0_1 0).bind fun t177 => (some (!t177))))))) else (some false)) else (some false)) else (some false)) else (some false)) else (some false)))) = some r := h
  clear h
  replace H := Option.bind_eq_some_iff.mp H
  obtain ⟨⟨t171, t172⟩, A20, H⟩ := H
  replace H : ((pleacherref02_Valid.f k a0_1).bind fun bt173 => (if t172 = true then (if bt173.2 = true then (if (a0_0.size : Int) ≥ 1 then (if (a0_0.size : Int) ≤ 400 then (if (a0_1.size : Int) ≤ 400 then ((pleacherref09_has.f k a0_0 61).bind fun t175 => (if t175 = true then (some false) else ((pleacherref09_has.f k a0_0 0).bind fun t176 => (if t176 = true then (some false) else ((pleacherref09_has.f k a0_1 0).bind fun t177 => (some (!t177))))))) else (some false)) else (some false)) else (some false)) else (some false)) else (some false))) = some r := H
  have A2 := Aside0.mk A20
  clear A20
  replace H := Option.bind_eq_some_iff.mp H
  obtain ⟨⟨t173, t174⟩, A30, H⟩ := H
  replace H : (if t172 = true then (if t174 = true then (if (a0_0.size : Int) ≥ 1 then (if (a0_0.size : Int) ≤ 400 then (if (a0_1.size : Int) ≤ 400 then ((pleacherref09_has.f k a0_0 61).bind fun t175 => (if t175 = true then (some false) else ((pleacherref09_has.f k a0_0 0).bind fun t176 => (if t176 = true then (some false) else ((pleacherref09_has.f k a0_1 0).bind fun t177 => (some (!t177))))))) else (some false)) else (some false)) else (some false)) else (some false)) else (some false)) = some r := H
  have A3 := Aside0.mk A30
  clear A30
  by_cases c4 : t172 = true
  · subst c4
    have H1 : (if t174 = true then (if (a0_0.size : Int) ≥ 1 then (if (a0_0.size : Int) ≤ 400 then (if (a0_1.size : Int) ≤ 400 then ((pleacherref09_has.f k a0_0 61).bind fun t175 => (if t175 = true then (some false) else ((pleacherref09_has.f k a0_0 0).bind fun t176 => (if t176 = true then (some false) else ((pleacherref09_has.f k a0_1 0).bind fun t177 => (some (!t177))))))) else (some false)) else (some false)) else (some false)) else (some false)) = some r := by rw [if_pos rfl] at H; exact H
    clear H
    have H := H1
    clear H1
    by_cases c5 : t174 = true
    · subst c5
      have H1 : (if (a0_0.size : Int) ≥ 1 then (if (a0_0.size : Int) ≤ 400 then (if (a0_1.size : Int) ≤ 400 then ((pleacherref09_has.f k a0_0 61).bind fun t175 => (if t175 = true then (some false) else ((pleacherref09_has.f k a0_0 0).bind fun t176 => (if t176 = true then (some false) else ((pleacherref09_has.f k a0_1 0).bind fun t177 => (some (!t177))))))) else (some false)) else (some false)) else (some false)) = some r := by rw [if_pos rfl] at H; exact H
      clear H
      have H := H1
      clear H1
      by_cases c6 : (a0_0.size : Int) ≥ 1
      · rw [if_pos c6] at H
        have c6b0 : decide (1 ≤ (a0_0.size : Int)) = true := decide_eq_true c6
        have c6b1 : decide (1 ≤ a0_0.size) = true := decide_eq_true (by omega)
        clear c6
        by_cases c7 : (a0_0.size : Int) ≤ 400
        · rw [if_pos c7] at H
          have c7b0 : decide ((a0_0.size : Int) ≤ 400) = true := decide_eq_true c7
          have c7b1 : decide (a0_0.size ≤ 400) = true := decide_eq_true (by omega)
          clear c7
          by_cases c8 : (a0_1.size : Int) ≤ 400
          · rw [if_pos c8] at H
            have c8b0 : decide ((a0_1.size : Int) ≤ 400) = true := decide_eq_true c8
            have c8b1 : decide (a0_1.size ≤ 400) = true := decide_eq_true (by omega)
            clear c8
            replace H := Option.bind_eq_some_iff.mp H
            obtain ⟨t175, A90, H⟩ := H
            replace H : (if t175 = true then (some false) else ((pleacherref09_has.f k a0_0 0).bind fun t176 => (if t176 = true then (some false) else ((pleacherref09_has.f k a0_1 0).bind fun t177 => (some (!t177)))))) = some r := H
            have A9 := Aside0.mk A90
            clear A90
            by_cases c10 : t175 = true
            · subst c10
              have H1 : (some false) = some r := by rw [if_pos rfl] at H; exact H
              clear H
              have H := H1
              clear H1
              obtain rfl := Option.some.inj H
              go_enter Tryd.func31, Tryd.ntmps31
              go_wp2_with (first | ((with_reducible refine gate_dst (N := 1) rfl ?_); (try (refine gate_guard (by rfl) ?_; dsimp only)); refine box_event ?hg (N := 1) ?hd (cs := #[.string a0_0, .string a0_1]) (t := 31) ?hr ?_; (case hd => rfl); (case hg => rfl); (case hr => first | (go_simp; done) | (go_simp; rfl)); intro gb170 hg w11 hbox hb; have n0_ := Aside0.mk (below_step (by repeat (first | (with_reducible first | exact HB.out | apply below_alloc | apply pw_below_drewN | apply below_drew1) | exact HB.out)) hb); have n1_ := Aside0.mk (hbox); have n2_ := Aside0.mk ((by rw [hg]; exact (below_size (by repeat (first | (with_reducible first | exact HB.out | apply below_alloc | apply pw_below_drewN | apply below_drew1) | exact HB.out))) : w.heap.size ≤ gb170)); have n3_ := Aside0.mk ((by rw [hg]; exact (below_size (by repeat (first | (with_reducible first | exact HB.out | apply below_alloc | apply pw_below_drewN | apply below_drew1) | exact HB.out))) : w.heap.size ≤ gb170)); clear HB; have HB := n0_; have BK170 := n1_; have GW170 := n2_; have GE170 := n3_; clear n0_ n1_ n2_ n3_; clear hb hbox hg; have hcz12_0 : w11.cell? ⟨gb170, 0, none⟩ = some (.string a0_0) := (blk_cell BK170.out 0).trans rfl; have hcz12_1 : w11.cell? ⟨gb170, 1, none⟩ = some (.string a0_1) := (blk_cell BK170.out 1).trans rfl; have hfz12_0 := blk_frozen BK170.out 0; have hfz12_1 := blk_frozen BK170.out 1) | ((with_reducible refine gate_callee (f := 44) rfl ?_); refine goesL_ (some 10) rfl rfl Tryd.func44 (by kernel_rfl) rfl #[.string a0_0] rfl (by (try simp only [List.map_toArray, List.map_cons, List.map_nil]); first | done | rfl | (simp only [List.length_drop, List.length_take]; rfl)) ?_; (with_reducible refine (pleacherref02_Valid.calls k a0_0 t171 true _ A2.out).mono ?_); rintro e w13 ⟨rfl, hb⟩; refine ⟨_, rfl, ?_⟩; have n0_ := Aside0.mk (blk_below (g := gb170) (o := .cells #[.string a0_0, .string a0_1] 31 (0, 0)) (by (with_reducible repeat (first | refine blk_drewN ?_ _ | refine blk_drew ?_ | refine blk_alloc ?_ _)); exact BK170.out) hb); have n1_ := Aside0.mk (below_step (by repeat (first | (with_reducible first | exact HB.out | apply below_alloc | apply pw_below_drewN | apply below_drew1 | refine below_set ?_ GE170.out) | exact HB.out)) hb); clear BK170; clear HB; have BK170 := n0_; have HB := n1_; clear n0_ n1_; (try clear hb); (try clear hb2); (try clear hk); (try clear hi); have hcz14_0 : w13.cell? ⟨gb170, 0, none⟩ = some (.string a0_0) := (blk_cell BK170.out 0).trans rfl; have hcz14_1 : w13.cell? ⟨gb170, 1, none⟩ = some (.string a0_1) := (blk_cell BK170.out 1).trans rfl; have hfz14_0 := blk_frozen BK170.out 0; have hfz14_1 := blk_frozen BK170.out 1) | ((with_reducible refine gate_callee (f := 44) rfl ?_); refine goesL_ (some 16) rfl rfl Tryd.func44 (by kernel_rfl) rfl #[.string a0_1] rfl (by (try simp only [List.map_toArray, List.map_cons, List.map_nil]); first | done | rfl | (simp only [List.length_drop, List.length_take]; rfl)) ?_; (with_reducible refine (pleacherref02_Valid.calls k a0_1 t173 true _ A3.out).mono ?_); rintro e w15 ⟨rfl, hb⟩; refine ⟨_, rfl, ?_⟩; have n0_ := Aside0.mk (blk_below (g := gb170) (o := .cells #[.string a0_0, .string a0_1] 31 (0, 0)) (by (with_reducible repeat (first | refine blk_drewN ?_ _ | refine blk_drew ?_ | refine blk_alloc ?_ _)); exact BK170.out) hb); have n1_ := Aside0.mk (below_step (by repeat (first | (with_reducible first | exact HB.out | apply below_alloc | apply pw_below_drewN | apply below_drew1 | refine below_set ?_ GE170.out) | exact HB.out)) hb); clear BK170; clear HB; have BK170 := n0_; have HB := n1_; clear n0_ n1_; (try clear hb); (try clear hb2); (try clear hk); (try clear hi); have hcz16_0 : w15.cell? ⟨gb170, 0, none⟩ = some (.string a0_0) := (blk_cell BK170.out 0).trans rfl; have hcz16_1 : w15.cell? ⟨gb170, 1, none⟩ = some (.string a0_1) := (blk_cell BK170.out 1).trans rfl; have hfz16_0 := blk_frozen BK170.out 0; have hfz16_1 := blk_frozen BK170.out 1) | (go_at_call 45; (with_reducible refine (pleacherref09_has.calls k a0_0 61 true _ A9.out).mono ?_); rintro e w' ⟨rfl, ⟨nd, rfl⟩⟩))
              go_ret
              exact ⟨by first | rfl | (simp [errW_none, errW_some] <;> rfl) | (simp [*, errW_none, errW_some] <;> rfl), by repeat (first | (with_reducible first | exact HB.out | apply below_alloc | apply pw_below_drewN | apply below_drew1 | refine below_set ?_ GE170.out) | exact HB.out)⟩
            · replace c10 := Bool.eq_false_iff.mpr c10
              subst c10
              have H1 : ((pleacherref09_has.f k a0_0 0).bind fun t176 => (if t176 = true then (some false) else ((pleacherref09_has.f k a0_1 0).bind fun t177 => (some (!t177))))) = some r := by rw [if_neg (show ¬ (false = true) by decide)] at H; exact H
              clear H
              have H := H1
              clear H1
              replace H := Option.bind_eq_some_iff.mp H
              obtain ⟨t176, A170, H⟩ := H
              replace H : (if t176 = true then (some false) else ((pleacherref09_has.f k a0_1 0).bind fun t177 => (some (!t177)))) = some r := H
              have A17 := Aside0.mk A170
              clear A170
              by_cases c18 : t176 = true
              · subst c18
                have H1 : (some false) = some r := by rw [if_pos rfl] at H; exact H
                clear H
                have H := H1
                clear H1
                obtain rfl := Option.some.inj H
                go_enter Tryd.func31, Tryd.ntmps31
                go_wp2_with (first | ((with_reducible refine gate_dst (N := 1) rfl ?_); (try (refine gate_guard (by rfl) ?_; dsimp only)); refine box_event ?hg (N := 1) ?hd (cs := #[.string a0_0, .string a0_1]) (t := 31) ?hr ?_; (case hd => rfl); (case hg => rfl); (case hr => first | (go_simp; done) | (go_simp; rfl)); intro gb170 hg w19 hbox hb; have n0_ := Aside0.mk (below_step (by repeat (first | (with_reducible first | exact HB.out | apply below_alloc | apply pw_below_drewN | apply below_drew1) | exact HB.out)) hb); have n1_ := Aside0.mk (hbox); have n2_ := Aside0.mk ((by rw [hg]; exact (below_size (by repeat (first | (with_reducible first | exact HB.out | apply below_alloc | apply pw_below_drewN | apply below_drew1) | exact HB.out))) : w.heap.size ≤ gb170)); have n3_ := Aside0.mk ((by rw [hg]; exact (below_size (by repeat (first | (with_reducible first | exact HB.out | apply below_alloc | apply pw_below_drewN | apply below_drew1) | exact HB.out))) : w.heap.size ≤ gb170)); clear HB; have HB := n0_; have BK170 := n1_; have GW170 := n2_; have GE170 := n3_; clear n0_ n1_ n2_ n3_; clear hb hbox hg; have hcz20_0 : w19.cell? ⟨gb170, 0, none⟩ = some (.string a0_0) := (blk_cell BK170.out 0).trans rfl; have hcz20_1 : w19.cell? ⟨gb170, 1, none⟩ = some (.string a0_1) := (blk_cell BK170.out 1).trans rfl; have hfz20_0 := blk_frozen BK170.out 0; have hfz20_1 := blk_frozen BK170.out 1) | ((with_reducible refine gate_callee (f := 44) rfl ?_); refine goesL_ (some 10) rfl rfl Tryd.func44 (by kernel_rfl) rfl #[.string a0_0] rfl (by (try simp only [List.map_toArray, List.map_cons, List.map_nil]); first | done | rfl | (simp only [List.length_drop, List.length_take]; rfl)) ?_; (with_reducible refine (pleacherref02_Valid.calls k a0_0 t171 true _ A2.out).mono ?_); rintro e w21 ⟨rfl, hb⟩; refine ⟨_, rfl, ?_⟩; have n0_ := Aside0.mk (blk_below (g := gb170) (o := .cells #[.string a0_0, .string a0_1] 31 (0, 0)) (by (with_reducible repeat (first | refine blk_drewN ?_ _ | refine blk_drew ?_ | refine blk_alloc ?_ _)); exact BK170.out) hb); have n1_ := Aside0.mk (below_step (by repeat (first | (with_reducible first | exact HB.out | apply below_alloc | apply pw_below_drewN | apply below_drew1 | refine below_set ?_ GE170.out) | exact HB.out)) hb); clear BK170; clear HB; have BK170 := n0_; have HB := n1_; clear n0_ n1_; (try clear hb); (try clear hb2); (try clear hk); (try clear hi); have hcz22_0 : w21.cell? ⟨gb170, 0, none⟩ = some (.string a0_0) := (blk_cell BK170.out 0).trans rfl; have hcz22_1 : w21.cell? ⟨gb170, 1, none⟩ = some (.string a0_1) := (blk_cell BK170.out 1).trans rfl; have hfz22_0 := blk_frozen BK170.out 0; have hfz22_1 := blk_frozen BK170.out 1) | ((with_reducible refine gate_callee (f := 44) rfl ?_); refine goesL_ (some 16) rfl rfl Tryd.func44 (by kernel_rfl) rfl #[.string a0_1] rfl (by (try simp only [List.map_toArray, List.map_cons, List.map_nil]); first | done | rfl | (simp only [List.length_drop, List.length_take]; rfl)) ?_; (with_reducible refine (pleacherref02_Valid.calls k a0_1 t173 true _ A3.out).mono ?_); rintro e w23 ⟨rfl, hb⟩; refine ⟨_, rfl, ?_⟩; have n0_ := Aside0.mk (blk_below (g := gb170) (o := .cells #[.string a0_0, .string a0_1] 31 (0, 0)) (by (with_reducible repeat (first | refine blk_drewN ?_ _ | refine blk_drew ?_ | refine blk_alloc ?_ _)); exact BK170.out) hb); have n1_ := Aside0.mk (below_step (by repeat (first | (with_reducible first | exact HB.out | apply below_alloc | apply pw_below_drewN | apply below_drew1 | refine below_set ?_ GE170.out) | exact HB.out)) hb); clear BK170; clear HB; have BK170 := n0_; have HB := n1_; clear n0_ n1_; (try clear hb); (try clear hb2); (try clear hk); (try clear hi); have hcz24_0 : w23.cell? ⟨gb170, 0, none⟩ = some (.string a0_0) := (blk_cell BK170.out 0).trans rfl; have hcz24_1 : w23.cell? ⟨gb170, 1, none⟩ = some (.string a0_1) := (blk_cell BK170.out 1).trans rfl; have hfz24_0 := blk_frozen BK170.out 0; have hfz24_1 := blk_frozen BK170.out 1) | (go_at_call 45; (with_reducible refine (pleacherref09_has.calls k a0_0 61 false _ A9.out).mono ?_); rintro e w' ⟨rfl, ⟨nd, rfl⟩⟩) | (go_at_call 45; (with_reducible refine (pleacherref09_has.calls k a0_0 0 true _ A17.out).mono ?_); rintro e w' ⟨rfl, ⟨nd, rfl⟩⟩))
                go_ret
                exact ⟨by first | rfl | (simp [errW_none, errW_some] <;> rfl) | (simp [*, errW_none, errW_some] <;> rfl), by repeat (first | (with_reducible first | exact HB.out | apply below_alloc | apply pw_below_drewN | apply below_drew1 | refine below_set ?_ GE170.out) | exact HB.out)⟩
              · replace c18 := Bool.eq_false_iff.mpr c18
                subst c18
                have H1 : ((pleacherref09_has.f k a0_1 0).bind fun t177 => (some (!t177))) = some r := by rw [if_neg (show ¬ (false = true) by decide)] at H; exact H
                clear H
                have H := H1
                clear H1
                replace H := Option.bind_eq_some_iff.mp H
                obtain ⟨t177, A250, H⟩ := H
                replace H : (some (!t177)) = some r := H
                have A25 := Aside0.mk A250
                clear A250
                obtain rfl := Option.some.inj H
                go_enter Tryd.func31, Tryd.ntmps31
                go_wp2_with (first | ((with_reducible refine gate_dst (N := 1) rfl ?_); (try (refine gate_guard (by rfl) ?_; dsimp only)); refine box_event ?hg (N := 1) ?hd (cs := #[.string a0_0, .string a0_1]) (t := 31) ?hr ?_; (case hd => rfl); (case hg => rfl); (case hr => first | (go_simp; done) | (go_simp; rfl)); intro gb170 hg w26 hbox hb; have n0_ := Aside0.mk (below_step (by repeat (first | (with_reducible first | exact HB.out | apply below_alloc | apply pw_below_drewN | apply below_drew1) | exact HB.out)) hb); have n1_ := Aside0.mk (hbox); have n2_ := Aside0.mk ((by rw [hg]; exact (below_size (by repeat (first | (with_reducible first | exact HB.out | apply below_alloc | apply pw_below_drewN | apply below_drew1) | exact HB.out))) : w.heap.size ≤ gb170)); have n3_ := Aside0.mk ((by rw [hg]; exact (below_size (by repeat (first | (with_reducible first | exact HB.out | apply below_alloc | apply pw_below_drewN | apply below_drew1) | exact HB.out))) : w.heap.size ≤ gb170)); clear HB; have HB := n0_; have BK170 := n1_; have GW170 := n2_; have GE170 := n3_; clear n0_ n1_ n2_ n3_; clear hb hbox hg; have hcz27_0 : w26.cell? ⟨gb170, 0, none⟩ = some (.string a0_0) := (blk_cell BK170.out 0).trans rfl; have hcz27_1 : w26.cell? ⟨gb170, 1, none⟩ = some (.string a0_1) := (blk_cell BK170.out 1).trans rfl; have hfz27_0 := blk_frozen BK170.out 0; have hfz27_1 := blk_frozen BK170.out 1) | ((with_reducible refine gate_callee (f := 44) rfl ?_); refine goesL_ (some 10) rfl rfl Tryd.func44 (by kernel_rfl) rfl #[.string a0_0] rfl (by (try simp only [List.map_toArray, List.map_cons, List.map_nil]); first | done | rfl | (simp only [List.length_drop, List.length_take]; rfl)) ?_; (with_reducible refine (pleacherref02_Valid.calls k a0_0 t171 true _ A2.out).mono ?_); rintro e w28 ⟨rfl, hb⟩; refine ⟨_, rfl, ?_⟩; have n0_ := Aside0.mk (blk_below (g := gb170) (o := .cells #[.string a0_0, .string a0_1] 31 (0, 0)) (by (with_reducible repeat (first | refine blk_drewN ?_ _ | refine blk_drew ?_ | refine blk_alloc ?_ _)); exact BK170.out) hb); have n1_ := Aside0.mk (below_step (by repeat (first | (with_reducible first | exact HB.out | apply below_alloc | apply pw_below_drewN | apply below_drew1 | refine below_set ?_ GE170.out) | exact HB.out)) hb); clear BK170; clear HB; have BK170 := n0_; have HB := n1_; clear n0_ n1_; (try clear hb); (try clear hb2); (try clear hk); (try clear hi); have hcz29_0 : w28.cell? ⟨gb170, 0, none⟩ = some (.string a0_0) := (blk_cell BK170.out 0).trans rfl; have hcz29_1 : w28.cell? ⟨gb170, 1, none⟩ = some (.string a0_1) := (blk_cell BK170.out 1).trans rfl; have hfz29_0 := blk_frozen BK170.out 0; have hfz29_1 := blk_frozen BK170.out 1) | ((with_reducible refine gate_callee (f := 44) rfl ?_); refine goesL_ (some 16) rfl rfl Tryd.func44 (by kernel_rfl) rfl #[.string a0_1] rfl (by (try simp only [List.map_toArray, List.map_cons, List.map_nil]); first | done | rfl | (simp only [List.length_drop, List.length_take]; rfl)) ?_; (with_reducible refine (pleacherref02_Valid.calls k a0_1 t173 true _ A3.out).mono ?_); rintro e w30 ⟨rfl, hb⟩; refine ⟨_, rfl, ?_⟩; have n0_ := Aside0.mk (blk_below (g := gb170) (o := .cells #[.string a0_0, .string a0_1] 31 (0, 0)) (by (with_reducible repeat (first | refine blk_drewN ?_ _ | refine blk_drew ?_ | refine blk_alloc ?_ _)); exact BK170.out) hb); have n1_ := Aside0.mk (below_step (by repeat (first | (with_reducible first | exact HB.out | apply below_alloc | apply pw_below_drewN | apply below_drew1 | refine below_set ?_ GE170.out) | exact HB.out)) hb); clear BK170; clear HB; have BK170 := n0_; have HB := n1_; clear n0_ n1_; (try clear hb); (try clear hb2); (try clear hk); (try clear hi); have hcz31_0 : w30.cell? ⟨gb170, 0, none⟩ = some (.string a0_0) := (blk_cell BK170.out 0).trans rfl; have hcz31_1 : w30.cell? ⟨gb170, 1, none⟩ = some (.string a0_1) := (blk_cell BK170.out 1).trans rfl; have hfz31_0 := blk_frozen BK170.out 0; have hfz31_1 := blk_frozen BK170.out 1) | (go_at_call 45; (with_reducible refine (pleacherref09_has.calls k a0_0 61 false _ A9.out).mono ?_); rintro e w' ⟨rfl, ⟨nd, rfl⟩⟩) | (go_at_call 45; (with_reducible refine (pleacherref09_has.calls k a0_0 0 false _ A17.out).mono ?_); rintro e w' ⟨rfl, ⟨nd, rfl⟩⟩) | (go_at_call 45; (with_reducible refine (pleacherref09_has.calls k a0_1 0 t177 _ A25.out).mono ?_); rintro e w' ⟨rfl, ⟨nd, rfl⟩⟩))
                go_ret
                exact ⟨by first | rfl | (simp [errW_none, errW_some] <;> rfl) | (simp [*, errW_none, errW_some] <;> rfl), by repeat (first | (with_reducible first | exact HB.out | apply below_alloc | apply pw_below_drewN | apply below_drew1 | refine below_set ?_ GE170.out) | exact HB.out)⟩
          · rw [if_neg c8] at H
            have c8b0 : decide ((a0_1.size : Int) ≤ 400) = false := decide_eq_false c8
            have c8b1 : decide (a0_1.size ≤ 400) = false := decide_eq_false (by omega)
            clear c8
            obtain rfl := Option.some.inj H
            go_enter Tryd.func31, Tryd.ntmps31
            go_wp2_with (first | ((with_reducible refine gate_dst (N := 1) rfl ?_); (try (refine gate_guard (by rfl) ?_; dsimp only)); refine box_event ?hg (N := 1) ?hd (cs := #[.string a0_0, .string a0_1]) (t := 31) ?hr ?_; (case hd => rfl); (case hg => rfl); (case hr => first | (go_simp; done) | (go_simp; rfl)); intro gb170 hg w32 hbox hb; have n0_ := Aside0.mk (below_step (by repeat (first | (with_reducible first | exact HB.out | apply below_alloc | apply pw_below_drewN | apply below_drew1) | exact HB.out)) hb); have n1_ := Aside0.mk (hbox); have n2_ := Aside0.mk ((by rw [hg]; exact (below_size (by repeat (first | (with_reducible first | exact HB.out | apply below_alloc | apply pw_below_drewN | apply below_drew1) | exact HB.out))) : w.heap.size ≤ gb170)); have n3_ := Aside0.mk ((by rw [hg]; exact (below_size (by repeat (first | (with_reducible first | exact HB.out | apply below_alloc | apply pw_below_drewN | apply below_drew1) | exact HB.out))) : w.heap.size ≤ gb170)); clear HB; have HB := n0_; have BK170 := n1_; have GW170 := n2_; have GE170 := n3_; clear n0_ n1_ n2_ n3_; clear hb hbox hg; have hcz33_0 : w32.cell? ⟨gb170, 0, none⟩ = some (.string a0_0) := (blk_cell BK170.out 0).trans rfl; have hcz33_1 : w32.cell? ⟨gb170, 1, none⟩ = some (.string a0_1) := (blk_cell BK170.out 1).trans rfl; have hfz33_0 := blk_frozen BK170.out 0; have hfz33_1 := blk_frozen BK170.out 1) | ((with_reducible refine gate_callee (f := 44) rfl ?_); refine goesL_ (some 10) rfl rfl Tryd.func44 (by kernel_rfl) rfl #[.string a0_0] rfl (by (try simp only [List.map_toArray, List.map_cons, List.map_nil]); first | done | rfl | (simp only [List.length_drop, List.length_take]; rfl)) ?_; (with_reducible refine (pleacherref02_Valid.calls k a0_0 t171 true _ A2.out).mono ?_); rintro e w34 ⟨rfl, hb⟩; refine ⟨_, rfl, ?_⟩; have n0_ := Aside0.mk (blk_below (g := gb170) (o := .cells #[.string a0_0, .string a0_1] 31 (0, 0)) (by (with_reducible repeat (first | refine blk_drewN ?_ _ | refine blk_drew ?_ | refine blk_alloc ?_ _)); exact BK170.out) hb); have n1_ := Aside0.mk (below_step (by repeat (first | (with_reducible first | exact HB.out | apply below_alloc | apply pw_below_drewN | apply below_drew1 | refine below_set ?_ GE170.out) | exact HB.out)) hb); clear BK170; clear HB; have BK170 := n0_; have HB := n1_; clear n0_ n1_; (try clear hb); (try clear hb2); (try clear hk); (try clear hi); have hcz35_0 : w34.cell? ⟨gb170, 0, none⟩ = some (.string a0_0) := (blk_cell BK170.out 0).trans rfl; have hcz35_1 : w34.cell? ⟨gb170, 1, none⟩ = some (.string a0_1) := (blk_cell BK170.out 1).trans rfl; have hfz35_0 := blk_frozen BK170.out 0; have hfz35_1 := blk_frozen BK170.out 1) | ((with_reducible refine gate_callee (f := 44) rfl ?_); refine goesL_ (some 16) rfl rfl Tryd.func44 (by kernel_rfl) rfl #[.string a0_1] rfl (by (try simp only [List.map_toArray, List.map_cons, List.map_nil]); first | done | rfl | (simp only [List.length_drop, List.length_take]; rfl)) ?_; (with_reducible refine (pleacherref02_Valid.calls k a0_1 t173 true _ A3.out).mono ?_); rintro e w36 ⟨rfl, hb⟩; refine ⟨_, rfl, ?_⟩; have n0_ := Aside0.mk (blk_below (g := gb170) (o := .cells #[.string a0_0, .string a0_1] 31 (0, 0)) (by (with_reducible repeat (first | refine blk_drewN ?_ _ | refine blk_drew ?_ | refine blk_alloc ?_ _)); exact BK170.out) hb); have n1_ := Aside0.mk (below_step (by repeat (first | (with_reducible first | exact HB.out | apply below_alloc | apply pw_below_drewN | apply below_drew1 | refine below_set ?_ GE170.out) | exact HB.out)) hb); clear BK170; clear HB; have BK170 := n0_; have HB := n1_; clear n0_ n1_; (try clear hb); (try clear hb2); (try clear hk); (try clear hi); have hcz37_0 : w36.cell? ⟨gb170, 0, none⟩ = some (.string a0_0) := (blk_cell BK170.out 0).trans rfl; have hcz37_1 : w36.cell? ⟨gb170, 1, none⟩ = some (.string a0_1) := (blk_cell BK170.out 1).trans rfl; have hfz37_0 := blk_frozen BK170.out 0; have hfz37_1 := blk_frozen BK170.out 1))
            go_ret
            exact ⟨by first | rfl | (simp [errW_none, errW_some] <;> rfl) | (simp [*, errW_none, errW_some] <;> rfl), by repeat (first | (with_reducible first | exact HB.out | apply below_alloc | apply pw_below_drewN | apply below_drew1 | refine below_set ?_ GE170.out) | exact HB.out)⟩
        · rw [if_neg c7] at H
          have c7b0 : decide ((a0_0.size : Int) ≤ 400) = false := decide_eq_false c7
          have c7b1 : decide (a0_0.size ≤ 400) = false := decide_eq_false (by omega)
          clear c7
          obtain rfl := Option.some.inj H
          go_enter Tryd.func31, Tryd.ntmps31
          go_wp2_with (first | ((with_reducible refine gate_dst (N := 1) rfl ?_); (try (refine gate_guard (by rfl) ?_; dsimp only)); refine box_event ?hg (N := 1) ?hd (cs := #[.string a0_0, .string a0_1]) (t := 31) ?hr ?_; (case hd => rfl); (case hg => rfl); (case hr => first | (go_simp; done) | (go_simp; rfl)); intro gb170 hg w38 hbox hb; have n0_ := Aside0.mk (below_step (by repeat (first | (with_reducible first | exact HB.out | apply below_alloc | apply pw_below_drewN | apply below_drew1) | exact HB.out)) hb); have n1_ := Aside0.mk (hbox); have n2_ := Aside0.mk ((by rw [hg]; exact (below_size (by repeat (first | (with_reducible first | exact HB.out | apply below_alloc | apply pw_below_drewN | apply below_drew1) | exact HB.out))) : w.heap.size ≤ gb170)); have n3_ := Aside0.mk ((by rw [hg]; exact (below_size (by repeat (first | (with_reducible first | exact HB.out | apply below_alloc | apply pw_below_drewN | apply below_drew1) | exact HB.out))) : w.heap.size ≤ gb170)); clear HB; have HB := n0_; have BK170 := n1_; have GW170 := n2_; have GE170 := n3_; clear n0_ n1_ n2_ n3_; clear hb hbox hg; have hcz39_0 : w38.cell? ⟨gb170, 0, none⟩ = some (.string a0_0) := (blk_cell BK170.out 0).trans rfl; have hcz39_1 : w38.cell? ⟨gb170, 1, none⟩ = some (.string a0_1) := (blk_cell BK170.out 1).trans rfl; have hfz39_0 := blk_frozen BK170.out 0; have hfz39_1 := blk_frozen BK170.out 1) | ((with_reducible refine gate_callee (f := 44) rfl ?_); refine goesL_ (some 10) rfl rfl Tryd.func44 (by kernel_rfl) rfl #[.string a0_0] rfl (by (try simp only [List.map_toArray, List.map_cons, List.map_nil]); first | done | rfl | (simp only [List.length_drop, List.length_take]; rfl)) ?_; (with_reducible refine (pleacherref02_Valid.calls k a0_0 t171 true _ A2.out).mono ?_); rintro e w40 ⟨rfl, hb⟩; refine ⟨_, rfl, ?_⟩; have n0_ := Aside0.mk (blk_below (g := gb170) (o := .cells #[.string a0_0, .string a0_1] 31 (0, 0)) (by (with_reducible repeat (first | refine blk_drewN ?_ _ | refine blk_drew ?_ | refine blk_alloc ?_ _)); exact BK170.out) hb); have n1_ := Aside0.mk (below_step (by repeat (first | (with_reducible first | exact HB.out | apply below_alloc | apply pw_below_drewN | apply below_drew1 | refine below_set ?_ GE170.out) | exact HB.out)) hb); clear BK170; clear HB; have BK170 := n0_; have HB := n1_; clear n0_ n1_; (try clear hb); (try clear hb2); (try clear hk); (try clear hi); have hcz41_0 : w40.cell? ⟨gb170, 0, none⟩ = some (.string a0_0) := (blk_cell BK170.out 0).trans rfl; have hcz41_1 : w40.cell? ⟨gb170, 1, none⟩ = some (.string a0_1) := (blk_cell BK170.out 1).trans rfl; have hfz41_0 := blk_frozen BK170.out 0; have hfz41_1 := blk_frozen BK170.out 1) | ((with_reducible refine gate_callee (f := 44) rfl ?_); refine goesL_ (some 16) rfl rfl Tryd.func44 (by kernel_rfl) rfl #[.string a0_1] rfl (by (try simp only [List.map_toArray, List.map_cons, List.map_nil]); first | done | rfl | (simp only [List.length_drop, List.length_take]; rfl)) ?_; (with_reducible refine (pleacherref02_Valid.calls k a0_1 t173 true _ A3.out).mono ?_); rintro e w42 ⟨rfl, hb⟩; refine ⟨_, rfl, ?_⟩; have n0_ := Aside0.mk (blk_below (g := gb170) (o := .cells #[.string a0_0, .string a0_1] 31 (0, 0)) (by (with_reducible repeat (first | refine blk_drewN ?_ _ | refine blk_drew ?_ | refine blk_alloc ?_ _)); exact BK170.out) hb); have n1_ := Aside0.mk (below_step (by repeat (first | (with_reducible first | exact HB.out | apply below_alloc | apply pw_below_drewN | apply below_drew1 | refine below_set ?_ GE170.out) | exact HB.out)) hb); clear BK170; clear HB; have BK170 := n0_; have HB := n1_; clear n0_ n1_; (try clear hb); (try clear hb2); (try clear hk); (try clear hi); have hcz43_0 : w42.cell? ⟨gb170, 0, none⟩ = some (.string a0_0) := (blk_cell BK170.out 0).trans rfl; have hcz43_1 : w42.cell? ⟨gb170, 1, none⟩ = some (.string a0_1) := (blk_cell BK170.out 1).trans rfl; have hfz43_0 := blk_frozen BK170.out 0; have hfz43_1 := blk_frozen BK170.out 1))
          go_ret
          exact ⟨by first | rfl | (simp [errW_none, errW_some] <;> rfl) | (simp [*, errW_none, errW_some] <;> rfl), by repeat (first | (with_reducible first | exact HB.out | apply below_alloc | apply pw_below_drewN | apply below_drew1 | refine below_set ?_ GE170.out) | exact HB.out)⟩
      · rw [if_neg c6] at H
        have c6b0 : decide (1 ≤ (a0_0.size : Int)) = false := decide_eq_false c6
        have c6b1 : decide (1 ≤ a0_0.size) = false := decide_eq_false (by omega)
        clear c6
        obtain rfl := Option.some.inj H
        go_enter Tryd.func31, Tryd.ntmps31
        go_wp2_with (first | ((with_reducible refine gate_dst (N := 1) rfl ?_); (try (refine gate_guard (by rfl) ?_; dsimp only)); refine box_event ?hg (N := 1) ?hd (cs := #[.string a0_0, .string a0_1]) (t := 31) ?hr ?_; (case hd => rfl); (case hg => rfl); (case hr => first | (go_simp; done) | (go_simp; rfl)); intro gb170 hg w44 hbox hb; have n0_ := Aside0.mk (below_step (by repeat (first | (with_reducible first | exact HB.out | apply below_alloc | apply pw_below_drewN | apply below_drew1) | exact HB.out)) hb); have n1_ := Aside0.mk (hbox); have n2_ := Aside0.mk ((by rw [hg]; exact (below_size (by repeat (first | (with_reducible first | exact HB.out | apply below_alloc | apply pw_below_drewN | apply below_drew1) | exact HB.out))) : w.heap.size ≤ gb170)); have n3_ := Aside0.mk ((by rw [hg]; exact (below_size (by repeat (first | (with_reducible first | exact HB.out | apply below_alloc | apply pw_below_drewN | apply below_drew1) | exact HB.out))) : w.heap.size ≤ gb170)); clear HB; have HB := n0_; have BK170 := n1_; have GW170 := n2_; have GE170 := n3_; clear n0_ n1_ n2_ n3_; clear hb hbox hg; have hcz45_0 : w44.cell? ⟨gb170, 0, none⟩ = some (.string a0_0) := (blk_cell BK170.out 0).trans rfl; have hcz45_1 : w44.cell? ⟨gb170, 1, none⟩ = some (.string a0_1) := (blk_cell BK170.out 1).trans rfl; have hfz45_0 := blk_frozen BK170.out 0; have hfz45_1 := blk_frozen BK170.out 1) | ((with_reducible refine gate_callee (f := 44) rfl ?_); refine goesL_ (some 10) rfl rfl Tryd.func44 (by kernel_rfl) rfl #[.string a0_0] rfl (by (try simp only [List.map_toArray, List.map_cons, List.map_nil]); first | done | rfl | (simp only [List.length_drop, List.length_take]; rfl)) ?_; (with_reducible refine (pleacherref02_Valid.calls k a0_0 t171 true _ A2.out).mono ?_); rintro e w46 ⟨rfl, hb⟩; refine ⟨_, rfl, ?_⟩; have n0_ := Aside0.mk (blk_below (g := gb170) (o := .cells #[.string a0_0, .string a0_1] 31 (0, 0)) (by (with_reducible repeat (first | refine blk_drewN ?_ _ | refine blk_drew ?_ | refine blk_alloc ?_ _)); exact BK170.out) hb); have n1_ := Aside0.mk (below_step (by repeat (first | (with_reducible first | exact HB.out | apply below_alloc | apply pw_below_drewN | apply below_drew1 | refine below_set ?_ GE170.out) | exact HB.out)) hb); clear BK170; clear HB; have BK170 := n0_; have HB := n1_; clear n0_ n1_; (try clear hb); (try clear hb2); (try clear hk); (try clear hi); have hcz47_0 : w46.cell? ⟨gb170, 0, none⟩ = some (.string a0_0) := (blk_cell BK170.out 0).trans rfl; have hcz47_1 : w46.cell? ⟨gb170, 1, none⟩ = some (.string a0_1) := (blk_cell BK170.out 1).trans rfl; have hfz47_0 := blk_frozen BK170.out 0; have hfz47_1 := blk_frozen BK170.out 1) | ((with_reducible refine gate_callee (f := 44) rfl ?_); refine goesL_ (some 16) rfl rfl Tryd.func44 (by kernel_rfl) rfl #[.string a0_1] rfl (by (try simp only [List.map_toArray, List.map_cons, List.map_nil]); first | done | rfl | (simp only [List.length_drop, List.length_take]; rfl)) ?_; (with_reducible refine (pleacherref02_Valid.calls k a0_1 t173 true _ A3.out).mono ?_); rintro e w48 ⟨rfl, hb⟩; refine ⟨_, rfl, ?_⟩; have n0_ := Aside0.mk (blk_below (g := gb170) (o := .cells #[.string a0_0, .string a0_1] 31 (0, 0)) (by (with_reducible repeat (first | refine blk_drewN ?_ _ | refine blk_drew ?_ | refine blk_alloc ?_ _)); exact BK170.out) hb); have n1_ := Aside0.mk (below_step (by repeat (first | (with_reducible first | exact HB.out | apply below_alloc | apply pw_below_drewN | apply below_drew1 | refine below_set ?_ GE170.out) | exact HB.out)) hb); clear BK170; clear HB; have BK170 := n0_; have HB := n1_; clear n0_ n1_; (try clear hb); (try clear hb2); (try clear hk); (try clear hi); have hcz49_0 : w48.cell? ⟨gb170, 0, none⟩ = some (.string a0_0) := (blk_cell BK170.out 0).trans rfl; have hcz49_1 : w48.cell? ⟨gb170, 1, none⟩ = some (.string a0_1) := (blk_cell BK170.out 1).trans rfl; have hfz49_0 := blk_frozen BK170.out 0; have hfz49_1 := blk_frozen BK170.out 1))
        go_ret
        exact ⟨by first | rfl | (simp [errW_none, errW_some] <;> rfl) | (simp [*, errW_none, errW_some] <;> rfl), by repeat (first | (with_reducible first | exact HB.out | apply below_alloc | apply pw_below_drewN | apply below_drew1 | refine below_set ?_ GE170.out) | exact HB.out)⟩
    · replace c5 := Bool.eq_false_iff.mpr c5
      subst c5
      have H1 : (some false) = some r := by rw [if_neg (show ¬ (false = true) by decide)] at H; exact H
      clear H
      have H := H1
      clear H1
      obtain rfl := Option.some.inj H
      go_enter Tryd.func31, Tryd.ntmps31
      go_wp2_with (first | ((with_reducible refine gate_dst (N := 1) rfl ?_); (try (refine gate_guard (by rfl) ?_; dsimp only)); refine box_event ?hg (N := 1) ?hd (cs := #[.string a0_0, .string a0_1]) (t := 31) ?hr ?_; (case hd => rfl); (case hg => rfl); (case hr => first | (go_simp; done) | (go_simp; rfl)); intro gb170 hg w50 hbox hb; have n0_ := Aside0.mk (below_step (by repeat (first | (with_reducible first | exact HB.out | apply below_alloc | apply pw_below_drewN | apply below_drew1) | exact HB.out)) hb); have n1_ := Aside0.mk (hbox); have n2_ := Aside0.mk ((by rw [hg]; exact (below_size (by repeat (first | (with_reducible first | exact HB.out | apply below_alloc | apply pw_below_drewN | apply below_drew1) | exact HB.out))) : w.heap.size ≤ gb170)); have n3_ := Aside0.mk ((by rw [hg]; exact (below_size (by repeat (first | (with_reducible first | exact HB.out | apply below_alloc | apply pw_below_drewN | apply below_drew1) | exact HB.out))) : w.heap.size ≤ gb170)); clear HB; have HB := n0_; have BK170 := n1_; have GW170 := n2_; have GE170 := n3_; clear n0_ n1_ n2_ n3_; clear hb hbox hg; have hcz51_0 : w50.cell? ⟨gb170, 0, none⟩ = some (.string a0_0) := (blk_cell BK170.out 0).trans rfl; have hcz51_1 : w50.cell? ⟨gb170, 1, none⟩ = some (.string a0_1) := (blk_cell BK170.out 1).trans rfl; have hfz51_0 := blk_frozen BK170.out 0; have hfz51_1 := blk_frozen BK170.out 1) | ((with_reducible refine gate_callee (f := 44) rfl ?_); refine goesL_ (some 10) rfl rfl Tryd.func44 (by kernel_rfl) rfl #[.string a0_0] rfl (by (try simp only [List.map_toArray, List.map_cons, List.map_nil]); first | done | rfl | (simp only [List.length_drop, List.length_take]; rfl)) ?_; (with_reducible refine (pleacherref02_Valid.calls k a0_0 t171 true _ A2.out).mono ?_); rintro e w52 ⟨rfl, hb⟩; refine ⟨_, rfl, ?_⟩; have n0_ := Aside0.mk (blk_below (g := gb170) (o := .cells #[.string a0_0, .string a0_1] 31 (0, 0)) (by (with_reducible repeat (first | refine blk_drewN ?_ _ | refine blk_drew ?_ | refine blk_alloc ?_ _)); exact BK170.out) hb); have n1_ := Aside0.mk (below_step (by repeat (first | (with_reducible first | exact HB.out | apply below_alloc | apply pw_below_drewN | apply below_drew1 | refine below_set ?_ GE170.out) | exact HB.out)) hb); clear BK170; clear HB; have BK170 := n0_; have HB := n1_; clear n0_ n1_; (try clear hb); (try clear hb2); (try clear hk); (try clear hi); have hcz53_0 : w52.cell? ⟨gb170, 0, none⟩ = some (.string a0_0) := (blk_cell BK170.out 0).trans rfl; have hcz53_1 : w52.cell? ⟨gb170, 1, none⟩ = some (.string a0_1) := (blk_cell BK170.out 1).trans rfl; have hfz53_0 := blk_frozen BK170.out 0; have hfz53_1 := blk_frozen BK170.out 1) | ((with_reducible refine gate_callee (f := 44) rfl ?_); refine goesL_ (some 16) rfl rfl Tryd.func44 (by kernel_rfl) rfl #[.string a0_1] rfl (by (try simp only [List.map_toArray, List.map_cons, List.map_nil]); first | done | rfl | (simp only [List.length_drop, List.length_take]; rfl)) ?_; (with_reducible refine (pleacherref02_Valid.calls k a0_1 t173 false _ A3.out).mono ?_); rintro e w54 ⟨rfl, hb⟩; refine ⟨_, rfl, ?_⟩; have n0_ := Aside0.mk (blk_below (g := gb170) (o := .cells #[.string a0_0, .string a0_1] 31 (0, 0)) (by (with_reducible repeat (first | refine blk_drewN ?_ _ | refine blk_drew ?_ | refine blk_alloc ?_ _)); exact BK170.out) hb); have n1_ := Aside0.mk (below_step (by repeat (first | (with_reducible first | exact HB.out | apply below_alloc | apply pw_below_drewN | apply below_drew1 | refine below_set ?_ GE170.out) | exact HB.out)) hb); clear BK170; clear HB; have BK170 := n0_; have HB := n1_; clear n0_ n1_; (try clear hb); (try clear hb2); (try clear hk); (try clear hi)))
      go_ret
      exact ⟨by first | rfl | (simp [errW_none, errW_some] <;> rfl) | (simp [*, errW_none, errW_some] <;> rfl), by repeat (first | (with_reducible first | exact HB.out | apply below_alloc | apply pw_below_drewN | apply below_drew1 | refine below_set ?_ GE170.out) | exact HB.out)⟩
  · replace c4 := Bool.eq_false_iff.mpr c4
    subst c4
    have H1 : (some false) = some r := by rw [if_neg (show ¬ (false = true) by decide)] at H; exact H
    clear H
    have H := H1
    clear H1
    obtain rfl := Option.some.inj H
    go_enter Tryd.func31, Tryd.ntmps31
    go_wp2_with (first | ((with_reducible refine gate_dst (N := 1) rfl ?_); (try (refine gate_guard (by rfl) ?_; dsimp only)); refine box_event ?hg (N := 1) ?hd (cs := #[.string a0_0, .string a0_1]) (t := 31) ?hr ?_; (case hd => rfl); (case hg => rfl); (case hr => first | (go_simp; done) | (go_simp; rfl)); intro gb170 hg w55 hbox hb; have n0_ := Aside0.mk (below_step (by repeat (first | (with_reducible first | exact HB.out | apply below_alloc | apply pw_below_drewN | apply below_drew1) | exact HB.out)) hb); have n1_ := Aside0.mk (hbox); have n2_ := Aside0.mk ((by rw [hg]; exact (below_size (by repeat (first | (with_reducible first | exact HB.out | apply below_alloc | apply pw_below_drewN | apply below_drew1) | exact HB.out))) : w.heap.size ≤ gb170)); have n3_ := Aside0.mk ((by rw [hg]; exact (below_size (by repeat (first | (with_reducible first | exact HB.out | apply below_alloc | apply pw_below_drewN | apply below_drew1) | exact HB.out))) : w.heap.size ≤ gb170)); clear HB; have HB := n0_; have BK170 := n1_; have GW170 := n2_; have GE170 := n3_; clear n0_ n1_ n2_ n3_; clear hb hbox hg; have hcz56_0 : w55.cell? ⟨gb170, 0, none⟩ = some (.string a0_0) := (blk_cell BK170.out 0).trans rfl; have hcz56_1 : w55.cell? ⟨gb170, 1, none⟩ = some (.string a0_1) := (blk_cell BK170.out 1).trans rfl; have hfz56_0 := blk_frozen BK170.out 0; have hfz56_1 := blk_frozen BK170.out 1) | ((with_reducible refine gate_callee (f := 44) rfl ?_); refine goesL_ (some 10) rfl rfl Tryd.func44 (by kernel_rfl) rfl #[.string a0_0] rfl (by (try simp only [List.map_toArray, List.map_cons, List.map_nil]); first | done | rfl | (simp only [List.length_drop, List.length_take]; rfl)) ?_; (with_reducible refine (pleacherref02_Valid.calls k a0_0 t171 false _ A2.out).mono ?_); rintro e w57 ⟨rfl, hb⟩; refine ⟨_, rfl, ?_⟩; have n0_ := Aside0.mk (blk_below (g := gb170) (o := .cells #[.string a0_0, .string a0_1] 31 (0, 0)) (by (with_reducible repeat (first | refine blk_drewN ?_ _ | refine blk_drew ?_ | refine blk_alloc ?_ _)); exact BK170.out) hb); have n1_ := Aside0.mk (below_step (by repeat (first | (with_reducible first | exact HB.out | apply below_alloc | apply pw_below_drewN | apply below_drew1 | refine below_set ?_ GE170.out) | exact HB.out)) hb); clear BK170; clear HB; have BK170 := n0_; have HB := n1_; clear n0_ n1_; (try clear hb); (try clear hb2); (try clear hk); (try clear hi); have hcz58_0 : w57.cell? ⟨gb170, 0, none⟩ = some (.string a0_0) := (blk_cell BK170.out 0).trans rfl; have hcz58_1 : w57.cell? ⟨gb170, 1, none⟩ = some (.string a0_1) := (blk_cell BK170.out 1).trans rfl; have hfz58_0 := blk_frozen BK170.out 0; have hfz58_1 := blk_frozen BK170.out 1) | ((with_reducible refine gate_callee (f := 44) rfl ?_); refine goesL_ (some 16) rfl rfl Tryd.func44 (by kernel_rfl) rfl #[.string a0_1] rfl (by (try simp only [List.map_toArray, List.map_cons, List.map_nil]); first | done | rfl | (simp only [List.length_drop, List.length_take]; rfl)) ?_; (with_reducible refine (pleacherref02_Valid.calls k a0_1 t173 t174 _ A3.out).mono ?_); rintro e w59 ⟨rfl, hb⟩; refine ⟨_, rfl, ?_⟩; have n0_ := Aside0.mk (blk_below (g := gb170) (o := .cells #[.string a0_0, .string a0_1] 31 (0, 0)) (by (with_reducible repeat (first | refine blk_drewN ?_ _ | refine blk_drew ?_ | refine blk_alloc ?_ _)); exact BK170.out) hb); have n1_ := Aside0.mk (below_step (by repeat (first | (with_reducible first | exact HB.out | apply below_alloc | apply pw_below_drewN | apply below_drew1 | refine below_set ?_ GE170.out) | exact HB.out)) hb); clear BK170; clear HB; have BK170 := n0_; have HB := n1_; clear n0_ n1_; (try clear hb); (try clear hb2); (try clear hk); (try clear hi)))
    go_ret
    exact ⟨by first | rfl | (simp [errW_none, errW_some] <;> rfl) | (simp [*, errW_none, errW_some] <;> rfl), by repeat (first | (with_reducible first | exact HB.out | apply below_alloc | apply pw_below_drewN | apply below_drew1 | refine below_set ?_ GE170.out) | exact HB.out)⟩

end Go.Proofs.YtbcjhmeeonhmaaaDoor.M
end

/-
pax.One.
-/
section
set_option linter.unusedVariables false
set_option maxRecDepth 100000
namespace Go.Proofs.YtbcjhmeeonhmaaaDoor.H
open Go Go.RowKit Go.Proofs.YtbcjhmeeonhmaaaDoorW.PrintWords Go.Proofs.YtbcjhmeeonhmaaaDoorW.PrintMore Go.Proofs.YtbcjhmeeonhmaaaDoor.M

def has (s : ByteArray) (c : UInt8) : Bool := decide (0 ≤ Lib.indexByte s.data.toList c)
theorem has_iff (s : ByteArray) (c : UInt8) : has s c = true ↔ c ∈ s.data.toList := by
  unfold has
  rw [decide_eq_true_iff]
  induction s.data.toList with
  | nil => simp [Lib.indexByte]
  | cons b l ih =>
    unfold Lib.indexByte
    have hg := Lib.indexByte_ge l c
    by_cases h : b = c
    · subst h; simp
    · rw [if_neg (by simpa using h)]
      rw [List.mem_cons, ← ih]
      have h2 : ¬ c = b := fun e => h e.symm
      by_cases h3 : Lib.indexByte l c = -1
      · rw [if_pos (by simpa using h3), h3]; simp [h2]
      · rw [if_neg (by simpa using h3)]
        constructor
        · intro _; right; omega
        · rintro (e | e)
          · exact absurd e h2
          · omega
/-- Is it a record? -/
def isOneB (n v : ByteArray) : Bool :=
  if n.size = 0 then false else if n.size ≤ 400 then (if v.size ≤ 400 then
    (if (vld n).2 = true then (if has n 0 = true then false else (if (vld v).2 = true then (if has v 0 = true then false else !has n 61) else false)) else false) else false) else false
theorem valid_f (s : ByteArray) (h : s.size ≤ 400) : utf_Valid.f s = some (vld s) := by unfold utf_Valid.f; rw [if_pos (by omega)]
theorem contains_f (s : ByteArray) (c : UInt8) : strings_Contains.f s ⟨#[c]⟩ = some (has s c) := by unfold strings_Contains.f; rw [if_pos (by rfl)]; rfl
theorem areRunes_f (n v : ByteArray) (hn : n.size ≤ 400) (hv : v.size ≤ 400) : pax_areRunes.f 5 [n, v] =
    some (if (vld n).2 = true then (if has n 0 = true then false else (if (vld v).2 = true then (if has v 0 = true then false else true) else false)) else false) := by
  have e0 : rdOf ByteArray.empty [n, v] 0 = n := rfl
  have e1 : rdOf ByteArray.empty [n, v] 1 = v := rfl
  have hl : (([n, v] : List ByteArray).length : Int) = 2 := rfl
  unfold pax_areRunes.f
  rw [hl, pax_areRunes.l0, if_pos (by decide), if_pos (by decide), if_pos (by rw [hl]; decide), e0, valid_f n hn, Option.bind_some]
  by_cases h1 : (vld n).2 = true
  · rw [if_pos h1, if_pos h1, contains_f, Option.bind_some]
    by_cases h2 : has n 0 = true
    · rw [if_pos h2, if_pos h2]
    · rw [if_neg h2, if_neg h2, w64 (by decide) (by decide), show (0 : Int) + 1 = 1 from rfl, pax_areRunes.l0, if_pos (by decide), if_pos (by decide), if_pos (by rw [hl]; decide), e1, valid_f v hv, Option.bind_some]
      by_cases h3 : (vld v).2 = true
      · rw [if_pos h3, if_pos h3, contains_f, Option.bind_some]
        by_cases h4 : has v 0 = true
        · rw [if_pos h4, if_pos h4]
        · rw [if_neg h4, if_neg h4, w64 (by decide) (by decide), show (1 : Int) + 1 = 2 from rfl, pax_areRunes.l0, if_neg (by decide)]
      · rw [if_neg h3, if_neg h3]
  · rw [if_neg h1, if_neg h1]
theorem isOne_f (n v : ByteArray) : pax_isOne.f 5 n v = some (isOneB n v) := by
  unfold pax_isOne.f isOneB
  by_cases h0 : n.size = 0
  · rw [if_pos ((nil_iff n).2 h0), if_pos h0]
  · rw [if_neg (fun e => h0 ((nil_iff n).1 e)), if_neg h0]
    by_cases h1 : n.size ≤ 400
    · rw [if_pos (by omega), if_pos h1]
      by_cases h2 : v.size ≤ 400
      · rw [if_pos (by omega), if_pos h2, areRunes_f n v h1 h2, Option.bind_some]
        by_cases g1 : (vld n).2 = true
        · rw [if_pos g1, if_pos g1]
          by_cases g2 : has n 0 = true
          · rw [if_pos g2, if_pos g2, if_neg (by decide)]
          · rw [if_neg g2, if_neg g2]
            by_cases g3 : (vld v).2 = true
            · rw [if_pos g3, if_pos g3]
              by_cases g4 : has v 0 = true
              · rw [if_pos g4, if_pos g4, if_neg (by decide)]
              · rw [if_neg g4, if_neg g4, if_pos rfl, contains_f, Option.bind_some]
            · rw [if_neg g3, if_neg g3, if_neg (by decide)]
        · rw [if_neg g1, if_neg g1, if_neg (by decide)]
      · rw [if_neg (by omega), if_neg h2]
    · rw [if_neg (by omega), if_neg h1]
theorem isOneB_bd {n v : ByteArray} (h : isOneB n v = true) : n.size ≠ 0 ∧ n.size ≤ 400 ∧ v.size ≤ 400 := by
  unfold isOneB at h
  by_cases h0 : n.size = 0
  · rw [if_pos h0] at h; cases h
  · rw [if_neg h0] at h
    by_cases h1 : n.size ≤ 400
    · rw [if_pos h1] at h
      by_cases h2 : v.size ≤ 400
      · exact ⟨h0, h1, h2⟩
      · rw [if_neg h2] at h; cases h
    · rw [if_neg h1] at h; cases h
theorem has_f (s : ByteArray) (c : UInt8) (hs : s.size ≤ 1073741824) : ∀ (k i n : Nat), i + n = s.size → n ≤ k → pleacherref09_has.l0 (k + 1) s (c.toNat : Int) i = some (decide (c ∈ s.data.toList.drop i)) := by
  intro k
  induction k with
  | zero =>
    intro i n h1 h2
    rw [pleacherref09_has.l0, if_neg (by omega), List.drop_of_length_le (by rw [size_data]; omega)]; simp
  | succ k ih =>
    intro i n h1 h2
    by_cases hn : n = 0
    · rw [pleacherref09_has.l0, if_neg (by omega), List.drop_of_length_le (by rw [size_data]; omega)]; simp
    · have hi : i < s.size := by omega
      have hd : s.data.toList.drop i = (s[i]'hi) :: s.data.toList.drop (i + 1) := by
        have : i < s.data.toList.length := by rw [size_data]; exact hi
        rw [List.drop_eq_getElem_cons this]; rfl
      have hbt : ((s[i]'hi).toNat : Int) = bt s (i : Int) := bt_at s (i : Int) (by simpa using hi)
      rw [pleacherref09_has.l0, if_pos (by omega), if_pos (by omega), hd, ← hbt]
      by_cases he : s[i]'hi = c
      · rw [if_pos (by rw [he])]; simp [he]
      · rw [if_neg (fun e => he (u8_inj e)), w64 (by omega) (by omega), show (i : Int) + 1 = ((i + 1 : Nat) : Int) from by omega, ih (i + 1) (n - 1) (by omega) (by omega)]
        have h2 : ¬ c = s[i]'hi := fun e => he e.symm
        simp [h2]
theorem ref09_has (s : ByteArray) (c : UInt8) (hs : s.size ≤ 1073741824) (k : Nat) (hk : s.size + 1 ≤ k) : pleacherref09_has.f k s (c.toNat : Int) = some (has s c) := by
  obtain ⟨j, rfl⟩ : ∃ j, k = (s.size + j) + 1 := ⟨k - 1 - s.size, by omega⟩
  unfold pleacherref09_has.f
  have := has_f s c hs (s.size + j) 0 s.size (by omega) (by omega)
  rw [show ((0 : Nat) : Int) = 0 from rfl, List.drop_zero] at this
  rw [this]
  congr 1
  rw [Bool.eq_iff_iff, has_iff, decide_eq_true_iff]
theorem ref09_is (n v : ByteArray) (hn : n.size ≤ 1073741824) (hv : v.size ≤ 1073741824) (k : Nat) (h1 : n.size + 11 ≤ k) (h2 : v.size + 11 ≤ k) : pleacherref09_is.f k n v = some (isOneB n v) := by
  unfold pleacherref09_is.f isOneB
  rw [ref02_valid n hn k h1, ref02_valid v hv k h2]
  simp only [Option.bind_some]
  rw [show (61 : Int) = ((61 : UInt8).toNat : Int) from rfl, show (0 : Int) = ((0 : UInt8).toNat : Int) from rfl, ref09_has n 61 hn k (by omega), ref09_has n 0 hn k (by omega), ref09_has v 0 hv k (by omega)]
  simp only [Option.bind_some]
  by_cases h0 : n.size = 0
  · rw [if_pos h0]
    have a1 : ¬ (n.size : Int) ≥ 1 := by omega
    simp only [if_neg a1, ite_self]
  · have a1 : (n.size : Int) ≥ 1 := by omega
    rw [if_neg h0]
    simp only [if_pos a1]
    by_cases h1 : n.size ≤ 400
    · have a2 : (n.size : Int) ≤ 400 := by omega
      rw [if_pos h1]; simp only [if_pos a2]
      by_cases h2 : v.size ≤ 400
      · have a3 : (v.size : Int) ≤ 400 := by omega
        rw [if_pos h2]; simp only [if_pos a3]
        cases (vld n).2 <;> cases (vld v).2 <;> cases has n 0 <;> cases has v 0 <;> cases has n 61 <;> rfl
      · have a3 : ¬ (v.size : Int) ≤ 400 := by omega
        rw [if_neg h2]; simp only [if_neg a3, ite_self]
    · have a2 : ¬ (n.size : Int) ≤ 400 := by omega
      rw [if_neg h1]; simp only [if_neg a2, ite_self]
end Go.Proofs.YtbcjhmeeonhmaaaDoor.H
end

/-
pax.One and the document's One, walked.
-/
section
set_option linter.unusedVariables false
set_option maxRecDepth 100000
namespace Go.Proofs.YtbcjhmeeonhmaaaDoor.H
open Go Go.RowKit Go.Proofs.YtbcjhmeeonhmaaaDoorW.PrintWords Go.Proofs.YtbcjhmeeonhmaaaDoorW.PrintMore Go.Proofs.YtbcjhmeeonhmaaaDoor.M

def restS (n v : ByteArray) : ByteArray := ((((⟨#[32]⟩ : ByteArray) ++ n) ++ (⟨#[61]⟩ : ByteArray)) ++ v) ++ (⟨#[10]⟩ : ByteArray)
theorem restS_size (n v : ByteArray) : (restS n v).size = n.size + v.size + 3 := by
  unfold restS; simp only [ByteArray.size_append]
  have : ∀ a : UInt8, (⟨#[a]⟩ : ByteArray).size = 1 := fun _ => rfl
  rw [this, this, this]; omega
/-- How many digits. -/
def dgl (m : Nat) : Nat := (putS 10 m).size
theorem dgl_def (m : Nat) : dgl m = if m < 10 then 1 else dgl (m / 10) + 1 := by
  unfold dgl
  by_cases h : m < 10
  · rw [if_pos h, putS_stop (by omega), strOfNums_size]; rfl
  · rw [if_neg h, putS_more (by omega) (by omega), ByteArray.size_append, strOfNums_size]; rfl
theorem dgl_eq {m : Nat} (h : m < 10000) : dgl m = if m < 10 then 1 else if m < 100 then 2 else if m < 1000 then 3 else 4 := by
  rw [dgl_def]
  by_cases h1 : m < 10
  · rw [if_pos h1, if_pos h1]
  · rw [if_neg h1, if_neg h1, dgl_def]
    by_cases h2 : m < 100
    · rw [if_pos (by omega), if_pos h2]
    · rw [if_neg (by omega), if_neg h2, dgl_def]
      by_cases h3 : m < 1000
      · rw [if_pos (by omega), if_pos h3]
      · rw [if_neg (by omega), if_neg h3, dgl_def, if_pos (by omega)]
/-- The number that counts all. -/
def szL (L : Nat) : Nat := if dgl (L + dgl L) = dgl L then L + dgl L else L + dgl L + 1
theorem dgl_r {m : Nat} (h : m < 10000) : (m < 10 ∧ dgl m = 1) ∨ (10 ≤ m ∧ m < 100 ∧ dgl m = 2) ∨ (100 ≤ m ∧ m < 1000 ∧ dgl m = 3) ∨ (1000 ≤ m ∧ dgl m = 4) := by
  have e := dgl_eq h
  by_cases h1 : m < 10
  · rw [if_pos h1] at e; omega
  · rw [if_neg h1] at e
    by_cases h2 : m < 100
    · rw [if_pos h2] at e; omega
    · rw [if_neg h2] at e
      by_cases h3 : m < 1000
      · rw [if_pos h3] at e; omega
      · rw [if_neg h3] at e; omega
theorem szL_cases {L : Nat} (h0 : 3 ≤ L) (h1 : L ≤ 803) : (dgl (L + dgl L) = dgl L ∧ szL L = L + dgl L) ∨ (¬ dgl (L + dgl L) = dgl L ∧ dgl (L + dgl L) = dgl L + 1 ∧ dgl (L + (dgl L + 1)) = dgl L + 1 ∧ szL L = L + dgl L + 1) := by
  have r0 := dgl_r (m := L) (by omega)
  have r1 := dgl_r (m := L + dgl L) (by omega)
  have r2 := dgl_r (m := L + (dgl L + 1)) (by omega)
  unfold szL
  by_cases h : dgl (L + dgl L) = dgl L
  · left; exact ⟨h, if_pos h⟩
  · right
    refine ⟨h, by omega, by omega, if_neg h⟩
theorem szL_min {L : Nat} (h0 : 3 ≤ L) (h1 : L ≤ 803) : (dgl (szL L) + L = szL L ∧ L ≤ szL L ∧ szL L ≤ L + 4) ∧ ∀ n, L ≤ n → n < szL L → dgl n + L ≠ n := by
  have r0 := dgl_r (m := L) (by omega)
  have r1 := dgl_r (m := L + dgl L) (by omega)
  rcases szL_cases h0 h1 with ⟨a, b⟩ | ⟨a, a', a'', b⟩
  · rw [b]
    refine ⟨⟨by omega, by omega, by omega⟩, fun n hn hn2 e => ?_⟩
    have r2 := dgl_r (m := n) (by omega)
    omega
  · rw [b]
    refine ⟨⟨by rw [Nat.add_assoc, a'']; omega, by omega, by omega⟩, fun n hn hn2 e => ?_⟩
    have r2 := dgl_r (m := n) (by omega)
    have hne : n ≠ L + dgl L := by rintro rfl; omega
    omega
/-- A record's bytes. -/
def oneS (n v : ByteArray) : ByteArray × Int := if isOneB n v = true then (putS 10 (szL (restS n v).size) ++ restS n v, 0) else (⟨#[]⟩, 90)

theorem one_put (m : Nat) (h : m < 10000) (w : World) : Calls Tryd.prog 26 #[.int .i64 10, .int .u64 m] w fun e w' => e = .returned (.string (putS 10 m)) ∧ Below w.heap.size w w' :=
  put_of 10 m (by omega) (by omega) w (of10)

set_option maxHeartbeats 4000000 in
theorem one (n v : ByteArray) (w : World) : Calls Tryd.prog 15 #[.agg #[.string n, .string v]] w fun e w' => e = .returned (.tuple #[.string (oneS n v).1, .int .i64 (oneS n v).2]) ∧ Below w.heap.size w w' := by
  have hI := fun w => pax_isOne.calls 5 n v _ w (isOne_f n v)
  obtain ⟨y, hy⟩ : ∃ y, oneS n v = y := ⟨_, rfl⟩
  rw [hy]
  by_cases h : isOneB n v = true
  · rw [h] at hI
    have hbd := isOneB_bd h
    have HI := Lib.hid hI
    have HY : Hid (y = (putS 10 (szL (restS n v).size) ++ restS n v, 0)) := Lib.hid (by rw [← hy]; unfold oneS; rw [if_pos h])
    clear hI h hy
    obtain ⟨L, hL⟩ : ∃ L, (restS n v).size = L := ⟨_, rfl⟩
    have hLs := restS_size n v
    rw [hL] at hLs HY
    obtain ⟨_, hn, hv⟩ := hbd
    have hL0 : 3 ≤ L := by omega
    have hL1 : L ≤ 803 := by omega
    have hL2 : (1 : Int) + n.size + 1 + v.size + 1 = (L : Int) := by omega
    have hRS : ((((⟨#[32]⟩ : ByteArray) ++ n) ++ (⟨#[61]⟩ : ByteArray)) ++ v) ++ (⟨#[10]⟩ : ByteArray) = restS n v := rfl
    obtain ⟨rs, hrs⟩ : ∃ rs, restS n v = rs := ⟨_, rfl⟩
    rw [hrs] at hRS hL HY
    have HLS := Lib.hid hLs
    clear hLs
    have hc := szL_cases hL0 hL1
    have HC := Lib.hid hc
    have hd0 : dgl L ≤ 3 := by have := dgl_r (m := L) (by omega); omega
    clear hc hrs
    obtain ⟨p0, hp0⟩ : ∃ p0, putS 10 L = p0 := ⟨_, rfl⟩
    have hs0 : p0.size = dgl L := by rw [← hp0]; rfl
    obtain ⟨d0, hd0'⟩ : ∃ d0, dgl L = d0 := ⟨_, rfl⟩
    have k0 := cel_new w #[.string n, .string v] 31 0 rfl
    have k1 := cel_new w #[.string n, .string v] 31 1 rfl
    have HK0 := Lib.hid k0
    have HK1 := Lib.hid k1
    clear k0 k1
    go_enter Tryd.func15, Tryd.ntmps15
    go_wp2_with fail
    refine (HI.out _).mono ?_
    rintro e w1 ⟨rfl, hb1⟩
    have k0 := celB hb1 HK0.out
    have k1 := celB hb1 HK1.out
    have hB1 := below_tr (below_one w (.cells #[.string n, .string v] 31)) hb1
    have HP := one_put L (by omega) w1
    rw [hp0] at HP
    have HP0 := Lib.hid HP
    rw [hd0'] at hs0 HC hd0
    have HH0 := Lib.hid hp0
    clear HP hp0
    go_wp2_with fail
    refine HP0.out.mono ?_
    rintro e w2 ⟨rfl, hb2⟩
    have hB2 := below_tr hB1 hb2
    go_wp2
    obtain ⟨S, hS⟩ : ∃ S, L + d0 = S := ⟨_, rfl⟩
    have hsum : (L : Int) + (d0 : Int) = (S : Int) := by omega
    have hsw : IntKind.u64.wrap (S : Int) = S := wrap_u64 _ (by omega) (by omega)
    have hS4 : S ≤ 900 := by omega
    rw [hS] at HC
    rcases HC.out with ⟨a, b⟩ | ⟨a, a', a'', b⟩
    · obtain ⟨p1, hp1⟩ : ∃ p1, putS 10 S = p1 := ⟨_, rfl⟩
      have hs1 : p1.size = d0 := by rw [← hp1]; exact a
      have HP := one_put S (by omega) w2
      rw [hp1] at HP
      have HP1 := Lib.hid HP
      have HH1 := Lib.hid hp1
      have HB := Lib.hid b
      clear HP hp1 a b hS
      refine wp_loop_rounds 1 ?_
      rw [rounds_succ]
      go_wp2_with fail
      refine HP1.out.mono ?_
      rintro e w3 ⟨rfl, hb3⟩
      have hB3 := below_tr hB2 hb3
      go_wp2
      refine bodyPost_ret (v := .tuple #[.string (p1 ++ rs), .int .i64 0]) (by simp [results, Tryd.results15, go_sem]) rfl ⟨?_, hB3⟩
      rw [HY.out, HB.out, HH1.out]
    · obtain ⟨p1, hp1⟩ : ∃ p1, putS 10 S = p1 := ⟨_, rfl⟩
      obtain ⟨d1, hd1⟩ : ∃ d1, d0 + 1 = d1 := ⟨_, rfl⟩
      obtain ⟨S1, hS1⟩ : ∃ S1, L + d1 = S1 := ⟨_, rfl⟩
      have hs1 : p1.size = d1 := by rw [← hp1, ← hd1]; exact a'
      have hs2 : dgl S1 = d1 := by rw [← hS1, ← hd1]; exact a''
      have hsum1 : (L : Int) + (d1 : Int) = (S1 : Int) := by omega
      have hsw1 : IntKind.u64.wrap (S1 : Int) = S1 := wrap_u64 _ (by omega) (by omega)
      obtain ⟨p2, hp2⟩ : ∃ p2, putS 10 S1 = p2 := ⟨_, rfl⟩
      have hs3 : p2.size = d1 := by rw [← hp2]; exact hs2
      have hne : ¬ (d1 : Int) = (d0 : Int) := by omega
      have hb' : szL L = S1 := by omega
      have hS5 : S1 ≤ 900 := by omega
      have HP := one_put S (by omega) w2
      rw [hp1] at HP
      have HP1 := Lib.hid HP
      have HPP := fun w => one_put S1 (by omega) w
      rw [hp2] at HPP
      have HP2 := Lib.hid HPP
      have HH2 := Lib.hid hp2
      have HB := Lib.hid hb'
      clear HP HPP hp1 hp2 a a' a'' b hb' hS hS1 hd1 hs2
      refine wp_loop_rounds 2 ?_
      rw [rounds_succ]
      go_wp2_with fail
      refine HP1.out.mono ?_
      rintro e w3 ⟨rfl, hb3⟩
      have hB3 := below_tr hB2 hb3
      go_wp2
      rw [rounds_succ]
      go_wp2_with fail
      refine (HP2.out w3).mono ?_
      rintro e w4 ⟨rfl, hb4⟩
      have hB4 := below_tr hB3 hb4
      go_wp2
      refine bodyPost_ret (v := .tuple #[.string (p2 ++ rs), .int .i64 0]) (by simp [results, Tryd.results15, go_sem]) rfl ⟨?_, hB4⟩
      rw [HY.out, HB.out, HH2.out]
  · have hf : isOneB n v = false := by simpa using h
    rw [hf] at hI
    have HI := Lib.hid hI
    have HY : Hid (y = (⟨#[]⟩, 90)) := Lib.hid (by rw [← hy]; unfold oneS; rw [if_neg h])
    clear hI h hy hf
    go_enter Tryd.func15, Tryd.ntmps15
    go_wp2_with fail
    refine (HI.out _).mono ?_
    rintro e w1 ⟨rfl, hb1⟩
    have hB1 := below_tr (below_one w (.cells #[.string n, .string v] 31)) hb1
    go_wp2
    refine bodyPost_ret (v := .tuple #[.string ⟨#[]⟩, .int .i64 90]) (by simp [results, Tryd.results15, go_sem]) rfl ⟨?_, hB1⟩
    rw [HY.out]

theorem ref_put (m : Nat) (h : m < 10000) (w : World) : Calls Tryd.prog 32 #[.int .i64 10, .int .u64 m] w fun e w' => e = .returned (.string (putS 10 m)) ∧ Below w.heap.size w w' :=
  (pleacherref03_Put.calls 65 10 m _ w (ref03_put 10 (by omega) 64 m (by omega) (by omega))).mono fun e w' h => ⟨h.1, h.2.below⟩
theorem ref_is (n v : ByteArray) (hn : n.size ≤ 1073741824) (hv : v.size ≤ 1073741824) (w : World) : Calls Tryd.prog 31 #[.agg #[.string n, .string v]] w fun e w' => e = .returned (.bool (isOneB n v)) ∧ Below w.heap.size w w' :=
  (pleacherref09_is.calls (n.size + v.size + 11) n v _ w (ref09_is n v hn hv _ (by omega) (by omega))).mono fun e w' h => ⟨h.1, by first | exact h.2 | exact h.2.below⟩
set_option maxHeartbeats 4000000 in
theorem refOne (n v : ByteArray) (hn : n.size ≤ 1073741824) (hv : v.size ≤ 1073741824) (w : World) : Calls Tryd.prog 19 #[.agg #[.string n, .string v]] w fun e w' => e = .returned (.tuple #[.string (oneS n v).1, .int .i64 (oneS n v).2]) ∧ Below w.heap.size w w' := by
  have hI := fun w => ref_is n v hn hv w
  obtain ⟨y, hy⟩ : ∃ y, oneS n v = y := ⟨_, rfl⟩
  rw [hy]
  clear hn hv
  by_cases h : isOneB n v = true
  · rw [h] at hI
    have hbd := isOneB_bd h
    have HI := Lib.hid hI
    have HY : Hid (y = (putS 10 (szL (restS n v).size) ++ restS n v, 0)) := Lib.hid (by rw [← hy]; unfold oneS; rw [if_pos h])
    clear hI h hy
    obtain ⟨L, hL⟩ : ∃ L, (restS n v).size = L := ⟨_, rfl⟩
    have hLs := restS_size n v
    rw [hL] at hLs HY
    obtain ⟨_, hn, hv⟩ := hbd
    have hL0 : 3 ≤ L := by omega
    have hL1 : L ≤ 803 := by omega
    have hL2 : (1 : Int) + n.size + 1 + v.size + 1 = (L : Int) := by omega
    have hRS : ((((⟨#[32]⟩ : ByteArray) ++ n) ++ (⟨#[61]⟩ : ByteArray)) ++ v) ++ (⟨#[10]⟩ : ByteArray) = restS n v := rfl
    obtain ⟨rs, hrs⟩ : ∃ rs, restS n v = rs := ⟨_, rfl⟩
    rw [hrs] at hRS hL HY
    have HLS := Lib.hid hLs
    clear hLs hrs
    have hc := szL_min hL0 hL1
    obtain ⟨Z, hZ⟩ : ∃ Z, szL L = Z := ⟨_, rfl⟩
    rw [hZ] at hc HY
    clear hZ
    obtain ⟨⟨hz1, hz2, hz3⟩, hmin⟩ := hc
    have HZ1 := Lib.hid hz1
    have HMIN := Lib.hid hmin
    clear hz1 hmin
    have k0 := cel_new w #[.string n, .string v] 31 0 rfl
    have k1 := cel_new w #[.string n, .string v] 31 1 rfl
    have HK0 := Lib.hid k0
    have HK1 := Lib.hid k1
    clear k0 k1
    go_enter Tryd.func19, Tryd.ntmps19
    go_wp2_with fail
    refine (HI.out _).mono ?_
    rintro e w1 ⟨rfl, hb1⟩
    have k0 := celB hb1 HK0.out
    have k1 := celB hb1 HK1.out
    have hB1 := below_tr (below_one w (.cells #[.string n, .string v] 31)) hb1
    go_wp2
    go_loopw [5] (fun x wr => ∃ m : Nat, x = .int .i64 m ∧ L ≤ m ∧ m ≤ Z ∧ Below w.heap.size w wr) (fun x _ => Z - (intOf x).toNat)
    case atStart => exact ⟨L, rfl, Nat.le_refl _, hz2, hB1⟩
    case round =>
      obtain ⟨m, rfl, hm1, hm2, hB⟩ := hrel
      obtain ⟨p1, hp1⟩ : ∃ p1, putS 10 m = p1 := ⟨_, rfl⟩
      obtain ⟨d, hd⟩ : ∃ d, dgl m = d := ⟨_, rfl⟩
      have hs1 : p1.size = d := by rw [← hp1]; exact hd
      have hdr : d ≤ 4 := by have := dgl_r (m := m) (by omega); omega
      have HPP := fun w => one_put m (by omega) w
      have HRP := fun w => ref_put m (by omega) w
      rw [hp1] at HPP HRP
      have HRP' := Lib.hid HRP
      have HH := Lib.hid hp1
      have HHD := Lib.hid hd
      clear HPP HRP hp1 hd
      go_wp2_with fail
      refine (HRP'.out wr).mono ?_
      rintro e w3 ⟨rfl, hb3⟩
      have hB3 := below_tr hB hb3
      by_cases hz : m = Z
      · have he : (d : Int) + (L : Int) = (m : Int) := by have := HZ1.out; rw [← hz, HHD.out] at this; omega
        have HZZ := Lib.hid hz
        clear hz
        go_wp2_with fail
        refine (HRP'.out w3).mono ?_
        rintro e w4 ⟨rfl, hb4⟩
        have hB4 := below_tr hB3 hb4
        go_wp2
        refine bodyPost_ret (v := .tuple #[.string (p1 ++ rs), .int .i64 0]) (by simp [results, Tryd.results19, go_sem]) rfl ⟨?_, hB4⟩
        rw [HY.out, ← HZZ.out, HH.out]
      · have he : ((d : Int) + (L : Int) == (m : Int)) = false := by
          have := HMIN.out m hm1 (by omega); rw [HHD.out] at this
          rw [beq_eq_false_iff_ne]; omega
        have he' : ¬ (d : Int) + (L : Int) = (m : Int) := by simpa using he
        go_wp2
        go_roundw
        case rel => exact ⟨m + 1, by go_num, by omega, by omega, hB3⟩
        case measure => simp [intOf]; omega
  · have hf : isOneB n v = false := by simpa using h
    rw [hf] at hI
    have HI := Lib.hid hI
    have HY : Hid (y = (⟨#[]⟩, 90)) := Lib.hid (by rw [← hy]; unfold oneS; rw [if_neg h])
    clear hI h hy hf
    go_enter Tryd.func19, Tryd.ntmps19
    go_wp2_with fail
    refine (HI.out _).mono ?_
    rintro e w1 ⟨rfl, hb1⟩
    have hB1 := below_tr (below_one w (.cells #[.string n, .string v] 31)) hb1
    go_wp2
    refine bodyPost_ret (v := .tuple #[.string ⟨#[]⟩, .int .i64 90]) (by simp [results, Tryd.results19, go_sem]) rfl ⟨?_, hB1⟩
    rw [HY.out]
end Go.Proofs.YtbcjhmeeonhmaaaDoor.H
end

/-
num.Own.
-/
section
set_option linter.unusedVariables false
set_option maxRecDepth 100000
namespace Go.Proofs.YtbcjhmeeonhmaaaDoor.H
open Go Go.RowKit

theorem num_Own (b : Nat) (hb : b = 8 ∨ b = 10 ∨ b = 16) (s : ByteArray) (w : World) (hG : GW w) :
    Calls Tryd.prog 48 #[.int .i64 b, .string s] w fun e w' => e = .returned (.tuple #[.int .u64 (ownC b s).1, .int .i64 (ownC b s).2]) ∧ Below w.heap.size w w' := by
  obtain ⟨x, hx⟩ : ∃ x, getC b s = x := ⟨_, rfl⟩
  obtain ⟨n, e⟩ := x
  have hbd := getC_bd b hb s
  have hG1 := num_Get b hb s w hG
  have hO : ownC b s = if e = 0 ∧ putS b n.toNat ≠ s then (0, 30) else (n, e) := by unfold ownC; rw [hx]
  rw [hx] at hbd hG1
  obtain ⟨y, hy⟩ : ∃ y, ownC b s = y := ⟨_, rfl⟩
  rw [hy] at hO ⊢
  have HO := Lib.hid hO
  have HG1 := Lib.hid hG1
  clear hG1 hO hy
  obtain ⟨h0, h1, h2⟩ := hbd
  obtain ⟨m, rfl⟩ := Int.eq_ofNat_of_zero_le (show 0 ≤ n from h0)
  have H1 := Lib.hid h1
  have HB := Lib.hid hb
  clear h1 hb hx h0
  by_cases he : e = 0
  · subst he
    clear h2
    by_cases hp : putS b m = s
    · go_enter Tryd.func48, Tryd.ntmps48
      go_wp2_with fail
      refine HG1.out.mono ?_
      rintro e w1 ⟨rfl, hb1⟩
      have hP := put_of b m HB.out (by have := H1.out; omega) w1 (ofs b HB.out)
      have HH := Lib.hid hp
      rw [hp] at hP
      have HP := Lib.hid hP
      clear hp hP
      go_wp2_with fail
      refine HP.out.mono ?_
      rintro e w2 ⟨rfl, hb2⟩
      go_wp2
      refine bodyPost_ret (v := .tuple #[.int .u64 (m : Int), .int .i64 0]) (by simp [results, Tryd.results48, go_sem]) rfl ⟨?_, hb1.trans (hb2.mono hb1.size)⟩
      rw [HO.out, if_neg (fun h => h.2 (by simpa using HH.out))]
    · go_enter Tryd.func48, Tryd.ntmps48
      go_wp2_with fail
      refine HG1.out.mono ?_
      rintro e w1 ⟨rfl, hb1⟩
      have hP := put_of b m HB.out (by have := H1.out; omega) w1 (ofs b HB.out)
      have HH := Lib.hid hp
      obtain ⟨p, hpp⟩ : ∃ p, putS b m = p := ⟨_, rfl⟩
      rw [hpp] at hp hP
      have HP := Lib.hid hP
      have hne : (p.toList == s.toList) = false := by simpa using fun e => hp (toList_inj.1 e)
      clear hp hpp hP
      go_wp2_with fail
      refine HP.out.mono ?_
      rintro e w2 ⟨rfl, hb2⟩
      have hB2 : Below w.heap.size w w2 := hb1.trans (hb2.mono hb1.size)
      obtain ⟨a, b', ca, cb, ta, tb, g1, g2, gg⟩ := id (hG.below hB2)
      have HT := Lib.hid (told .num _ w2 (hG.below hB2) g2)
      go_wp2_with fail
      refine HT.out.mono ?_
      rintro e w3 ⟨rfl, rfl⟩
      go_wp2
      refine bodyPost_ret (v := .tuple #[.int .u64 0, .int .i64 30]) (by simp [results, Tryd.results48, go_sem, Er.code]) rfl ⟨?_, hB2⟩
      rw [HO.out, if_pos ⟨trivial, by simpa using HH.out⟩]
  · rcases h2 with h2 | h2
    · exact absurd h2 he
    · have hm : m = 0 := by injection h2 with h2 _; omega
      have h30 : e = 30 := by injection h2
      subst hm h30
      clear h2
      go_enter Tryd.func48, Tryd.ntmps48
      go_wp2_with fail
      refine HG1.out.mono ?_
      rintro e w1 ⟨rfl, hb1⟩
      go_wp2
      exact bodyPost_ret (v := .tuple #[.int .u64 0, .int .i64 30]) (by simp [results, Tryd.results48, go_sem]) rfl ⟨by rw [HO.out]; simp, hb1⟩
end Go.Proofs.YtbcjhmeeonhmaaaDoor.H
end

section
set_option linter.unusedVariables false
namespace Go.Proofs.YtbcjhmeeonhmaaaDoor.H
open Go Go.RowKit

/-- strings.Cut at one byte. -/
def cutS (s : ByteArray) (c : UInt8) : ByteArray × ByteArray × Bool :=
  if 0 ≤ Lib.indexByte s.data.toList c then (s.extract 0 (Lib.indexByte s.data.toList c).toNat, s.extract ((Lib.indexByte s.data.toList c).toNat + 1) s.size, true) else (s, ⟨#[]⟩, false)

set_option maxHeartbeats 400000 in
theorem cut0 (s : ByteArray) (c : UInt8) (w : World) (hs : s.size ≤ 1073741824) : Calls Tryd.prog 60 #[.string s, .string ⟨#[c]⟩] w fun e w' => e = .returned (.tuple #[.string (cutS s c).1, .string (cutS s c).2.1, .bool (cutS s c).2.2]) ∧ Below w.heap.size w w' := by
  obtain ⟨i, hi⟩ : ∃ i, Lib.indexByte s.data.toList c = i := ⟨_, rfl⟩
  have hlt : ∀ k : Nat, i = k → k < s.size := fun k hk => by
    have := (Lib.indexByte_some (hi.trans hk)).1
    have := (List.getElem?_eq_some_iff.1 this).1
    rwa [size_data] at this
  have HI := Lib.hid hi
  clear hi
  by_cases h0 : 0 ≤ i
  · obtain ⟨k, rfl⟩ := Int.eq_ofNat_of_zero_le h0
    go_enter Tryd.func60, Tryd.ntmps60
    go_wp2_with fail
    refine (Tryd.stringslite_Index_one s c _).mono ?_
    rintro e w1 ⟨rfl, rfl⟩
    rw [HI.out]
    have hk := hlt k rfl
    clear hlt
    have hs1 := fun (W : World) => run_slice_string_h (P := Tryd.prog) W 9 s Tryd.underlying9 .i64 (k : Int) (by omega) (by omega)
    have hs2 := fun (W : World) => run_slice_string_l (P := Tryd.prog) W 9 s Tryd.underlying9 .i64 ((k : Int) + 1) (by omega) (by omega)
    go_wp2
    go_quiet (fail)
    go_wp2
    go_ret3
    exact ⟨by unfold cutS; rw [HI.out, if_pos h0]; rfl, below_drN (Below.refl _ _) _⟩
  · go_enter Tryd.func60, Tryd.ntmps60
    go_wp2_with fail
    refine (Tryd.stringslite_Index_one s c _).mono ?_
    rintro e w1 ⟨rfl, rfl⟩
    rw [HI.out]
    clear hlt
    go_wp2
    go_ret3
    exact ⟨by unfold cutS; rw [HI.out, if_neg (by omega)]; rfl, Below.refl _ _⟩

set_option maxHeartbeats 400000 in
theorem cut (s : ByteArray) (c : UInt8) (w : World) (hs : s.size ≤ 1073741824) : Calls Tryd.prog 47 #[.string s, .string ⟨#[c]⟩] w fun e w' => e = .returned (.tuple #[.string (cutS s c).1, .string (cutS s c).2.1, .bool (cutS s c).2.2]) ∧ Below w.heap.size w w' := by
  go_enter Tryd.func47, Tryd.ntmps47
  go_wp2_with fail
  refine (cut0 s c _ hs).mono ?_
  rintro e w1 ⟨rfl, hb⟩
  go_wp2
  go_ret3
  exact ⟨rfl, hb⟩
end Go.Proofs.YtbcjhmeeonhmaaaDoor.H
end

/-
pax's names: a map of those met, and how many.
-/
section
set_option linter.unusedVariables false
set_option maxRecDepth 100000
namespace Go.Proofs.YtbcjhmeeonhmaaaDoor.H
open Go Go.RowKit
section
variable {P : Program} {t kt et : TypeId} {k : IntKind}
theorem run_update_hit {d : TypeDesc} (hu : P.underlying t = some (.map kt et)) (hk : P.underlying kt = some d) {key : Value} (hc : ∀ b w, (Instr.checkKey b 10000 kt key).run P w = .ok () w) {w : World} {r : Nat} {es : Array MapEntry} {c : Nat} (h : w.heap[r]? = some (.map es c)) {i : Nat} {v0 : Value} (hf : Instr.findNow d key es.toList 0 = some (some (i, v0)))
    (hs : Instr.sameBits 10000 (((es[i]?).map (·.key)).getD key) key = true) (v : Value) :
    (Instr.mapUpdate t (.map (some r)) key v).run P w = .ok () (w.putObj r (.map (es.modify i fun e => { e with key := key, val := v }) c)) := by
  simp [Instr.mapUpdate, run_underlying hu, run_getObj_map h, hc, run_findKey hk _ _ _ hf, run_setObj_map _ h, Result.andThen, Instr.keyThatStays, hs]
end
theorem ba_beq (a b : ByteArray) : (a == b) = decide (a = b) := by
  cases a with | mk a => cases b with | mk b =>
  show (a == b) = _
  by_cases h : a = b
  · subst h; simp
  · have : (a == b) = false := by simpa using h
    rw [this]; simp [h]
instance : LawfulBEq ByteArray where
  eq_of_beq h := by rw [ba_beq, decide_eq_true_iff] at h; exact h
  rfl := by intro a; rw [ba_beq]; simp
theorem fn_none (s : ByteArray) : ∀ (l : List MapEntry) (i : Nat), (∀ x ∈ l, ∃ t, x.key = .string t ∧ t ≠ s) → Instr.findNow .string (.string s) l i = some none
  | [], _, _ => rfl
  | e :: l, i, h => by
    obtain ⟨t, ht, hne⟩ := h e (List.mem_cons_self ..)
    unfold Instr.findNow
    rw [ht]
    have : (s == t) = false := by rw [ba_beq, decide_eq_false_iff_not]; exact fun h => hne h.symm
    simp only [Instr.sameNow, this]
    exact fn_none s l (i + 1) (fun x hx => h x (List.mem_cons_of_mem _ hx))
theorem fn_split (s : ByteArray) (e : MapEntry) (post : List MapEntry) (he : e.key = .string s) : ∀ (l : List MapEntry) (i : Nat), (∀ x ∈ l, ∃ t, x.key = .string t ∧ t ≠ s) → Instr.findNow .string (.string s) (l ++ e :: post) i = some (some (i + l.length, e.val))
  | [], i, _ => by
    show Instr.findNow .string (.string s) (e :: post) i = _
    unfold Instr.findNow
    rw [he]
    have : (s == s) = true := by rw [ba_beq]; simp
    simp [Instr.sameNow, this]
  | x :: l, i, h => by
    obtain ⟨t, ht, hne⟩ := h x (List.mem_cons_self ..)
    show Instr.findNow .string (.string s) (x :: (l ++ e :: post)) i = _
    unfold Instr.findNow
    rw [ht]
    have : (s == t) = false := by rw [ba_beq, decide_eq_false_iff_not]; exact fun h => hne h.symm
    simp only [Instr.sameNow, this]
    rw [fn_split s e post he l (i + 1) (fun x hx => h x (List.mem_cons_of_mem _ hx)), List.length_cons]
    congr 3; omega

theorem modify_at {α : Type} (f : α → α) (x : α) (post : List α) : ∀ pre : List α, (pre ++ x :: post).modify pre.length f = pre ++ f x :: post
  | [] => by simp
  | y :: pre => by
    show (y :: (pre ++ x :: post)).modify (pre.length + 1) f = _
    rw [List.modify_succ_cons, modify_at f x post pre]; rfl
/-- The entries of names met once each. -/
def NE (es : Array MapEntry) (ns : List ByteArray) : Prop := es.toList.map (·.key) = ns.map Value.string ∧ ∀ e ∈ es.toList, e.val = .int .i64 1
theorem NE.miss {es : Array MapEntry} {ns : List ByteArray} (h : NE es ns) {s : ByteArray} (hs : s ∉ ns) : Instr.findNow .string (.string s) es.toList 0 = some none := by
  refine fn_none s _ _ (fun x hx => ?_)
  have : x.key ∈ ns.map Value.string := by rw [← h.1]; exact List.mem_map_of_mem hx
  obtain ⟨t, ht, e⟩ := List.mem_map.1 this
  exact ⟨t, e.symm, fun e => hs (e ▸ ht)⟩
theorem NE.push {es : Array MapEntry} {ns : List ByteArray} (h : NE es ns) (s : ByteArray) (b : Nat) : NE (es.push { key := .string s, val := .int .i64 1, born := b }) (ns ++ [s]) := by
  refine ⟨by simp [h.1], fun e he => ?_⟩
  rw [Array.toList_push, List.mem_append] at he
  rcases he with he | he
  · exact h.2 e he
  · rw [List.mem_singleton] at he; rw [he]
theorem NE.push_hit {es : Array MapEntry} {ns : List ByteArray} (h : NE es ns) {s : ByteArray} (hs : s ∉ ns) (b : Nat) (v : Value) : ∃ i, Instr.findNow .string (.string s) (es.push { key := .string s, val := v, born := b }).toList 0 = some (some (i, v)) := by
  refine ⟨es.toList.length, ?_⟩
  rw [Array.toList_push, fn_split s _ [] rfl]
  · simp
  · intro x hx
    have : x.key ∈ ns.map Value.string := by rw [← h.1]; exact List.mem_map_of_mem hx
    obtain ⟨t, ht, e⟩ := List.mem_map.1 this
    exact ⟨t, e.symm, fun e => hs (e ▸ ht)⟩
theorem NE.hit {es : Array MapEntry} {ns : List ByteArray} (h : NE es ns) {s : ByteArray} (hs : s ∈ ns) : ∃ i, Instr.findNow .string (.string s) es.toList 0 = some (some (i, .int .i64 1)) ∧ Instr.sameBits 10000 (((es[i]?).map (·.key)).getD (.string s)) (.string s) = true ∧
    ∀ v, ∃ j, Instr.findNow .string (.string s) (es.modify i fun e => { e with key := .string s, val := v }).toList 0 = some (some (j, v)) := by
  obtain ⟨as', bs, e, hn⟩ := List.eq_append_cons_of_mem hs
  have h1 := h.1
  rw [e, List.map_append, List.map_cons] at h1
  obtain ⟨pre, r, hl, hp, hr⟩ := List.map_eq_append_iff.1 h1
  obtain ⟨x, post, rfl, hx, hpost⟩ := List.map_eq_cons_iff.1 hr
  have hpre : ∀ y ∈ pre, ∃ t, y.key = .string t ∧ t ≠ s := fun y hy => by
    have : y.key ∈ as'.map Value.string := by rw [← hp]; exact List.mem_map_of_mem hy
    obtain ⟨t, ht, e⟩ := List.mem_map.1 this
    exact ⟨t, e.symm, fun e => hn (e ▸ ht)⟩
  have hv : x.val = .int .i64 1 := h.2 x (by rw [hl]; simp)
  have hat : es[pre.length]? = some x := by
    rw [← Array.getElem?_toList, hl]; simp
  refine ⟨pre.length, ?_, ?_, fun v => ⟨pre.length, ?_⟩⟩
  · rw [hl, fn_split s x post hx pre 0 hpre, hv]; simp
  · rw [hat]; simp [hx, Instr.sameBits, ba_beq]
  · rw [Array.toList_modify, hl, modify_at]
    rw [fn_split s _ post rfl pre 0 hpre]; simp

/-- Blocks B and M alone have changed. -/
def Two (B M : Nat) (w w' : World) : Prop := w'.os = w.os ∧ w'.tape = w.tape ∧ w'.output = w.output ∧ w.heap.size ≤ w'.heap.size ∧ ∀ i, i < w.heap.size → i ≠ B → i ≠ M → w'.heap[i]? = w.heap[i]?
theorem Two.below {B M X : Nat} {w w1 w' : World} (h : Below X w w1) (t : Two B M w1 w') (hB : X ≤ B) (hM : X ≤ M) (hX : X ≤ w1.heap.size) : Below X w w' :=
  h.trans ⟨t.1, t.2.1, t.2.2.1, t.2.2.2.1, fun i hi => t.2.2.2.2 i (by omega) (by omega) (by omega)⟩
/-- The names met. -/
def Met (B M : Nat) (ns : List ByteArray) (w : World) : Prop := ∃ (es : Array MapEntry) (k : Nat), w.cell? ⟨B, 0, none⟩ = some (.map (some M)) ∧ w.cell? ⟨B, 1, none⟩ = some (.int .i32 ns.length) ∧ w.frozen? ⟨B, 1, none⟩ = false ∧ w.heap[M]? = some (.map es k) ∧ NE es ns ∧ B ≠ M
theorem Met.same {B M : Nat} {ns : List ByteArray} {w w' : World} (h : Met B M ns w) (h1 : w'.heap[B]? = w.heap[B]?) (h2 : w'.heap[M]? = w.heap[M]?) : Met B M ns w' := by
  obtain ⟨es, k, a1, a2, a3, a4, a5, a6⟩ := h
  refine ⟨es, k, ?_, ?_, ?_, h2.trans a4, a5, a6⟩
  all_goals
    unfold World.cell? World.frozen? at *
    simp only [] at *
    rw [h1]; assumption
theorem Met.below {B M : Nat} {ns : List ByteArray} {w w' : World} (h : Met B M ns w) (hb : Below w.heap.size w w') : Met B M ns w' := by
  obtain ⟨es, k, a1, a2, a3, a4, a5, a6⟩ := id h
  exact h.same (hb.block _ (World.block_lt_of_cell? w _ a1)) (hb.block _ (Array.getElem?_eq_some_iff.1 a4).1)

theorem cell_putObj {w : World} {r : Nat} {o : Obj} {a : Addr} (h : a.block ≠ r) : (w.putObj r o).cell? a = w.cell? a := by
  unfold World.cell?; rw [World.putObj_heap_other h]
theorem frozen_putObj {w : World} {r : Nat} {o : Obj} {a : Addr} (h : a.block ≠ r) : (w.putObj r o).frozen? a = w.frozen? a := by
  unfold World.frozen?; rw [World.putObj_heap_other h]
end Go.Proofs.YtbcjhmeeonhmaaaDoor.H
end

/-
(*pax.names).isNew, walked.
-/
section
set_option linter.unusedVariables false
set_option maxRecDepth 100000
namespace Go.Proofs.YtbcjhmeeonhmaaaDoor.H
open Go Go.RowKit

theorem wrap_i32 (x : Int) (h0 : 0 ≤ x) (h1 : x < 2147483648) : IntKind.i32.wrap x = x := by
  simp [IntKind.wrap, IntKind.bits, IntKind.signed]; omega
theorem shape_set (w : World) (B i : Nat) (v : Value) : (w.setCell ⟨B, i, none⟩ v).shape? B = w.shape? B := by
  unfold World.shape? World.setCell
  simp only [Array.getElem?_modify, if_true]
  cases h : w.heap[B]? with
  | none => simp
  | some o => cases o <;> simp
theorem addI (x : Int) (B : Nat) {w : World} (hc : w.cell? ⟨B, 1, none⟩ = some (.int .i32 x)) (hz : w.frozen? ⟨B, 1, none⟩ = false) (h0 : 0 ≤ x) (h1 : x ≤ 100000) :
    (callFunc 57 #[.pointer (some ⟨B, 1, none⟩), .int .i32 1]).run Tryd.prog w = .ok (.value (.int .i32 (x + 1))) (w.setCell ⟨B, 1, none⟩ (.int .i32 (x + 1))) :=
  run_call_add Tryd.func57 (by kernel_rfl) (by kernel_rfl) (by kernel_rfl) .i32 (by kernel_rfl) hc hz (by have := wrap_i32 (x + 1) (by omega) (by omega); go_simp)
theorem keepM {w : World} {M : Nat} {o : Obj} {B i : Nat} {v : Value} (hM : M ≠ B) (h : w.heap[M]? = some o) : (w.setCell ⟨B, i, none⟩ v).heap[M]? = some o := by
  rw [heap_setCell_other _ _ _ _ hM]; exact h

theorem zeroInt (w : World) : (zeroValue 3).run Tryd.prog w = .ok (.int .i64 0) w := by go_simp
set_option maxHeartbeats 2000000 in
theorem isNew (B M : Nat) (ns : List ByteArray) (s : ByteArray) (w : World) (h : Met B M ns w) (hn : ns.length ≤ 100000) :
    Calls Tryd.prog 28 #[.pointer (some ⟨B, 0, none⟩), .string s] w fun e w' => e = .returned (.bool (decide (ns.length + 1 ≤ 30) && decide (s ∉ ns))) ∧ Two B M w w' ∧ (s ∉ ns → Met B M (ns ++ [s]) w') ∧ w'.shape? B = w.shape? B := by
  obtain ⟨es, k, a1, a2, a3, a4, a5, a6⟩ := h
  have hM := (Array.getElem?_eq_some_iff.1 a4).1
  by_cases hs : s ∈ ns
  · obtain ⟨i, f1, f2, f3⟩ := a5.hit hs
    obtain ⟨j, f3⟩ := f3 (.int .i64 2)
    have hl := run_lookup_hit (P := Tryd.prog) (t := 63) Tryd.underlying63 Tryd.underlying9 (run_checkKey_string Tryd.underlying9 · s ·) a4 f1 false
    have hu := run_update_hit (P := Tryd.prog) (t := 63) Tryd.underlying63 Tryd.underlying9 (run_checkKey_string Tryd.underlying9 · s ·) a4 f1 f2 (.int .i64 2)
    simp only [Bool.false_eq_true, if_false] at hl
    generalize (es.modify i fun e => { e with key := Value.string s, val := .int .i64 2 }) = es' at f3 hu
    have t1 : Two B M w (w.putObj M (.map es' k)) := ⟨rfl, rfl, rfl, by rw [World.putObj_size]; exact Nat.le_refl _, fun i _ _ h => World.putObj_heap_other h⟩
    obtain ⟨W1, hW1⟩ : ∃ W1, w.putObj M (.map es' k) = W1 := ⟨_, rfl⟩
    rw [hW1] at hu t1
    have b1 : W1.cell? ⟨B, 0, none⟩ = some (.map (some M)) := by rw [← hW1, cell_putObj a6]; exact a1
    have b2 : W1.cell? ⟨B, 1, none⟩ = some (.int .i32 ns.length) := by rw [← hW1, cell_putObj a6]; exact a2
    have b3 : W1.frozen? ⟨B, 1, none⟩ = false := by rw [← hW1, frozen_putObj a6]; exact a3
    have b4 : W1.heap[M]? = some (.map es' k) := by rw [← hW1]; exact World.putObj_heap_same hM
    have hadd := addI ns.length B b2 b3 (by omega) (by omega)
    obtain ⟨W2, hW2⟩ : ∃ W2, W1.setCell ⟨B, 1, none⟩ (.int .i32 (ns.length + 1)) = W2 := ⟨_, rfl⟩
    rw [hW2] at hadd
    have c1 : W2.cell? ⟨B, 0, none⟩ = some (.map (some M)) := by rw [← hW2, World.cell?_setCell_other _ _ _ _ (by intro e; injection e with _ e _; omega)]; exact b1
    have c4 : W2.heap[M]? = some (.map es' k) := by rw [← hW2]; exact keepM (Ne.symm a6) b4
    have t2 : Two B M w W2 := by
      have g := Lib.grownBy_setCell W1 B 1 (.int .i32 (ns.length + 1))
      rw [hW2] at g
      exact ⟨g.os.trans t1.1, g.tape.trans t1.2.1, g.output.trans t1.2.2.1, Nat.le_trans t1.2.2.2.1 g.size, fun i hi h1 h2 => (g.block i (Nat.lt_of_lt_of_le hi t1.2.2.2.1) (by intro e; cases e; exact h1 rfl)).trans (t1.2.2.2.2 i hi h1 h2)⟩
    have hl2 := run_lookup_hit (P := Tryd.prog) (t := 63) Tryd.underlying63 Tryd.underlying9 (run_checkKey_string Tryd.underlying9 · s ·) c4 f3 false
    simp only [Bool.false_eq_true, if_false] at hl2
    have hsn : decide (s ∉ ns) = false := by simpa using hs
    rw [hsn, Bool.and_false]
    have hsh : W2.shape? B = w.shape? B := by rw [← hW2, shape_set, ← hW1]; unfold World.shape?; rw [World.putObj_heap_other a6]
    clear hW1 hW2 hsn f1 f2 f3 a5 b4
    have HS := Lib.hid hs
    clear hs
    by_cases h30 : ns.length + 1 ≤ 30
    · go_enter Tryd.func28, Tryd.ntmps28
      go_wp2
      go_ret
      exact ⟨rfl, t2, fun h => absurd HS.out h, hsh⟩
    · go_enter Tryd.func28, Tryd.ntmps28
      go_wp2
      go_ret
      exact ⟨rfl, t2, fun h => absurd HS.out h, hsh⟩
  · have hl := run_lookup_miss (P := Tryd.prog) (t := 63) Tryd.underlying63 Tryd.underlying9 (run_checkKey_string Tryd.underlying9 · s ·) a4 (a5.miss hs) (z := .int .i64 0) zeroInt false
    have hu := run_update_new (P := Tryd.prog) (t := 63) Tryd.underlying63 Tryd.underlying9 (run_checkKey_string Tryd.underlying9 · s ·) a4 (a5.miss hs) (.int .i64 1)
    simp only [Bool.false_eq_true, if_false] at hl
    have hne := a5.push s k
    obtain ⟨j, f3⟩ := a5.push_hit hs k (.int .i64 1)
    generalize (es.push { key := Value.string s, val := .int .i64 1, born := k }) = es' at f3 hu hne
    have t1 : Two B M w (w.putObj M (.map es' (k + 1))) := ⟨rfl, rfl, rfl, by rw [World.putObj_size]; exact Nat.le_refl _, fun i _ _ h => World.putObj_heap_other h⟩
    obtain ⟨W1, hW1⟩ : ∃ W1, w.putObj M (.map es' (k + 1)) = W1 := ⟨_, rfl⟩
    rw [hW1] at hu t1
    have b1 : W1.cell? ⟨B, 0, none⟩ = some (.map (some M)) := by rw [← hW1, cell_putObj a6]; exact a1
    have b2 : W1.cell? ⟨B, 1, none⟩ = some (.int .i32 ns.length) := by rw [← hW1, cell_putObj a6]; exact a2
    have b3 : W1.frozen? ⟨B, 1, none⟩ = false := by rw [← hW1, frozen_putObj a6]; exact a3
    have b4 : W1.heap[M]? = some (.map es' (k + 1)) := by rw [← hW1]; exact World.putObj_heap_same hM
    have hadd := addI ns.length B b2 b3 (by omega) (by omega)
    have c2 : (W1.setCell ⟨B, 1, none⟩ (.int .i32 (ns.length + 1))).cell? ⟨B, 1, none⟩ = some (.int .i32 (ns.length + 1)) := World.cell?_setCell_same' _ _ _ (by rw [b2]; rfl)
    have c3 : (W1.setCell ⟨B, 1, none⟩ (.int .i32 (ns.length + 1))).frozen? ⟨B, 1, none⟩ = false := by rw [World.frozen?_setCell]; exact b3
    obtain ⟨W2, hW2⟩ : ∃ W2, W1.setCell ⟨B, 1, none⟩ (.int .i32 (ns.length + 1)) = W2 := ⟨_, rfl⟩
    rw [hW2] at hadd c2 c3
    have c1 : W2.cell? ⟨B, 0, none⟩ = some (.map (some M)) := by rw [← hW2, World.cell?_setCell_other _ _ _ _ (by intro e; injection e with _ e _; omega)]; exact b1
    have c4 : W2.heap[M]? = some (.map es' (k + 1)) := by rw [← hW2]; exact keepM (Ne.symm a6) b4
    have t2 : Two B M w W2 := by
      have g := Lib.grownBy_setCell W1 B 1 (.int .i32 (ns.length + 1))
      rw [hW2] at g
      exact ⟨g.os.trans t1.1, g.tape.trans t1.2.1, g.output.trans t1.2.2.1, Nat.le_trans t1.2.2.2.1 g.size, fun i hi h1 h2 => (g.block i (Nat.lt_of_lt_of_le hi t1.2.2.2.1) (by intro e; cases e; exact h1 rfl)).trans (t1.2.2.2.2 i hi h1 h2)⟩
    have hl2 := run_lookup_hit (P := Tryd.prog) (t := 63) Tryd.underlying63 Tryd.underlying9 (run_checkKey_string Tryd.underlying9 · s ·) c4 f3 false
    simp only [Bool.false_eq_true, if_false] at hl2
    have hmet : Met B M (ns ++ [s]) W2 := ⟨es', k + 1, c1, by rw [List.length_append, List.length_singleton]; exact c2, c3, c4, hne, a6⟩
    have hsn : decide (s ∉ ns) = true := by simpa using hs
    rw [hsn, Bool.and_true]
    have hsh : W2.shape? B = w.shape? B := by rw [← hW2, shape_set, ← hW1]; unfold World.shape?; rw [World.putObj_heap_other a6]
    clear hW1 hW2 hsn f3 a5 b4 hne hs
    by_cases h30 : ns.length + 1 ≤ 30
    · go_enter Tryd.func28, Tryd.ntmps28
      go_wp2
      go_ret
      exact ⟨ret_bool (by simp <;> omega), t2, fun _ => hmet, hsh⟩
    · go_enter Tryd.func28, Tryd.ntmps28
      go_wp2
      go_ret
      exact ⟨ret_bool (by simp <;> omega), t2, fun _ => hmet, hsh⟩
end Go.Proofs.YtbcjhmeeonhmaaaDoor.H
end

/-
(*pax.reader).first, walked.
-/
section
set_option linter.unusedVariables false
set_option maxRecDepth 100000
namespace Go.Proofs.YtbcjhmeeonhmaaaDoor.H
open Go Go.RowKit Go.Proofs.YtbcjhmeeonhmaaaDoorW.PrintWords Go.Proofs.YtbcjhmeeonhmaaaDoorW.PrintMore Go.Proofs.YtbcjhmeeonhmaaaDoor.M

/-- A scope left by gotos to a label behind which nothing jumps. -/
theorem wp_scope_once {P : Program} {a : Act} {w : World} {Q : Exit → Act → World → Prop} {c rest : Code} (l : Nat) (hf : findLabel c l = some rest)
    (first : c.wp P (Exit.jump l (fun a w => rest.wp P (Exit.noGoto Q) a w) Q) a w) : (Code.scope c).wp P Q a w :=
  wp_scope_jumps l (fun a w => rest.wp P (Exit.noGoto Q) a w) (fun _ _ => 0) hf first (fun a w h => wp_mono h (fun e a w hq => by cases e <;> first | exact hq | exact hq.elim))

/-- The record that bytes begin with: its name, value, and how many bytes. -/
def firstS (t : ByteArray) : Option (ByteArray × ByteArray × Nat) :=
  if (cutS t 32).2.2 = true ∧ (cutS t 32).1.size ≤ 5 then
    (if (ownC 10 (cutS t 32).1).2 = 0 ∧ (ownC 10 (cutS t 32).1).1 ≤ t.size ∧ (cutS t 32).1.size + 2 ≤ (ownC 10 (cutS t 32).1).1 then
      (if (cutS (t.extract ((cutS t 32).1.size + 1) ((ownC 10 (cutS t 32).1).1.toNat - 1)) 61).2.2 = true then
        (if (oneS (cutS (t.extract ((cutS t 32).1.size + 1) ((ownC 10 (cutS t 32).1).1.toNat - 1)) 61).1 (cutS (t.extract ((cutS t 32).1.size + 1) ((ownC 10 (cutS t 32).1).1.toNat - 1)) 61).2.1).2 = 0 ∧
            (oneS (cutS (t.extract ((cutS t 32).1.size + 1) ((ownC 10 (cutS t 32).1).1.toNat - 1)) 61).1 (cutS (t.extract ((cutS t 32).1.size + 1) ((ownC 10 (cutS t 32).1).1.toNat - 1)) 61).2.1).1 = t.extract 0 (ownC 10 (cutS t 32).1).1.toNat then
          some ((cutS (t.extract ((cutS t 32).1.size + 1) ((ownC 10 (cutS t 32).1).1.toNat - 1)) 61).1, (cutS (t.extract ((cutS t 32).1.size + 1) ((ownC 10 (cutS t 32).1).1.toNat - 1)) 61).2.1, (ownC 10 (cutS t 32).1).1.toNat)
        else none) else none) else none) else none

def RdAt (R : Nat) (t : ByteArray) (sz : Nat) (ev : Value) (w : World) : Prop := w.heap[R]? = some (.cells #[.string t, .int .i64 sz, ev] 47 (0, 0))
theorem RdAt.c0 {R : Nat} {t : ByteArray} {sz : Nat} {ev : Value} {w : World} (h : RdAt R t sz ev w) : w.cell? ⟨R, 0, none⟩ = some (.string t) := by unfold RdAt at h; simp [World.cell?, h]
theorem RdAt.c1 {R : Nat} {t : ByteArray} {sz : Nat} {ev : Value} {w : World} (h : RdAt R t sz ev w) : w.cell? ⟨R, 1, none⟩ = some (.int .i64 sz) := by unfold RdAt at h; simp [World.cell?, h]
theorem RdAt.c2 {R : Nat} {t : ByteArray} {sz : Nat} {ev : Value} {w : World} (h : RdAt R t sz ev w) : w.cell? ⟨R, 2, none⟩ = some ev := by unfold RdAt at h; simp [World.cell?, h]
theorem RdAt.f {R : Nat} {t : ByteArray} {sz : Nat} {ev : Value} {w : World} (h : RdAt R t sz ev w) (i : Nat) : w.frozen? ⟨R, i, none⟩ = false := by unfold RdAt at h; simp [World.frozen?, h]
theorem RdAt.same {R : Nat} {t : ByteArray} {sz : Nat} {ev : Value} {w w' : World} (h : RdAt R t sz ev w) (k : w'.heap[R]? = w.heap[R]?) : RdAt R t sz ev w' := k.trans h
theorem RdAt.below {R : Nat} {t : ByteArray} {sz : Nat} {ev : Value} {w w' : World} (h : RdAt R t sz ev w) (k : Below w.heap.size w w') : RdAt R t sz ev w' := heapB k (lt_of_heap h) h
theorem RdAt.set {R : Nat} {t : ByteArray} {sz : Nat} {ev : Value} {w : World} (h : RdAt R t sz ev w) (t' : ByteArray) : RdAt R t' sz ev (w.setCell ⟨R, 0, none⟩ (.string t')) := by
  unfold RdAt at h ⊢; simp [World.setCell, Array.getElem?_modify, h]
theorem RdAt.fail {R : Nat} {t : ByteArray} {sz : Nat} {ev : Value} {w : World} (h : RdAt R t sz ev w) (v : Value) : RdAt R t sz v (w.setCell ⟨R, 2, none⟩ v) := by
  unfold RdAt at h ⊢; simp [World.setCell, Array.getElem?_modify, h]

theorem heap_al {w : World} {i : Nat} {o : Obj} (h : w.heap[i]? = some o) (o' : Obj) : (w.alloc o').heap[i]? = some o := heapB (below_one w o') (lt_of_heap h) h
def FirstPost (R : Nat) (t : ByteArray) (sz : Nat) (ev : Value) (w : World) (e : Ending) (w' : World) : Prop := w.grownBy w' (some R) ∧
  ((firstS t = none ∧ e = .returned (.tuple #[.agg #[.string ⟨#[]⟩, .string ⟨#[]⟩], .bool false]) ∧ RdAt R t sz ev w') ∨
   (∃ n v k, firstS t = some (n, v, k) ∧ e = .returned (.tuple #[.agg #[.string n, .string v], .bool true]) ∧ RdAt R (t.extract k t.size) sz ev w'))

/-- A block of two cells. -/
theorem two_cells {W : World} {b : Nat} {x y : Value} {T : TypeId} (h : W.heap[b]? = some (.cells #[x, y] T)) : W.cell? ⟨b, 0, none⟩ = some x ∧ W.cell? ⟨b, 1, none⟩ = some y ∧ ∀ i, W.frozen? ⟨b, i, none⟩ = false :=
  ⟨by simp [World.cell?, h], by simp [World.cell?, h], fun i => by simp [World.frozen?, h]⟩
theorem two_set {W : World} {b : Nat} {x y : Value} {T : TypeId} (h : W.heap[b]? = some (.cells #[x, y] T)) (x' y' : Value) : ((W.setCell ⟨b, 0, none⟩ x').setCell ⟨b, 1, none⟩ y').heap[b]? = some (.cells #[x', y'] T) := by
  simp [World.setCell, Array.getElem?_modify, h]
theorem grown_new {w W : World} {row : Option Nat} (h : w.grownBy W row) {b : Nat} (hb : w.heap.size ≤ b) (i : Nat) (v : Value) : w.grownBy (W.setCell ⟨b, i, none⟩ v) row :=
  ⟨h.os, h.tape, h.output, by have := h.size; simpa [World.setCell] using this, fun k hk hr => (heap_setCell_other _ _ _ _ (by simp only []; omega)).trans (h.block k hk hr)⟩
theorem grown_tr {w W W' : World} {row : Option Nat} (h : w.grownBy W row) (k : Below W.heap.size W W') : w.grownBy W' row :=
  ⟨k.os.trans h.os, k.tape.trans h.tape, k.output.trans h.output, Nat.le_trans h.size k.size, fun i hi hr => (k.block i (Nat.lt_of_lt_of_le hi h.size)).trans (h.block i hi hr)⟩
theorem none_end {R b : Nat} {t : ByteArray} {sz : Nat} {ev x y x' y' : Value} {T : TypeId} {w W : World} (hg : w.grownBy W (some R)) (hR : RdAt R t sz ev W) (hb : w.heap.size ≤ b) (hRb : R < b) (hx : W.heap[b]? = some (.cells #[x, y] T)) :
    w.grownBy ((W.setCell ⟨b, 0, none⟩ x').setCell ⟨b, 1, none⟩ y') (some R) ∧ RdAt R t sz ev ((W.setCell ⟨b, 0, none⟩ x').setCell ⟨b, 1, none⟩ y') ∧ ((W.setCell ⟨b, 0, none⟩ x').setCell ⟨b, 1, none⟩ y').cell? ⟨b, 0, none⟩ = some x' ∧ ((W.setCell ⟨b, 0, none⟩ x').setCell ⟨b, 1, none⟩ y').cell? ⟨b, 1, none⟩ = some y' := by
  have h := two_cells (two_set hx x' y')
  refine ⟨grown_new (grown_new hg hb _ _) hb _ _, hR.same ?_, h.1, h.2.1⟩
  rw [heap_setCell_other _ _ _ _ (by simp only []; omega), heap_setCell_other _ _ _ _ (by simp only []; omega)]

/-- What firstS asks, step by step. -/
theorem firstS_1 {t d d2 : ByteArray} {ok : Bool} (hc : cutS t 32 = (d, d2, ok)) (h : ¬ (ok = true ∧ d.size ≤ 5)) : firstS t = none := by unfold firstS; rw [hc]; rw [if_neg h]
theorem firstS_2 {t d d2 : ByteArray} (hc : cutS t 32 = (d, d2, true)) (hd : d.size ≤ 5) {n e : Int} (ho : ownC 10 d = (n, e)) (h : ¬ (e = 0 ∧ n ≤ (t.size : Int) ∧ (d.size : Int) + 2 ≤ n)) : firstS t = none := by
  unfold firstS; rw [hc]; simp only []; rw [if_pos ⟨trivial, hd⟩, ho]; simp only []; rw [if_neg h]
theorem firstS_3 {t d d2 : ByteArray} (hc : cutS t 32 = (d, d2, true)) (hd : d.size ≤ 5) {n : Nat} (ho : ownC 10 d = ((n : Int), 0)) (h : n ≤ t.size ∧ d.size + 2 ≤ n) {f v : ByteArray} {ok : Bool} (hb : cutS (t.extract (d.size + 1) (n - 1)) 61 = (f, v, ok)) :
    firstS t = if ok = true then (if (oneS f v).2 = 0 ∧ (oneS f v).1 = t.extract 0 n then some (f, v, n) else none) else none := by
  unfold firstS; rw [hc]; simp only []; rw [if_pos ⟨trivial, hd⟩, ho]; simp only []; rw [if_pos ⟨trivial, by omega, by omega⟩, Int.toNat_natCast, hb]

set_option maxHeartbeats 8000000 in
theorem first (R : Nat) (t : ByteArray) (sz : Nat) (ev : Value) (w : World) (hG : GW w) (hR : RdAt R t sz ev w) (ht : t.size ≤ 1073741824) :
    Calls Tryd.prog 34 #[.pointer (some ⟨R, 0, none⟩)] w (FirstPost R t sz ev w) := by
  have c0 := hR.c0
  have hC := fun w => cut t 32 w ht
  obtain ⟨c, hc⟩ : ∃ c, cutS t 32 = c := ⟨_, rfl⟩
  have hds : (cutS t 32).1.size ≤ t.size := by unfold cutS; split <;> simp <;> omega
  obtain ⟨d, d2, ok⟩ := c
  rw [hc] at hC hds
  simp only [] at hC hds
  have HCC := Lib.hid hc
  have HC := Lib.hid hC
  clear hc hC
  have hRlt := lt_of_heap hR
  obtain ⟨b0, hb0⟩ : ∃ b0, w.heap.size = b0 := ⟨_, rfl⟩
  obtain ⟨W0, hW0⟩ : ∃ W0, (w.alloc (.cells #[.string ⟨#[]⟩, .string ⟨#[]⟩] 31)).alloc (.cells #[.string ⟨#[]⟩, .string ⟨#[]⟩] 31) = W0 := ⟨_, rfl⟩
  have hB0 : Below b0 w W0 := by rw [← hW0, ← hb0]; exact ((Below.refl _ w).alloc (Nat.le_refl _) _).alloc (by simp) _
  have hz0 : W0.heap.size = b0 + 2 := by rw [← hW0, ← hb0]; simp
  have hx0 : W0.heap[b0]? = some (.cells #[.string ⟨#[]⟩, .string ⟨#[]⟩] 31) := by rw [← hW0, ← hb0]; exact heap_al (World.alloc_heap_new _ _) _
  have hx1 : W0.heap[b0 + 1]? = some (.cells #[.string ⟨#[]⟩, .string ⟨#[]⟩] 31) := by rw [← hW0, ← hb0]; simpa using World.alloc_heap_new (w.alloc (.cells #[.string ⟨#[]⟩, .string ⟨#[]⟩] 31)) (.cells #[.string ⟨#[]⟩, .string ⟨#[]⟩] 31)
  have hR0 : RdAt R t sz ev W0 := hR.same (hB0.block R (by omega))
  have c00 := hR0.c0
  have HC0 := HC.out W0
  have HC1 := Lib.hid HC0
  clear HC0 HC
  have hws : IntKind.u64.wrap (t.size : Int) = t.size := wrap_u64 _ (by omega) (by omega)
  have HO : ∀ w, GW w → Calls Tryd.prog 48 #[.int .i64 10, .string d] w fun e w' => e = .returned (.tuple #[.int .u64 (ownC 10 d).1, .int .i64 (ownC 10 d).2]) ∧ Below w.heap.size w w' := fun w h => num_Own 10 (by omega) d w h
  obtain ⟨o, ho⟩ : ∃ o, ownC 10 d = o := ⟨_, rfl⟩
  have hob : 0 ≤ (ownC 10 d).1 ∧ (ownC 10 d).1 < 18446744073709551616 := by
    have h := getC_bd 10 (by omega) d
    unfold ownC; split
    · exact ⟨by decide, by decide⟩
    · exact ⟨h.1, h.2.1⟩
  rw [ho] at HO hob
  obtain ⟨n, e⟩ := o
  simp only [] at hob
  obtain ⟨n, rfl⟩ := Int.eq_ofNat_of_zero_le hob.1
  have HN64 := Lib.hid hob.2
  have HT := Lib.hid ht
  have HOO := Lib.hid ho
  have HO1 := Lib.hid HO
  clear ho HO hob ht
  go_enter Tryd.func34, Tryd.ntmps34
  go_wp2
  refine wp_scope_once 0 rfl ?_
  go_wp2_with fail
  refine HC1.out.mono ?_
  rintro _ w1 ⟨rfl, hb1⟩
  have hB1 : Below b0 w w1 := hB0.trans (hb1.mono (by omega))
  have hG1 : w.grownBy w1 (some R) := ⟨hB1.os, hB1.tape, hB1.output, hB1.size, fun i hi _ => hB1.block i (by omega)⟩
  have hR1 := hR0.below hb1
  have hy0 := heapB hb1 (by omega) hx0
  have hy1 := heapB hb1 (by omega) hx1
  clear hW0 hb1 hB0 hx0 hx1 HC1
  cases ok with
  | false =>
    obtain ⟨y00, y01, y02⟩ := two_cells hy0
    go_wp2
    refine wp_goto ?_
    go_wp2
    refine ⟨rfl, ?_⟩
    go_wp2
    obtain ⟨e1, e2, e3, e4⟩ := none_end (x' := .string ⟨#[]⟩) (y' := .string ⟨#[]⟩) hG1 hR1 (by omega) (by omega) hy0
    simp only [Exit.noGoto]
    exact bodyPost_ret (v := .tuple #[.agg #[.string ⟨#[]⟩, .string ⟨#[]⟩], .bool false]) (by simp [results, Tryd.results34, go_sem, e3, e4]) rfl ⟨e1, .inl ⟨firstS_1 HCC.out (by simp), rfl, e2⟩⟩
  | true =>
    by_cases h5 : d.size ≤ 5
    · have h5b : decide ((5 : Int) < (d.size : Int)) = false := by simp; omega
      have H5 := Lib.hid h5
      have HW := Lib.hid (HO1.out w1 (hG.below (hB1.mono (by omega))))
      go_wp2_with fail
      refine HW.out.mono ?_
      rintro _ w2 ⟨rfl, hb2⟩
      have hB2 : Below b0 w w2 := hB1.trans (hb2.mono (by have := hB1.size; omega))
      have hG2 := grown_tr hG1 hb2
      have hR2 := hR1.below hb2
      have hz1 := lt_of_heap hy1
      have hy0 := heapB hb2 (by omega) hy0
      have hy1 := heapB hb2 (by omega) hy1
      obtain ⟨y00, y01, y02⟩ := two_cells hy0
      obtain ⟨x00, x01, x02⟩ := two_cells hy1
      have c02 := hR2.c0
      simp only []
      by_cases hok : e = 0 ∧ n ≤ t.size ∧ d.size + 2 ≤ n
      · obtain ⟨rfl, hn1, hn2⟩ := hok
        have hnb : n ≤ 1073741824 := by have := HT.out; omega
        have g1 : decide (t.size < n) = false := by simp; omega
        have g2 : decide ((n : Int) < (d.size : Int) + 2) = false := by simp; omega
        obtain ⟨m, hm⟩ : ∃ m, n - 1 = m := ⟨_, rfl⟩
        have hm1 : IntKind.u64.wrap ((n : Int) - 1) = (m : Int) := by rw [wrap_u64 _ (by omega) (by omega)]; omega
        have hm2 : d.size + 1 ≤ m := by omega
        have hm3 : m ≤ t.size := by omega
        have hs1 := fun (W : World) => run_slice_string (P := Tryd.prog) W 9 t .i64 .u64 ((d.size : Int) + 1) (m : Int) Tryd.underlying9 (by omega) (by omega) (by omega)
        obtain ⟨bd, hbd⟩ : ∃ bd, t.extract ((d.size : Int) + 1).toNat ((m : Int)).toNat = bd := ⟨_, rfl⟩
        rw [hbd] at hs1
        have hbd2 : t.extract (d.size + 1) (n - 1) = bd := by rw [← hbd]; congr 1 <;> omega
        have hbds : bd.size ≤ 1073741824 := by rw [← hbd2]; simp only [ByteArray.size_extract]; omega
        obtain ⟨cc, hcc⟩ : ∃ cc, cutS bd 61 = cc := ⟨_, rfl⟩
        have hC2 := cut bd 61 w2 hbds
        rw [hcc] at hC2
        obtain ⟨f, v, fok⟩ := cc
        simp only [] at hC2
        have hF3 := fun (okk : Bool) (h : cutS bd 61 = (f, v, okk)) => firstS_3 (f := f) (v := v) (ok := okk) HCC.out H5.out HOO.out ⟨hn1, hn2⟩ (by rw [hbd2]; exact h)
        have HF3 := Lib.hid (hF3 fok hcc)
        have HC2 := Lib.hid hC2
        clear hC2 hF3 hcc hbd hbd2 hm
        go_wp2_with fail
        refine HC2.out.mono ?_
        rintro _ w3 ⟨rfl, hb3⟩
        have hB3 : Below b0 w w3 := hB2.trans (hb3.mono (by have := hB2.size; omega))
        have hG3 := grown_tr hG2 hb3
        have hR3 := hR2.below hb3
        have hz2 := lt_of_heap hy1
        have hy0 := heapB hb3 (by omega) hy0
        have hy1 := heapB hb3 (by omega) hy1
        obtain ⟨y00, y01, y02⟩ := two_cells hy0
        obtain ⟨x00, x01, x02⟩ := two_cells hy1
        have c03 := hR3.c0
        obtain ⟨W4, hW4⟩ : ∃ W4, (w3.setCell ⟨b0 + 1, 0, none⟩ (.string f)).setCell ⟨b0 + 1, 1, none⟩ (.string v) = W4 := ⟨_, rfl⟩
        have hG4 : w.grownBy W4 (some R) := by rw [← hW4]; exact grown_new (grown_new hG3 (by omega) _ _) (by omega) _ _
        have hR4 : RdAt R t sz ev W4 := hR3.same (by rw [← hW4, heap_setCell_other _ _ _ _ (by simp only []; omega), heap_setCell_other _ _ _ _ (by simp only []; omega)])
        have hy04 : W4.heap[b0]? = some (.cells #[.string ⟨#[]⟩, .string ⟨#[]⟩] 31) := by rw [← hW4, heap_setCell_other _ _ _ _ (by simp only []; omega), heap_setCell_other _ _ _ _ (by simp only []; omega)]; exact hy0
        have hy14 : W4.heap[b0 + 1]? = some (.cells #[.string f, .string v] 31) := by rw [← hW4]; exact two_set hy1 (.string f) (.string v)
        have hB4 : Below R w W4 := by rw [← hW4]; exact ((hB3.mono (by omega)).setCell (p := ⟨b0 + 1, 0, none⟩) (by simp only []; omega) _).setCell (p := ⟨b0 + 1, 1, none⟩) (by simp only []; omega) _
        obtain ⟨z00, z01, z02⟩ := two_cells hy04
        obtain ⟨v00, v01, v02⟩ := two_cells hy14
        have c04 := hR4.c0
        cases fok with
        | false =>
          go_wp2
          refine wp_goto ?_
          go_wp2
          refine ⟨rfl, ?_⟩
          go_wp2
          obtain ⟨e1, e2, e3, e4⟩ := none_end (x' := .string ⟨#[]⟩) (y' := .string ⟨#[]⟩) hG4 hR4 (by omega) (by omega) hy04
          simp only [Exit.noGoto]
          exact bodyPost_ret (v := .tuple #[.agg #[.string ⟨#[]⟩, .string ⟨#[]⟩], .bool false]) (by simp [results, Tryd.results34, go_sem, e3, e4]) rfl ⟨e1, .inl ⟨(HF3.out).trans (by rw [if_neg (by decide)]), rfl, e2⟩⟩
        | true =>
          have HOn := one f v W4
          have hF4 : firstS t = if (oneS f v).2 = 0 ∧ (oneS f v).1 = t.extract 0 n then some (f, v, n) else none := (HF3.out).trans (by rw [if_pos rfl])
          obtain ⟨on, hon⟩ : ∃ on, oneS f v = on := ⟨_, rfl⟩
          rw [hon] at HOn hF4
          obtain ⟨s, e⟩ := on
          simp only [] at HOn hF4
          have HF4 := Lib.hid hF4
          have HOn1 := Lib.hid HOn
          clear HOn hF4 hon HF3
          go_wp2_with fail
          refine HOn1.out.mono ?_
          rintro _ w5 ⟨rfl, hb5⟩
          have hG5 := grown_tr hG4 hb5
          have hR5 := hR4.below hb5
          have hz4 := lt_of_heap hy14
          have hy05 := heapB hb5 (by omega) hy04
          have hy15 := heapB hb5 (by omega) hy14
          obtain ⟨s00, s01, s02⟩ := two_cells hy05
          obtain ⟨r00, r01, r02⟩ := two_cells hy15
          have c05 := hR5.c0
          by_cases he : e = 0
          · subst he
            have hsl := fun (W : World) => run_slice_string_h (P := Tryd.prog) W 9 t Tryd.underlying9 .u64 (n : Int) (by omega) (by omega)
            obtain ⟨hd, hhd⟩ : ∃ hd, t.extract 0 ((n : Int)).toNat = hd := ⟨_, rfl⟩
            have hhd2 : t.extract 0 n = hd := hhd
            rw [hhd] at hsl
            by_cases hss : s = hd
            · have hF5 : firstS t = some (f, v, n) := (HF4.out).trans (by rw [if_pos ⟨rfl, by rw [hss, hhd2]⟩])
              have HF5 := Lib.hid hF5
              subst hss
              have htl := fun (W : World) => run_slice_string_l (P := Tryd.prog) W 9 t Tryd.underlying9 .u64 (n : Int) (by omega) (by omega)
              clear hF5 hhd hhd2
              have hzz := hR5.f 0
              rw [Int.toNat_natCast] at htl
              go_wp2
              have hR6 := hR5.set (t.extract n t.size)
              have hG6 := Lib.grownBy_setB hG5 0 (.string (t.extract n t.size))
              have hy06 : (w5.setCell ⟨R, 0, none⟩ (.string (t.extract n t.size))).heap[b0]? = some (.cells #[.string ⟨#[]⟩, .string ⟨#[]⟩] 31) := by rw [heap_setCell_other _ _ _ _ (by simp only []; omega)]; exact hy05
              obtain ⟨e1, e2, e3, e4⟩ := none_end (x' := .string f) (y' := .string v) hG6 hR6 (by omega) (by omega) hy06
              simp only [Exit.jump]
              exact bodyPost_ret (v := .tuple #[.agg #[.string f, .string v], .bool true]) (by simp [results, Tryd.results34, go_sem, e3, e4]) rfl ⟨e1, .inr ⟨f, v, n, HF5.out, rfl, e2⟩⟩
            · have hF5 : firstS t = none := (HF4.out).trans (by rw [if_neg (fun h => hss (by rw [h.2, hhd2]))])
              have HF5 := Lib.hid hF5
              have hne : (s.toList == hd.toList) = false := by simpa using fun e => hss (toList_inj.1 e)
              clear hF5 hss hhd hhd2
              go_wp2
              refine wp_goto ?_
              go_wp2
              refine ⟨rfl, ?_⟩
              go_wp2
              obtain ⟨e1, e2, e3, e4⟩ := none_end (x' := .string ⟨#[]⟩) (y' := .string ⟨#[]⟩) hG5 hR5 (by omega) (by omega) hy05
              simp only [Exit.noGoto]
              exact bodyPost_ret (v := .tuple #[.agg #[.string ⟨#[]⟩, .string ⟨#[]⟩], .bool false]) (by simp [results, Tryd.results34, go_sem, e3, e4]) rfl ⟨e1, .inl ⟨HF5.out, rfl, e2⟩⟩
          · have hF5 : firstS t = none := (HF4.out).trans (by rw [if_neg (fun h => he h.1)])
            have HF5 := Lib.hid hF5
            have g0 : (e != 0) = true := by simpa using he
            have g0' : (e == 0) = false := by simpa using he
            clear he hF5
            go_wp2
            refine wp_goto ?_
            go_wp2
            refine ⟨rfl, ?_⟩
            go_wp2
            obtain ⟨e1, e2, e3, e4⟩ := none_end (x' := .string ⟨#[]⟩) (y' := .string ⟨#[]⟩) hG5 hR5 (by omega) (by omega) hy05
            simp only [Exit.noGoto]
            exact bodyPost_ret (v := .tuple #[.agg #[.string ⟨#[]⟩, .string ⟨#[]⟩], .bool false]) (by simp [results, Tryd.results34, go_sem, e3, e4]) rfl ⟨e1, .inl ⟨HF5.out, rfl, e2⟩⟩
      · have HN : Hid (¬ (e = 0 ∧ (n : Int) ≤ t.size ∧ (d.size : Int) + 2 ≤ n)) := Lib.hid (by omega)
        by_cases he : e = 0
        · subst he
          by_cases hnt : n ≤ t.size
          · have hnb : n ≤ 1073741824 := by have := HT.out; omega
            have g1 : decide (t.size < n) = false := by simp; omega
            have g2 : decide ((n : Int) < (d.size : Int) + 2) = true := by simp; omega
            clear hok
            go_wp2
            refine wp_goto ?_
            go_wp2
            refine ⟨rfl, ?_⟩
            go_wp2
            obtain ⟨e1, e2, e3, e4⟩ := none_end (x' := .string ⟨#[]⟩) (y' := .string ⟨#[]⟩) hG2 hR2 (by omega) (by omega) hy0
            simp only [Exit.noGoto]
            exact bodyPost_ret (v := .tuple #[.agg #[.string ⟨#[]⟩, .string ⟨#[]⟩], .bool false]) (by simp [results, Tryd.results34, go_sem, e3, e4]) rfl ⟨e1, .inl ⟨firstS_2 HCC.out H5.out HOO.out (by simpa using HN.out), rfl, e2⟩⟩
          · have g1 : decide (t.size < n) = true := by simp; omega
            clear hok
            go_wp2
            refine wp_goto ?_
            go_wp2
            refine ⟨rfl, ?_⟩
            go_wp2
            obtain ⟨e1, e2, e3, e4⟩ := none_end (x' := .string ⟨#[]⟩) (y' := .string ⟨#[]⟩) hG2 hR2 (by omega) (by omega) hy0
            simp only [Exit.noGoto]
            exact bodyPost_ret (v := .tuple #[.agg #[.string ⟨#[]⟩, .string ⟨#[]⟩], .bool false]) (by simp [results, Tryd.results34, go_sem, e3, e4]) rfl ⟨e1, .inl ⟨firstS_2 HCC.out H5.out HOO.out (by simpa using HN.out), rfl, e2⟩⟩
        · have g0 : (e != 0) = true := by simpa using he
          have g0' : (e == 0) = false := by simpa using he
          clear hok he
          go_wp2
          refine wp_goto ?_
          go_wp2
          refine ⟨rfl, ?_⟩
          go_wp2
          obtain ⟨e1, e2, e3, e4⟩ := none_end (x' := .string ⟨#[]⟩) (y' := .string ⟨#[]⟩) hG2 hR2 (by omega) (by omega) hy0
          simp only [Exit.noGoto]
          exact bodyPost_ret (v := .tuple #[.agg #[.string ⟨#[]⟩, .string ⟨#[]⟩], .bool false]) (by simp [results, Tryd.results34, go_sem, e3, e4]) rfl ⟨e1, .inl ⟨firstS_2 HCC.out H5.out HOO.out (by simpa using HN.out), rfl, e2⟩⟩
    · obtain ⟨y00, y01, y02⟩ := two_cells hy0
      have h5b : decide ((5 : Int) < (d.size : Int)) = true := by simp; omega
      have H5 := Lib.hid h5
      clear h5
      go_wp2
      refine wp_goto ?_
      go_wp2
      refine ⟨rfl, ?_⟩
      go_wp2
      obtain ⟨e1, e2, e3, e4⟩ := none_end (x' := .string ⟨#[]⟩) (y' := .string ⟨#[]⟩) hG1 hR1 (by omega) (by omega) hy0
      simp only [Exit.noGoto]
      exact bodyPost_ret (v := .tuple #[.agg #[.string ⟨#[]⟩, .string ⟨#[]⟩], .bool false]) (by simp [results, Tryd.results34, go_sem, e3, e4]) rfl ⟨e1, .inl ⟨firstS_1 HCC.out (fun h => H5.out h.2), rfl, e2⟩⟩
end Go.Proofs.YtbcjhmeeonhmaaaDoor.H
end

/-
(*strings.Builder).copyCheck and WriteString at this program. The lines of the shelf's proofs, turned to this dump.
-/
section
set_option linter.unusedVariables false
set_option maxRecDepth 100000
namespace Go.Proofs.YtbcjhmeeonhmaaaDoor.H
open Go Go.RowKit

theorem sizeBuilder : (Tryd.prog.info? 61).map (·.size) = some 2 := by kernel_rfl
set_option maxHeartbeats 1000000 in
theorem copyCheck_used (b : Nat) (w : World) (h0 : w.cell? ⟨b, 0, none⟩ = some (.pointer (some ⟨b, 0, none⟩))) :
    Calls Tryd.prog 43 #[.pointer (some ⟨b, 0, none⟩)] w fun e w' => e = .returned (.tuple #[]) ∧ w' = w := by
  obtain ⟨j, hj, _⟩ := Option.map_eq_some_iff.1 sizeBuilder
  have hq := Lib.run_neq_ptr_same (P := Tryd.prog) w ⟨b, 0, none⟩ Tryd.underlying58 hj
  go_enter Tryd.func43, Tryd.ntmps43
  go_wp2
  try rw [hq]
  go_wp2
  go_end0
  exact ⟨rfl, rfl⟩

set_option maxHeartbeats 1000000 in
theorem copyCheck_fresh (b : Nat) (w : World) (h0 : w.cell? ⟨b, 0, none⟩ = some (.pointer none)) (hsh : w.shape? b = some (61, 2)) (hfz : w.frozen? ⟨b, 0, none⟩ = false) :
    Calls Tryd.prog 43 #[.pointer (some ⟨b, 0, none⟩)] w fun e w' => e = .returned (.tuple #[]) ∧ w' = w.setCell ⟨b, 0, none⟩ (.pointer (some ⟨b, 0, none⟩)) := by
  obtain ⟨j, hj, hjs⟩ := Option.map_eq_some_iff.1 sizeBuilder
  have g1 := Lib.run_to_unsafe (P := Tryd.prog) (src := 58) (dst := 99) w ⟨b, 0, none⟩ Tryd.underlying58 Tryd.underlying99 hj (by rw [hjs]; decide) hsh (Nat.zero_lt_succ 1)
  have g2 := fun args => @run_callFunc_extern Tryd.prog 58 _ Extern.AbiNoEscape.same Tryd.func58 (by kernel_rfl) (by kernel_rfl) (by kernel_rfl) (by kernel_rfl) args w
  have g4 : (Extern.AbiNoEscape.same #[.pointer (some ⟨b, 0, none⟩)]).run Tryd.prog w = .ok (.pointer (some ⟨b, 0, none⟩)) w := rfl
  have g3 := Lib.run_from_unsafe (P := Tryd.prog) (src := 99) (dst := 58) w ⟨b, 0, none⟩ Tryd.underlying99 Tryd.underlying58 hj hsh (by kernel_rfl)
  go_enter Tryd.func43, Tryd.ntmps43
  go_wp2
  go_end0
  exact ⟨rfl, rfl⟩
theorem copyCheck (B b : Nat) (bs : List Value) (w : World) (h : Lib.IsBuilderF 61 5 B b bs w) :
    Calls Tryd.prog 43 #[.pointer (some ⟨b, 0, none⟩)] w fun e w' => e = .returned (.tuple #[]) ∧ (Lib.BuilderAtF 61 5 B b (.pointer (some ⟨b, 0, none⟩)) bs w' ∧ Below B w w' ∧ Lib.OthersKept 5 (some b) w w') := by
  rcases h with h | h
  · refine (copyCheck_fresh b w h.cell0 h.shape h.frozen0).mono ?_
    rintro e w' ⟨rfl, rfl⟩
    exact ⟨rfl, h.used _, (Below.refl B w).setCell (p := ⟨b, 0, none⟩) h.1 _, (Lib.OthersKept.refl _ _ w).setCell ⟨b, 0, none⟩ rfl _⟩
  · refine (copyCheck_used b w h.cell0).mono ?_
    rintro e w' ⟨rfl, rfl⟩
    exact ⟨rfl, h, Below.refl B _, Lib.OthersKept.refl _ _ _⟩

end Go.Proofs.YtbcjhmeeonhmaaaDoor.H
end

/-
pax.Put, walked.
-/
section
set_option linter.unusedVariables false
set_option maxRecDepth 100000
namespace Go.Proofs.YtbcjhmeeonhmaaaDoor.H
open Go Go.RowKit Go.Proofs.YtbcjhmeeonhmaaaDoorW.PrintWords Go.Proofs.YtbcjhmeeonhmaaaDoorW.PrintMore Go.Proofs.YtbcjhmeeonhmaaaDoor.M

/-- The names, with the kind of their blocks. -/
def MetK (B M : Nat) (ns : List ByteArray) (w : World) : Prop := Met B M ns w ∧ w.shape? B = some (69, 2)
theorem shape_of {w : World} {B : Nat} {T : TypeId} {n : Nat} (h : w.shape? B = some (T, n)) : ∃ c fz, w.heap[B]? = some (.cells c T fz) := by
  unfold World.shape? at h
  split at h
  · rename_i c e fz hb
    injection h with h; injection h with h1 h2
    subst h1
    exact ⟨_, _, hb⟩
  · cases h
theorem MetK.below {B M : Nat} {ns : List ByteArray} {w w' : World} (h : MetK B M ns w) (hb : Below w.heap.size w w') : MetK B M ns w' := by
  obtain ⟨c, fz, hc⟩ := shape_of h.2
  refine ⟨h.1.below hb, ?_⟩
  rw [← h.2]; unfold World.shape?; rw [hb.block _ (lt_of_heap hc)]
end Go.Proofs.YtbcjhmeeonhmaaaDoor.H
end

-- Laid by a program of this session for this claim.
section
namespace Go.Proofs.YtbcjhmeeonhmaaaDoor.M
open Go.RowKit Go.Proofs.YtbcjhmeeonhmaaaDoorW.PrintWords Go.Proofs.YtbcjhmeeonhmaaaDoorW.PrintLast Go.Proofs.YtbcjhmeeonhmaaaDoorW.PrintMore
attribute [local go_sem] max2_int min2_int max_two min_two max_three min_three max_four min_four   -- for this text's walks alone
set_option linter.unusedVariables false
set_option linter.unusedSimpArgs false

theorem eqA31 (d : Nat) (w : World) (x0 y0 : ByteArray) (x1 y1 : ByteArray) :
    (Op.equalIn (d + 2) 31 (.agg #[.string x0, .string x1]) (.agg #[.string y0, .string y1])).run Tryd.prog w = .ok (x0.toList == y0.toList && (x1.toList == y1.toList)) w := by
  refine eqA_of Tryd.underlying31 (by kernel_rfl) ?_
  refine eqf_cons (by rfl) (by go_simp; rfl) (by go_simp; rfl) (by go_simp) ?_
  exact eqf_last (by rfl) (by go_simp; rfl) (by go_simp; rfl) (by go_simp)
end Go.Proofs.YtbcjhmeeonhmaaaDoor.M
end
