/-
Part 2 of: The laws of escape: what their cards share.
-/
import Derived.Test.YtbcjhmeeonhmaaaGreatDoorQC1
import Derived.Lib.RuneCountTail
import Derived.Lib.UnsafeStr
import Derived.Lib.OthersKept
import Derived.LaidEql
import Derived.Stop.Asserts
import Derived.Stop.LaidTwo
import Derived.RowKitTokens
import Derived.Laws.RangeAny
import Derived.BigRegion
import Derived.Lib.BufferOwn
import Derived.Shelf.Strings.Builder1
import Derived.Shelf.Strings.Builder2
import Derived.Shelf.Small.Strs
import Derived.Shelf.Small.Wraps
import Derived.Shelf.Strings.BuilderF
import Derived.Shelf.Strings.BuilderK
import Derived.Shelf.Strings.Builder2Cap
import Derived.Shelf.Strings.Search1
import Derived.Shelf.Strings.Search2
import Derived.Shelf.Strings.Search3
import Derived.Shelf.Strings.Count
import Derived.Shelf.LaysM
import Derived.Shelf.Strings.Shaped
import Derived.Shelf.Strings.Prefix
import Derived.Shelf.Strings.Split
import Derived.Shelf.Strings.Replace
import Derived.Shelf.Strings.SplitShaped
import Derived.Shelf.Unicode.DecodeSlow
import Derived.Shelf.Strings.BuilderCap
import Derived.Test.YtbcjhmeeonhmaaaGreatDoorProg
set_option linter.unusedVariables false
set_option linter.unusedSimpArgs false
-- Laid by a program of this session for this claim.
section
namespace Go.Proofs.YtbcjhmeeonhmaaaGreatDoor.M
open Go.RowKit Go.Proofs.YtbcjhmeeonhmaaaGreatDoorW.PrintWords Go.Proofs.YtbcjhmeeonhmaaaGreatDoorW.PrintLast Go.Proofs.YtbcjhmeeonhmaaaGreatDoorW.PrintMore
attribute [local go_sem] max2_int min2_int max_two min_two max_three min_three max_four min_four   -- for this text's walks alone
set_option linter.unusedVariables false
set_option linter.unusedSimpArgs false

/-! ### pleacherref02_Encode: function 30 -/
def pleacherref02_Encode.f (a0 : Int) : Option (ByteArray × Int) := (pleacherref02_is.f a0).bind fun t121 => (if t121 = true then (if a0 < 128 then (if ([] : List Int).length < 140737488355328 then (some (strOfNums (([] : List Int) ++ [(a0) % 256]), 0)) else (none)) else (if a0 < 2048 then ((some (([(wrap64 (192 + (wrap64 (Int.tdiv a0 64)))) % 256, (wrap64 (128 + (Int.tmod a0 64))) % 256] : List Int) : List Int)).bind fun y125 => (if ([] : List Int).length + y125.length < 140737488355328 then (some (strOfNums (([] : List Int) ++ y125), 0)) else (none))) else (if a0 < 65536 then ((some (([(wrap64 (224 + (wrap64 (Int.tdiv a0 4096)))) % 256, (wrap64 (128 + (Int.tmod (wrap64 (Int.tdiv a0 64)) 64))) % 256, (wrap64 (128 + (Int.tmod a0 64))) % 256] : List Int) : List Int)).bind fun y131 => (if ([] : List Int).length + y131.length < 140737488355328 then (some (strOfNums (([] : List Int) ++ y131), 0)) else (none))) else ((some (([(wrap64 (240 + (wrap64 (Int.tdiv a0 262144)))) % 256, (wrap64 (128 + (Int.tmod (wrap64 (Int.tdiv a0 4096)) 64))) % 256, (wrap64 (128 + (Int.tmod (wrap64 (Int.tdiv a0 64)) 64))) % 256, (wrap64 (128 + (Int.tmod a0 64))) % 256] : List Int) : List Int)).bind fun y137 => (if ([] : List Int).length + y137.length < 140737488355328 then (some (strOfNums (([] : List Int) ++ y137), 0)) else (none)))))) else (some ((⟨#[]⟩ : ByteArray), 20)))
set_option maxHeartbeats 8000000 in
set_option maxRecDepth 100000 in
theorem pleacherref02_Encode.calls (a0 : Int) (r1 : ByteArray) (r2 : Int) (w : World) (h : pleacherref02_Encode.f a0 = some (r1, r2)) :
    Calls Tryz.prog 30 #[.int .i64 a0] w fun e w' => e = .returned (.tuple #[.string r1, .int .i64 r2]) ∧ Below w.heap.size w w' := by
  have HB := Aside0.mk (Below.refl w.heap.size w)
  have H : ((pleacherref02_is.f a0).bind fun t121 => (if t121 = true then (if a0 < 128 then (if ([] : List Int).length < 140737488355328 then (some (strOfNums (([] : List Int) ++ [(a0) % 256]), 0)) else (none)) else (if a0 < 2048 then ((some (([(wrap64 (192 + (wrap64 (Int.tdiv a0 64)))) % 256, (wrap64 (128 + (Int.tmod a0 64))) % 256] : List Int) : List Int)).bind fun y125 => (if ([] : List Int).length + y125.length < 140737488355328 then (some (strOfNums (([] : List Int) ++ y125), 0)) else (none))) else (if a0 < 65536 then ((some (([(wrap64 (224 + (wrap64 (Int.tdiv a0 4096)))) % 256, (wrap64 (128 + (Int.tmod (wrap64 (Int.tdiv a0 64)) 64))) % 256, (wrap64 (128 + (Int.tmod a0 64))) % 256] : List Int) : List Int)).bind fun y131 => (if ([] : List Int).length + y131.length < 140737488355328 then (some (strOfNums (([] : List Int) ++ y131), 0)) else (none))) else ((some (([(wrap64 (240 + (wrap64 (Int.tdiv a0 262144)))) % 256, (wrap64 (128 + (Int.tmod (wrap64 (Int.tdiv a0 4096)) 64))) % 256, (wrap64 (128 + (Int.tmod (wrap64 (Int.tdiv a0 64)) 64))) % 256, (wrap64 (128 + (Int.tmod a0 64))) % 256] : List Int) : List Int)).bind fun y137 => (if ([] : List Int).length + y137.length < 140737488355328 then (some (strOfNums (([] : List Int) ++ y137), 0)) else (none)))))) else (some ((⟨#[]⟩ : ByteArray), 20)))) = some (r1, r2) := h
  clear h
  replace H := Option.bind_eq_some_iff.mp H
  obtain ⟨t121, A20, H⟩ := H
  replace H : (if t121 = true then (if a0 < 128 then (if ([] : List Int).length < 140737488355328 then (some (strOfNums (([] : List Int) ++ [(a0) % 256]), 0)) else (none)) else (if a0 < 2048 then ((some (([(wrap64 (192 + (wrap64 (Int.tdiv a0 64)))) % 256, (wrap64 (128 + (Int.tmod a0 64))) % 256] : List Int) : List Int)).bind fun y125 => (if ([] : List Int).length + y125.length < 140737488355328 then (some (strOfNums (([] : List Int) ++ y125), 0)) else (none))) else (if a0 < 65536 then ((some (([(wrap64 (224 + (wrap64 (Int.tdiv a0 4096)))) % 256, (wrap64 (128 + (Int.tmod (wrap64 (Int.tdiv a0 64)) 64))) % 256, (wrap64 (128 + (Int.tmod a0 64))) % 256] : List Int) : List Int)).bind fun y131 => (if ([] : List Int).length + y131.length < 140737488355328 then (some (strOfNums (([] : List Int) ++ y131), 0)) else (none))) else ((some (([(wrap64 (240 + (wrap64 (Int.tdiv a0 262144)))) % 256, (wrap64 (128 + (Int.tmod (wrap64 (Int.tdiv a0 4096)) 64))) % 256, (wrap64 (128 + (Int.tmod (wrap64 (Int.tdiv a0 64)) 64))) % 256, (wrap64 (128 + (Int.tmod a0 64))) % 256] : List Int) : List Int)).bind fun y137 => (if ([] : List Int).length + y137.length < 140737488355328 then (some (strOfNums (([] : List Int) ++ y137), 0)) else (none)))))) else (some ((⟨#[]⟩ : ByteArray), 20))) = some (r1, r2) := H
  have A2 := Aside0.mk A20
  clear A20
  by_cases c3 : t121 = true
  · subst c3
    have H1 : (if a0 < 128 then (if ([] : List Int).length < 140737488355328 then (some (strOfNums (([] : List Int) ++ [(a0) % 256]), 0)) else (none)) else (if a0 < 2048 then ((some (([(wrap64 (192 + (wrap64 (Int.tdiv a0 64)))) % 256, (wrap64 (128 + (Int.tmod a0 64))) % 256] : List Int) : List Int)).bind fun y125 => (if ([] : List Int).length + y125.length < 140737488355328 then (some (strOfNums (([] : List Int) ++ y125), 0)) else (none))) else (if a0 < 65536 then ((some (([(wrap64 (224 + (wrap64 (Int.tdiv a0 4096)))) % 256, (wrap64 (128 + (Int.tmod (wrap64 (Int.tdiv a0 64)) 64))) % 256, (wrap64 (128 + (Int.tmod a0 64))) % 256] : List Int) : List Int)).bind fun y131 => (if ([] : List Int).length + y131.length < 140737488355328 then (some (strOfNums (([] : List Int) ++ y131), 0)) else (none))) else ((some (([(wrap64 (240 + (wrap64 (Int.tdiv a0 262144)))) % 256, (wrap64 (128 + (Int.tmod (wrap64 (Int.tdiv a0 4096)) 64))) % 256, (wrap64 (128 + (Int.tmod (wrap64 (Int.tdiv a0 64)) 64))) % 256, (wrap64 (128 + (Int.tmod a0 64))) % 256] : List Int) : List Int)).bind fun y137 => (if ([] : List Int).length + y137.length < 140737488355328 then (some (strOfNums (([] : List Int) ++ y137), 0)) else (none)))))) = some (r1, r2) := by rw [if_pos rfl] at H; exact H
    clear H
    have H := H1
    clear H1
    by_cases c4 : a0 < 128
    · rw [if_pos c4] at H
      have c4b0 : decide (a0 < 128) = true := decide_eq_true c4
      clear c4
      by_cases c5 : ([] : List Int).length < 140737488355328
      · rw [if_pos c5] at H
        have LMc5 := Aside0.mk c5
        clear c5
        obtain ⟨y122, hy122⟩ : ∃ y_ : List Int, y_ = (([] : List Int) ++ [(a0) % 256]) := ⟨_, rfl⟩
        replace H : (some (strOfNums y122, 0)) = some (r1, r2) := by first | (rw [hy122]; with_reducible exact H) | (have H2_ := (Option.bind_some _ _).symm.trans H; rw [hy122]; with_reducible exact H2_) | (have H2_ := (Option.bind_some _ _).symm.trans H; with_reducible exact H2_) | with_reducible exact H | (rw [hy122]; exact H) | exact H
        have Ny122 := Aside0.mk hy122
        clear hy122
        simp only [Option.some.injEq, Prod.mk.injEq] at H
        obtain ⟨rfl, rfl⟩ := H
        go_enter Tryz.func30, Tryz.ntmps30
        go_wp2_with (first | ((with_reducible refine gate_callee (f := 53) rfl ?_); refine goesL_ (some 6) rfl rfl Tryz.func53 (by kernel_rfl) rfl #[.int .i64 a0] rfl (by (try simp only [List.map_toArray, List.map_cons, List.map_nil]); first | done | rfl | (simp only [List.length_drop, List.length_take]; rfl)) ?_; (with_reducible refine (pleacherref02_is.calls a0 true _ A2.out).mono ?_); rintro e w' ⟨rfl, ⟨nd, rfl⟩⟩; refine ⟨_, rfl, ?_⟩) | ((with_reducible refine gate_builtin (b := .append) (xs := #[.tmp 32, .tmp 35]) rfl ?_); at_builtin; refine Kd.R_append (Kd.int .u8) (w0 := w) w.heap.size rfl (.tmp 32) (.tmp 35) 45 5 (.int .u8 0) 1 rfl Tryz.underlying45 info5 rfl (by decide) (by omega) (.slice none 0 0) ([] : List Int) ((a0) % 256) [.int .u8 ((a0) % 256)] (fun _ => True) (fun _ => False) rfl rfl ?aP (fun _ hk => hk.elim) ?aF ?aO ?aB ?aS ?aL ?_; (case aP => exact rfl); (case aB => exact (by repeat (first | (with_reducible first | exact HB.out | apply below_alloc | apply pw_below_drewN | apply below_drew1) | exact HB.out))); (case aF => exact (fun _ _ => trivial)); (case aO => exact ((Kd.R_nil _ _ _ _ (fun _ => True)))); (case aS => exact (below_size (by repeat (first | (with_reducible first | exact HB.out | apply below_alloc | apply pw_below_drewN | apply below_drew1) | exact HB.out)))); (case aL => have := LMc5.out; omega); intro v123 w6 ho hb hg hat; rw [← Ny122.out] at ho; have n0_ := Aside0.mk (hb); have n1_ := Aside0.mk (ho); clear HB; have HB := n0_; have HO124 := n1_; clear n0_ n1_; clear ho hb hg hat; have hcv7 := own_string (P := Tryz.prog) Tryz.underlying45 Tryz.underlying5 Tryz.underlying9 (Kd.own_of_R HO124.out)))
        go_ret2
        exact ⟨by first | rfl | (simp [errW_none, errW_some] <;> rfl) | (simp [*, errW_none, errW_some] <;> rfl), by repeat (first | (with_reducible first | exact HB.out | apply below_alloc | apply pw_below_drewN | apply below_drew1) | exact HB.out)⟩
      · rw [if_neg c5] at H
        exact absurd H (by simp)
    · rw [if_neg c4] at H
      have c4b0 : decide (a0 < 128) = false := decide_eq_false c4
      clear c4
      by_cases c8 : a0 < 2048
      · rw [if_pos c8] at H
        have c8b0 : decide (a0 < 2048) = true := decide_eq_true c8
        clear c8
        obtain ⟨y125, hy125⟩ : ∃ y_ : List Int, y_ = (([(wrap64 (192 + (wrap64 (Int.tdiv a0 64)))) % 256, (wrap64 (128 + (Int.tmod a0 64))) % 256] : List Int)) := ⟨_, rfl⟩
        replace H : (if ([] : List Int).length + y125.length < 140737488355328 then (some (strOfNums (([] : List Int) ++ y125), 0)) else (none)) = some (r1, r2) := by first | (rw [hy125]; with_reducible exact H) | (have H2_ := (Option.bind_some _ _).symm.trans H; rw [hy125]; with_reducible exact H2_) | (have H2_ := (Option.bind_some _ _).symm.trans H; with_reducible exact H2_) | with_reducible exact H | (rw [hy125]; exact H) | exact H
        have Ny125 := Aside0.mk hy125
        clear hy125
        by_cases c9 : ([] : List Int).length + y125.length < 140737488355328
        · rw [if_pos c9] at H
          have LMc9 := Aside0.mk c9
          clear c9
          obtain ⟨y128, hy128⟩ : ∃ y_ : List Int, y_ = (([] : List Int) ++ y125) := ⟨_, rfl⟩
          replace H : (some (strOfNums y128, 0)) = some (r1, r2) := by first | (rw [hy128]; with_reducible exact H) | (have H2_ := (Option.bind_some _ _).symm.trans H; rw [hy128]; with_reducible exact H2_) | (have H2_ := (Option.bind_some _ _).symm.trans H; with_reducible exact H2_) | with_reducible exact H | (rw [hy128]; exact H) | exact H
          have Ny128 := Aside0.mk hy128
          clear hy128
          simp only [Option.some.injEq, Prod.mk.injEq] at H
          obtain ⟨rfl, rfl⟩ := H
          go_enter Tryz.func30, Tryz.ntmps30
          go_wp2_with (first | ((with_reducible refine gate_callee (f := 53) rfl ?_); refine goesL_ (some 6) rfl rfl Tryz.func53 (by kernel_rfl) rfl #[.int .i64 a0] rfl (by (try simp only [List.map_toArray, List.map_cons, List.map_nil]); first | done | rfl | (simp only [List.length_drop, List.length_take]; rfl)) ?_; (with_reducible refine (pleacherref02_is.calls a0 true _ A2.out).mono ?_); rintro e w' ⟨rfl, ⟨nd, rfl⟩⟩; refine ⟨_, rfl, ?_⟩) | ((with_reducible refine gate_dst (N := 49) rfl ?_); refine Kd.R_lit (Kd.int .u8) _ 5 ?hg (N := 49) ?hd (xs := ([(wrap64 (192 + (wrap64 (Int.tdiv a0 64)))) % 256, (wrap64 (128 + (Int.tmod a0 64))) % 256] : List Int)) (inner := [.int .u8 ((wrap64 (192 + (wrap64 (Int.tdiv a0 64)))) % 256), .int .u8 ((wrap64 (128 + (Int.tmod a0 64))) % 256)]) (ok := fun _ => True) (okp := fun _ => True) ?hr ?hp (fun _ hk => hk) trivial (Below.refl _ _) (Nat.le_refl _) (by simp) ?_; (case hd => rfl); (case hg => rfl); (case hr => first | (go_simp; done) | (go_simp; rfl)); (case hp => exact (Reps.one (show Kd.M (Kd.int .u8) _ _ _ ((wrap64 (192 + (wrap64 (Int.tdiv a0 64)))) % 256) [.int .u8 ((wrap64 (192 + (wrap64 (Int.tdiv a0 64)))) % 256)] from rfl) (Reps.one (show Kd.M (Kd.int .u8) _ _ _ ((wrap64 (128 + (Int.tmod a0 64))) % 256) [.int .u8 ((wrap64 (128 + (Int.tmod a0 64))) % 256)] from rfl) (Reps.none _ _)))); intro v126 w10 ho11 hb hg_ hnew_; clear hg_ hnew_; (first | rw [← Ny125.out] at ho11 | (simp only [Int.reduceToNat] at ho11; rw [← Ny125.out] at ho11)); have n0_ := Aside0.mk (Kd.R_lower ho11 (below_size (by repeat (first | (with_reducible first | exact HB.out | apply below_alloc | apply pw_below_drewN | apply below_drew1) | exact HB.out)))); have n1_ := Aside0.mk (below_step (by repeat (first | (with_reducible first | exact HB.out | apply below_alloc | apply pw_below_drewN | apply below_drew1) | exact HB.out)) hb); clear HB; have HO127 := n0_; have HB := n1_; clear n0_ n1_; clear hb ho11; obtain ⟨Ao13, co13, eo13⟩ := Kd.R_slice HO127.out; subst eo13) | ((with_reducible refine gate_builtin (b := .append) (xs := #[.tmp 40, .tmp 49]) rfl ?_); at_builtin; refine Kd.R_append_rows (Kd.int .u8) (w0 := w) w.heap.size rfl (.tmp 40) (.tmp 49) 45 5 (.int .u8 0) 1 rfl Tryz.underlying45 info5 rfl (by decide) (by omega) (.slice none 0 0) ([] : List Int) y125 _ _ _ (fun k_ => some k_ ≠ (.slice Ao13 y125.length co13 : Value).ownBlock) (fun _ => False) rfl rfl ?aO ?aR (fun _ _ h => h) (fun _ h => h.elim) ?aF ?aB ?aS ?aL ?_; (case aR => repeat (first | exact (Kd.R_reads' HO127.out).2.2 | (with_reducible refine Kd.C_alloc ?_ _) | (with_reducible refine Kd.C_drewN ?_ _) | (with_reducible refine Kd.C_drew ?_))); (case aB => exact (by repeat (first | (with_reducible first | exact HB.out | apply below_alloc | apply pw_below_drewN | apply below_drew1) | exact HB.out))); (case aF => exact (fun k_ hk => Kd.fresh' (Kd.R_lt (by (with_reducible repeat (first | apply Kd.R_alloc | apply Kd.R_drewN | apply Kd.R_drew)); exact HO127.out)) k_ hk)); (case aO => exact ((Kd.R_nil _ _ _ _ (fun k_ => some k_ ≠ (.slice Ao13 y125.length co13 : Value).ownBlock)))); (case aS => exact (below_size (by repeat (first | (with_reducible first | exact HB.out | apply below_alloc | apply pw_below_drewN | apply below_drew1) | exact HB.out)))); (case aL => have := LMc9.out; omega); intro v129 w12 ho hb hg hat; rw [← Ny128.out] at ho; have n0_ := Aside0.mk (Kd.R_after (Kd.R_apart_nil (by (with_reducible repeat (first | apply Kd.R_alloc | apply Kd.R_drewN | apply Kd.R_drew)); exact HO127.out)) hg hat); have n1_ := Aside0.mk (hb); have n2_ := Aside0.mk (ho); clear HO127; clear HB; have HO127 := n0_; have HB := n1_; have HO130 := n2_; clear n0_ n1_ n2_; clear ho hb hg hat; have hcv14 := own_string (P := Tryz.prog) Tryz.underlying45 Tryz.underlying5 Tryz.underlying9 (Kd.own_of_R HO130.out)))
          go_ret2
          exact ⟨by first | rfl | (simp [errW_none, errW_some] <;> rfl) | (simp [*, errW_none, errW_some] <;> rfl), by repeat (first | (with_reducible first | exact HB.out | apply below_alloc | apply pw_below_drewN | apply below_drew1) | exact HB.out)⟩
        · rw [if_neg c9] at H
          exact absurd H (by simp)
      · rw [if_neg c8] at H
        have c8b0 : decide (a0 < 2048) = false := decide_eq_false c8
        clear c8
        by_cases c15 : a0 < 65536
        · rw [if_pos c15] at H
          have c15b0 : decide (a0 < 65536) = true := decide_eq_true c15
          clear c15
          obtain ⟨y131, hy131⟩ : ∃ y_ : List Int, y_ = (([(wrap64 (224 + (wrap64 (Int.tdiv a0 4096)))) % 256, (wrap64 (128 + (Int.tmod (wrap64 (Int.tdiv a0 64)) 64))) % 256, (wrap64 (128 + (Int.tmod a0 64))) % 256] : List Int)) := ⟨_, rfl⟩
          replace H : (if ([] : List Int).length + y131.length < 140737488355328 then (some (strOfNums (([] : List Int) ++ y131), 0)) else (none)) = some (r1, r2) := by first | (rw [hy131]; with_reducible exact H) | (have H2_ := (Option.bind_some _ _).symm.trans H; rw [hy131]; with_reducible exact H2_) | (have H2_ := (Option.bind_some _ _).symm.trans H; with_reducible exact H2_) | with_reducible exact H | (rw [hy131]; exact H) | exact H
          have Ny131 := Aside0.mk hy131
          clear hy131
          by_cases c16 : ([] : List Int).length + y131.length < 140737488355328
          · rw [if_pos c16] at H
            have LMc16 := Aside0.mk c16
            clear c16
            obtain ⟨y134, hy134⟩ : ∃ y_ : List Int, y_ = (([] : List Int) ++ y131) := ⟨_, rfl⟩
            replace H : (some (strOfNums y134, 0)) = some (r1, r2) := by first | (rw [hy134]; with_reducible exact H) | (have H2_ := (Option.bind_some _ _).symm.trans H; rw [hy134]; with_reducible exact H2_) | (have H2_ := (Option.bind_some _ _).symm.trans H; with_reducible exact H2_) | with_reducible exact H | (rw [hy134]; exact H) | exact H
            have Ny134 := Aside0.mk hy134
            clear hy134
            simp only [Option.some.injEq, Prod.mk.injEq] at H
            obtain ⟨rfl, rfl⟩ := H
            go_enter Tryz.func30, Tryz.ntmps30
            go_wp2_with (first | ((with_reducible refine gate_callee (f := 53) rfl ?_); refine goesL_ (some 6) rfl rfl Tryz.func53 (by kernel_rfl) rfl #[.int .i64 a0] rfl (by (try simp only [List.map_toArray, List.map_cons, List.map_nil]); first | done | rfl | (simp only [List.length_drop, List.length_take]; rfl)) ?_; (with_reducible refine (pleacherref02_is.calls a0 true _ A2.out).mono ?_); rintro e w' ⟨rfl, ⟨nd, rfl⟩⟩; refine ⟨_, rfl, ?_⟩) | ((with_reducible refine gate_dst (N := 68) rfl ?_); refine Kd.R_lit (Kd.int .u8) _ 5 ?hg (N := 68) ?hd (xs := ([(wrap64 (224 + (wrap64 (Int.tdiv a0 4096)))) % 256, (wrap64 (128 + (Int.tmod (wrap64 (Int.tdiv a0 64)) 64))) % 256, (wrap64 (128 + (Int.tmod a0 64))) % 256] : List Int)) (inner := [.int .u8 ((wrap64 (224 + (wrap64 (Int.tdiv a0 4096)))) % 256), .int .u8 ((wrap64 (128 + (Int.tmod (wrap64 (Int.tdiv a0 64)) 64))) % 256), .int .u8 ((wrap64 (128 + (Int.tmod a0 64))) % 256)]) (ok := fun _ => True) (okp := fun _ => True) ?hr ?hp (fun _ hk => hk) trivial (Below.refl _ _) (Nat.le_refl _) (by simp) ?_; (case hd => rfl); (case hg => rfl); (case hr => first | (go_simp; done) | (go_simp; rfl)); (case hp => exact (Reps.one (show Kd.M (Kd.int .u8) _ _ _ ((wrap64 (224 + (wrap64 (Int.tdiv a0 4096)))) % 256) [.int .u8 ((wrap64 (224 + (wrap64 (Int.tdiv a0 4096)))) % 256)] from rfl) (Reps.one (show Kd.M (Kd.int .u8) _ _ _ ((wrap64 (128 + (Int.tmod (wrap64 (Int.tdiv a0 64)) 64))) % 256) [.int .u8 ((wrap64 (128 + (Int.tmod (wrap64 (Int.tdiv a0 64)) 64))) % 256)] from rfl) (Reps.one (show Kd.M (Kd.int .u8) _ _ _ ((wrap64 (128 + (Int.tmod a0 64))) % 256) [.int .u8 ((wrap64 (128 + (Int.tmod a0 64))) % 256)] from rfl) (Reps.none _ _))))); intro v132 w17 ho18 hb hg_ hnew_; clear hg_ hnew_; (first | rw [← Ny131.out] at ho18 | (simp only [Int.reduceToNat] at ho18; rw [← Ny131.out] at ho18)); have n0_ := Aside0.mk (Kd.R_lower ho18 (below_size (by repeat (first | (with_reducible first | exact HB.out | apply below_alloc | apply pw_below_drewN | apply below_drew1) | exact HB.out)))); have n1_ := Aside0.mk (below_step (by repeat (first | (with_reducible first | exact HB.out | apply below_alloc | apply pw_below_drewN | apply below_drew1) | exact HB.out)) hb); clear HB; have HO133 := n0_; have HB := n1_; clear n0_ n1_; clear hb ho18; obtain ⟨Ao20, co20, eo20⟩ := Kd.R_slice HO133.out; subst eo20) | ((with_reducible refine gate_builtin (b := .append) (xs := #[.tmp 54, .tmp 68]) rfl ?_); at_builtin; refine Kd.R_append_rows (Kd.int .u8) (w0 := w) w.heap.size rfl (.tmp 54) (.tmp 68) 45 5 (.int .u8 0) 1 rfl Tryz.underlying45 info5 rfl (by decide) (by omega) (.slice none 0 0) ([] : List Int) y131 _ _ _ (fun k_ => some k_ ≠ (.slice Ao20 y131.length co20 : Value).ownBlock) (fun _ => False) rfl rfl ?aO ?aR (fun _ _ h => h) (fun _ h => h.elim) ?aF ?aB ?aS ?aL ?_; (case aR => repeat (first | exact (Kd.R_reads' HO133.out).2.2 | (with_reducible refine Kd.C_alloc ?_ _) | (with_reducible refine Kd.C_drewN ?_ _) | (with_reducible refine Kd.C_drew ?_))); (case aB => exact (by repeat (first | (with_reducible first | exact HB.out | apply below_alloc | apply pw_below_drewN | apply below_drew1) | exact HB.out))); (case aF => exact (fun k_ hk => Kd.fresh' (Kd.R_lt (by (with_reducible repeat (first | apply Kd.R_alloc | apply Kd.R_drewN | apply Kd.R_drew)); exact HO133.out)) k_ hk)); (case aO => exact ((Kd.R_nil _ _ _ _ (fun k_ => some k_ ≠ (.slice Ao20 y131.length co20 : Value).ownBlock)))); (case aS => exact (below_size (by repeat (first | (with_reducible first | exact HB.out | apply below_alloc | apply pw_below_drewN | apply below_drew1) | exact HB.out)))); (case aL => have := LMc16.out; omega); intro v135 w19 ho hb hg hat; rw [← Ny134.out] at ho; have n0_ := Aside0.mk (Kd.R_after (Kd.R_apart_nil (by (with_reducible repeat (first | apply Kd.R_alloc | apply Kd.R_drewN | apply Kd.R_drew)); exact HO133.out)) hg hat); have n1_ := Aside0.mk (hb); have n2_ := Aside0.mk (ho); clear HO133; clear HB; have HO133 := n0_; have HB := n1_; have HO136 := n2_; clear n0_ n1_ n2_; clear ho hb hg hat; have hcv21 := own_string (P := Tryz.prog) Tryz.underlying45 Tryz.underlying5 Tryz.underlying9 (Kd.own_of_R HO136.out)))
            go_ret2
            exact ⟨by first | rfl | (simp [errW_none, errW_some] <;> rfl) | (simp [*, errW_none, errW_some] <;> rfl), by repeat (first | (with_reducible first | exact HB.out | apply below_alloc | apply pw_below_drewN | apply below_drew1) | exact HB.out)⟩
          · rw [if_neg c16] at H
            exact absurd H (by simp)
        · rw [if_neg c15] at H
          have c15b0 : decide (a0 < 65536) = false := decide_eq_false c15
          clear c15
          obtain ⟨y137, hy137⟩ : ∃ y_ : List Int, y_ = (([(wrap64 (240 + (wrap64 (Int.tdiv a0 262144)))) % 256, (wrap64 (128 + (Int.tmod (wrap64 (Int.tdiv a0 4096)) 64))) % 256, (wrap64 (128 + (Int.tmod (wrap64 (Int.tdiv a0 64)) 64))) % 256, (wrap64 (128 + (Int.tmod a0 64))) % 256] : List Int)) := ⟨_, rfl⟩
          replace H : (if ([] : List Int).length + y137.length < 140737488355328 then (some (strOfNums (([] : List Int) ++ y137), 0)) else (none)) = some (r1, r2) := by first | (rw [hy137]; with_reducible exact H) | (have H2_ := (Option.bind_some _ _).symm.trans H; rw [hy137]; with_reducible exact H2_) | (have H2_ := (Option.bind_some _ _).symm.trans H; with_reducible exact H2_) | with_reducible exact H | (rw [hy137]; exact H) | exact H
          have Ny137 := Aside0.mk hy137
          clear hy137
          by_cases c22 : ([] : List Int).length + y137.length < 140737488355328
          · rw [if_pos c22] at H
            have LMc22 := Aside0.mk c22
            clear c22
            obtain ⟨y140, hy140⟩ : ∃ y_ : List Int, y_ = (([] : List Int) ++ y137) := ⟨_, rfl⟩
            replace H : (some (strOfNums y140, 0)) = some (r1, r2) := by first | (rw [hy140]; with_reducible exact H) | (have H2_ := (Option.bind_some _ _).symm.trans H; rw [hy140]; with_reducible exact H2_) | (have H2_ := (Option.bind_some _ _).symm.trans H; with_reducible exact H2_) | with_reducible exact H | (rw [hy140]; exact H) | exact H
            have Ny140 := Aside0.mk hy140
            clear hy140
            simp only [Option.some.injEq, Prod.mk.injEq] at H
            obtain ⟨rfl, rfl⟩ := H
            go_enter Tryz.func30, Tryz.ntmps30
            go_wp2_with (first | ((with_reducible refine gate_callee (f := 53) rfl ?_); refine goesL_ (some 6) rfl rfl Tryz.func53 (by kernel_rfl) rfl #[.int .i64 a0] rfl (by (try simp only [List.map_toArray, List.map_cons, List.map_nil]); first | done | rfl | (simp only [List.length_drop, List.length_take]; rfl)) ?_; (with_reducible refine (pleacherref02_is.calls a0 true _ A2.out).mono ?_); rintro e w' ⟨rfl, ⟨nd, rfl⟩⟩; refine ⟨_, rfl, ?_⟩) | ((with_reducible refine gate_dst (N := 27) rfl ?_); refine Kd.R_lit (Kd.int .u8) _ 5 ?hg (N := 27) ?hd (xs := ([(wrap64 (240 + (wrap64 (Int.tdiv a0 262144)))) % 256, (wrap64 (128 + (Int.tmod (wrap64 (Int.tdiv a0 4096)) 64))) % 256, (wrap64 (128 + (Int.tmod (wrap64 (Int.tdiv a0 64)) 64))) % 256, (wrap64 (128 + (Int.tmod a0 64))) % 256] : List Int)) (inner := [.int .u8 ((wrap64 (240 + (wrap64 (Int.tdiv a0 262144)))) % 256), .int .u8 ((wrap64 (128 + (Int.tmod (wrap64 (Int.tdiv a0 4096)) 64))) % 256), .int .u8 ((wrap64 (128 + (Int.tmod (wrap64 (Int.tdiv a0 64)) 64))) % 256), .int .u8 ((wrap64 (128 + (Int.tmod a0 64))) % 256)]) (ok := fun _ => True) (okp := fun _ => True) ?hr ?hp (fun _ hk => hk) trivial (Below.refl _ _) (Nat.le_refl _) (by simp) ?_; (case hd => rfl); (case hg => rfl); (case hr => first | (go_simp; done) | (go_simp; rfl)); (case hp => exact (Reps.one (show Kd.M (Kd.int .u8) _ _ _ ((wrap64 (240 + (wrap64 (Int.tdiv a0 262144)))) % 256) [.int .u8 ((wrap64 (240 + (wrap64 (Int.tdiv a0 262144)))) % 256)] from rfl) (Reps.one (show Kd.M (Kd.int .u8) _ _ _ ((wrap64 (128 + (Int.tmod (wrap64 (Int.tdiv a0 4096)) 64))) % 256) [.int .u8 ((wrap64 (128 + (Int.tmod (wrap64 (Int.tdiv a0 4096)) 64))) % 256)] from rfl) (Reps.one (show Kd.M (Kd.int .u8) _ _ _ ((wrap64 (128 + (Int.tmod (wrap64 (Int.tdiv a0 64)) 64))) % 256) [.int .u8 ((wrap64 (128 + (Int.tmod (wrap64 (Int.tdiv a0 64)) 64))) % 256)] from rfl) (Reps.one (show Kd.M (Kd.int .u8) _ _ _ ((wrap64 (128 + (Int.tmod a0 64))) % 256) [.int .u8 ((wrap64 (128 + (Int.tmod a0 64))) % 256)] from rfl) (Reps.none _ _)))))); intro v138 w23 ho24 hb hg_ hnew_; clear hg_ hnew_; (first | rw [← Ny137.out] at ho24 | (simp only [Int.reduceToNat] at ho24; rw [← Ny137.out] at ho24)); have n0_ := Aside0.mk (Kd.R_lower ho24 (below_size (by repeat (first | (with_reducible first | exact HB.out | apply below_alloc | apply pw_below_drewN | apply below_drew1) | exact HB.out)))); have n1_ := Aside0.mk (below_step (by repeat (first | (with_reducible first | exact HB.out | apply below_alloc | apply pw_below_drewN | apply below_drew1) | exact HB.out)) hb); clear HB; have HO139 := n0_; have HB := n1_; clear n0_ n1_; clear hb ho24; obtain ⟨Ao26, co26, eo26⟩ := Kd.R_slice HO139.out; subst eo26) | ((with_reducible refine gate_builtin (b := .append) (xs := #[.tmp 8, .tmp 27]) rfl ?_); at_builtin; refine Kd.R_append_rows (Kd.int .u8) (w0 := w) w.heap.size rfl (.tmp 8) (.tmp 27) 45 5 (.int .u8 0) 1 rfl Tryz.underlying45 info5 rfl (by decide) (by omega) (.slice none 0 0) ([] : List Int) y137 _ _ _ (fun k_ => some k_ ≠ (.slice Ao26 y137.length co26 : Value).ownBlock) (fun _ => False) rfl rfl ?aO ?aR (fun _ _ h => h) (fun _ h => h.elim) ?aF ?aB ?aS ?aL ?_; (case aR => repeat (first | exact (Kd.R_reads' HO139.out).2.2 | (with_reducible refine Kd.C_alloc ?_ _) | (with_reducible refine Kd.C_drewN ?_ _) | (with_reducible refine Kd.C_drew ?_))); (case aB => exact (by repeat (first | (with_reducible first | exact HB.out | apply below_alloc | apply pw_below_drewN | apply below_drew1) | exact HB.out))); (case aF => exact (fun k_ hk => Kd.fresh' (Kd.R_lt (by (with_reducible repeat (first | apply Kd.R_alloc | apply Kd.R_drewN | apply Kd.R_drew)); exact HO139.out)) k_ hk)); (case aO => exact ((Kd.R_nil _ _ _ _ (fun k_ => some k_ ≠ (.slice Ao26 y137.length co26 : Value).ownBlock)))); (case aS => exact (below_size (by repeat (first | (with_reducible first | exact HB.out | apply below_alloc | apply pw_below_drewN | apply below_drew1) | exact HB.out)))); (case aL => have := LMc22.out; omega); intro v141 w25 ho hb hg hat; rw [← Ny140.out] at ho; have n0_ := Aside0.mk (Kd.R_after (Kd.R_apart_nil (by (with_reducible repeat (first | apply Kd.R_alloc | apply Kd.R_drewN | apply Kd.R_drew)); exact HO139.out)) hg hat); have n1_ := Aside0.mk (hb); have n2_ := Aside0.mk (ho); clear HO139; clear HB; have HO139 := n0_; have HB := n1_; have HO142 := n2_; clear n0_ n1_ n2_; clear ho hb hg hat; have hcv27 := own_string (P := Tryz.prog) Tryz.underlying45 Tryz.underlying5 Tryz.underlying9 (Kd.own_of_R HO142.out)))
            go_ret2
            exact ⟨by first | rfl | (simp [errW_none, errW_some] <;> rfl) | (simp [*, errW_none, errW_some] <;> rfl), by repeat (first | (with_reducible first | exact HB.out | apply below_alloc | apply pw_below_drewN | apply below_drew1) | exact HB.out)⟩
          · rw [if_neg c22] at H
            exact absurd H (by simp)
  · replace c3 := Bool.eq_false_iff.mpr c3
    subst c3
    have H1 : (some ((⟨#[]⟩ : ByteArray), 20)) = some (r1, r2) := by rw [if_neg (show ¬ (false = true) by decide)] at H; exact H
    clear H
    have H := H1
    clear H1
    simp only [Option.some.injEq, Prod.mk.injEq] at H
    obtain ⟨rfl, rfl⟩ := H
    go_enter Tryz.func30, Tryz.ntmps30
    go_wp2_with (first | ((with_reducible refine gate_callee (f := 53) rfl ?_); refine goesL_ (some 6) rfl rfl Tryz.func53 (by kernel_rfl) rfl #[.int .i64 a0] rfl (by (try simp only [List.map_toArray, List.map_cons, List.map_nil]); first | done | rfl | (simp only [List.length_drop, List.length_take]; rfl)) ?_; (with_reducible refine (pleacherref02_is.calls a0 false _ A2.out).mono ?_); rintro e w' ⟨rfl, ⟨nd, rfl⟩⟩; refine ⟨_, rfl, ?_⟩))
    go_ret2
    exact ⟨by first | rfl | (simp [errW_none, errW_some] <;> rfl) | (simp [*, errW_none, errW_some] <;> rfl), by repeat (first | (with_reducible first | exact HB.out | apply below_alloc | apply pw_below_drewN | apply below_drew1) | exact HB.out)⟩

end Go.Proofs.YtbcjhmeeonhmaaaGreatDoor.M
end

-- Laid by a program of this session for this claim.
section
namespace Go.Proofs.YtbcjhmeeonhmaaaGreatDoor.M
open Go.RowKit Go.Proofs.YtbcjhmeeonhmaaaGreatDoorW.PrintWords Go.Proofs.YtbcjhmeeonhmaaaGreatDoorW.PrintLast Go.Proofs.YtbcjhmeeonhmaaaGreatDoorW.PrintMore
attribute [local go_sem] max2_int min2_int max_two min_two max_three min_three max_four min_four   -- for this text's walks alone
set_option linter.unusedVariables false
set_option linter.unusedSimpArgs false

/-! ### pleacherref02_size: function 51 -/
mutual
def pleacherref02_size.j0 : Nat → Int → Bool → Option (Int)
  | 0, _, _ => none
  | k + 1, x0, x6 => if x6 = true then (some 2) else (if x0 ≥ 224 then (pleacherref02_size.j1 k x0 (decide (x0 < 240))) else (pleacherref02_size.j1 k x0 false))
def pleacherref02_size.j1 : Nat → Int → Bool → Option (Int)
  | 0, _, _ => none
  | k + 1, x0, x13 => if x13 = true then (some 3) else (if x0 ≥ 240 then (if x0 < 248 then (some 4) else (some 0)) else (some 0))
end
def pleacherref02_size.f (k : Nat) (a0 : Int) : Option (Int) := if a0 < 128 then (some 1) else (if a0 ≥ 192 then (pleacherref02_size.j0 k a0 (decide (a0 < 224))) else (pleacherref02_size.j0 k a0 false))
theorem pleacherref02_size.mono_l : ∀ k, (∀ y0 y1, LeO (pleacherref02_size.j0 k y0 y1) (pleacherref02_size.j0 (k + 1) y0 y1)) ∧ (∀ y0 y1, LeO (pleacherref02_size.j1 k y0 y1) (pleacherref02_size.j1 (k + 1) y0 y1))
  | 0 => ⟨fun _ _ r h => by simp [pleacherref02_size.j0] at h, fun _ _ r h => by simp [pleacherref02_size.j1] at h⟩
  | k + 1 => by
    obtain ⟨ih0, ih1⟩ := pleacherref02_size.mono_l k
    refine ⟨?_, ?_⟩
    · intro y0 y1
      unfold pleacherref02_size.j0
      repeat' first
      | (with_reducible exact ih0 _ _)
      | (with_reducible exact ih1 _ _)
      | (with_reducible exact LeO.refl _)
      | (with_reducible exact LeO.none _)
      | (with_reducible refine LeO.ite ?_ ?_)
      | (with_reducible refine LeO.bind ?_ (fun _ => ?_))
      | exact ih0 _ _
      | exact ih1 _ _
      | exact LeO.none _
      | refine LeO.ite ?_ ?_
      | refine LeO.bind ?_ (fun _ => ?_)
    · intro y0 y1
      unfold pleacherref02_size.j1
      repeat' first
      | (with_reducible exact ih0 _ _)
      | (with_reducible exact ih1 _ _)
      | (with_reducible exact LeO.refl _)
      | (with_reducible exact LeO.none _)
      | (with_reducible refine LeO.ite ?_ ?_)
      | (with_reducible refine LeO.bind ?_ (fun _ => ?_))
      | exact ih0 _ _
      | exact ih1 _ _
      | exact LeO.none _
      | refine LeO.ite ?_ ?_
      | refine LeO.bind ?_ (fun _ => ?_)
theorem pleacherref02_size.mono : ∀ a0 k, LeO (pleacherref02_size.f k a0) (pleacherref02_size.f (k + 1) a0) := by
  intro a0 k
  obtain ⟨ih0, ih1⟩ := pleacherref02_size.mono_l k
  unfold pleacherref02_size.f
  repeat' first
      | (with_reducible exact ih0 _ _)
      | (with_reducible exact ih1 _ _)
      | (with_reducible exact LeO.refl _)
      | (with_reducible exact LeO.none _)
      | (with_reducible refine LeO.ite ?_ ?_)
      | (with_reducible refine LeO.bind ?_ (fun _ => ?_))
      | exact ih0 _ _
      | exact ih1 _ _
      | exact LeO.none _
      | refine LeO.ite ?_ ?_
      | refine LeO.bind ?_ (fun _ => ?_)
set_option maxHeartbeats 8000000 in
set_option maxRecDepth 100000 in
theorem pleacherref02_size.calls (k : Nat) (a0 : Int) (r : Int) (w : World) (h : pleacherref02_size.f k a0 = some r) :
    Calls Tryz.prog 51 #[.int .u8 a0] w fun e w' => e = .returned (.int .i64 r) ∧ Drawn0 w w' := by
  have H : (if a0 < 128 then (some 1) else (if a0 ≥ 192 then (pleacherref02_size.j0 k a0 (decide (a0 < 224))) else (pleacherref02_size.j0 k a0 false))) = some r := h
  clear h
  by_cases c2 : a0 < 128
  · rw [if_pos c2] at H
    have c2b0 : decide (a0 < 128) = true := decide_eq_true c2
    clear c2
    obtain rfl := Option.some.inj H
    go_enter Tryz.func51, Tryz.ntmps51
    go_wp2
    go_ret
    exact ⟨by first | rfl | (simp; done) | (simp [*]; done), by repeat (first | exact Drawn0.refl _ | apply Drawn0.step)⟩
  · rw [if_neg c2] at H
    have c2b0 : decide (a0 < 128) = false := decide_eq_false c2
    clear c2
    have HC3 := Aside0.mk H
    clear H
    go_enter Tryz.func51, Tryz.ntmps51
    go_upto_region 3 with (fail)
    go_cut [6] (fun v6 wc => ∃ (kq : Nat) (x6_2 : Bool), v6 = .bool x6_2 ∧ Aside0 (pleacherref02_size.j0 kq a0 x6_2 = some r) ∧ Aside0 (kq ≤ k) ∧ Drawn0 w wc)
    case first =>
      have H := HC3.out
      clear HC3
      by_cases c4 : a0 ≥ 192
      · rw [if_pos c4] at H
        have c4b0 : decide (192 ≤ a0) = true := decide_eq_true c4
        clear c4
        (first | rw [c4b0] | (simp only [i64_w, i32_w]; rw [c4b0]) | skip)
        have H' := Aside0.mk H
        clear H
        go_wp2
        go_meet
        case rel => exact ⟨_, (decide (a0 < 224)), (by first | rfl | (simp; done) | (simp [*]; done)), H', ⟨by first | omega | exact Nat.le_refl _⟩, by repeat (first | exact Drawn0.refl _ | apply Drawn0.step)⟩
      · rw [if_neg c4] at H
        have c4b0 : decide (192 ≤ a0) = false := decide_eq_false c4
        clear c4
        (first | rw [c4b0] | (simp only [i64_w, i32_w]; rw [c4b0]) | skip)
        have H' := Aside0.mk H
        clear H
        go_wp2
        go_meet
        case rel => exact ⟨_, (false), (by first | rfl | (simp; done) | (simp [*]; done)), H', ⟨by first | omega | exact Nat.le_refl _⟩, by repeat (first | exact Drawn0.refl _ | apply Drawn0.step)⟩
    case rest =>
      clear HC3
      try clear c2
      try clear c2b0
      try clear p2
      try clear c4
      try clear c4b0
      obtain ⟨kq, x6_2, rfl, HA, HJ2, ⟨mc2, rfl⟩⟩ := hcut
      cases kq with
      | zero => exact absurd HA.out (by simp [pleacherref02_size.j0])
      | succ kj2 =>
        have H := HA.out
        clear HA
        simp only [pleacherref02_size.j0] at H
        by_cases c5 : x6_2 = true
        · subst c5
          have H1 : (some 2) = some r := by rw [if_pos rfl] at H; exact H
          clear H
          have H := H1
          clear H1
          obtain rfl := Option.some.inj H
          go_wp2
          go_ret
          exact ⟨by first | rfl | (simp; done) | (simp [*]; done), by repeat (first | exact Drawn0.refl _ | apply Drawn0.step)⟩
        · replace c5 := Bool.eq_false_iff.mpr c5
          subst c5
          have H1 : (if a0 ≥ 224 then (pleacherref02_size.j1 kj2 a0 (decide (a0 < 240))) else (pleacherref02_size.j1 kj2 a0 false)) = some r := by rw [if_neg (show ¬ (false = true) by decide)] at H; exact H
          clear H
          have H := H1
          clear H1
          have HC6 := Aside0.mk H
          clear H
          go_upto_region 5 with (fail)
          go_cut [13] (fun v13 wc => ∃ (kq : Nat) (x13_5 : Bool), v13 = .bool x13_5 ∧ Aside0 (pleacherref02_size.j1 kq a0 x13_5 = some r) ∧ Aside0 (kq ≤ kj2) ∧ Drawn0 w wc)
          case first =>
            have H := HC6.out
            clear HC6
            by_cases c7 : a0 ≥ 224
            · rw [if_pos c7] at H
              have c7b0 : decide (224 ≤ a0) = true := decide_eq_true c7
              clear c7
              (first | rw [c7b0] | (simp only [i64_w, i32_w]; rw [c7b0]) | skip)
              have H' := Aside0.mk H
              clear H
              go_wp2
              go_meet
              case rel => exact ⟨_, (decide (a0 < 240)), (by first | rfl | (simp; done) | (simp [*]; done)), H', ⟨by have := HJ2.out; first | omega | exact Nat.le_refl _⟩, by repeat (first | exact Drawn0.refl _ | apply Drawn0.step)⟩
            · rw [if_neg c7] at H
              have c7b0 : decide (224 ≤ a0) = false := decide_eq_false c7
              clear c7
              (first | rw [c7b0] | (simp only [i64_w, i32_w]; rw [c7b0]) | skip)
              have H' := Aside0.mk H
              clear H
              go_wp2
              go_meet
              case rel => exact ⟨_, (false), (by first | rfl | (simp; done) | (simp [*]; done)), H', ⟨by have := HJ2.out; first | omega | exact Nat.le_refl _⟩, by repeat (first | exact Drawn0.refl _ | apply Drawn0.step)⟩
          case rest =>
            clear HC6
            try clear c2
            try clear c2b0
            try clear p2
            try clear c4
            try clear c4b0
            try clear c5
            try clear c7
            try clear c7b0
            try clear p2
            obtain ⟨kq, x13_5, rfl, HA, HJ5, ⟨mc5, rfl⟩⟩ := hcut
            cases kq with
            | zero => exact absurd HA.out (by simp [pleacherref02_size.j1])
            | succ kj5 =>
              have H := HA.out
              clear HA
              simp only [pleacherref02_size.j1] at H
              by_cases c8 : x13_5 = true
              · subst c8
                have H1 : (some 3) = some r := by rw [if_pos rfl] at H; exact H
                clear H
                have H := H1
                clear H1
                obtain rfl := Option.some.inj H
                go_wp2
                go_ret
                exact ⟨by first | rfl | (simp; done) | (simp [*]; done), by repeat (first | exact Drawn0.refl _ | apply Drawn0.step)⟩
              · replace c8 := Bool.eq_false_iff.mpr c8
                subst c8
                have H1 : (if a0 ≥ 240 then (if a0 < 248 then (some 4) else (some 0)) else (some 0)) = some r := by rw [if_neg (show ¬ (false = true) by decide)] at H; exact H
                clear H
                have H := H1
                clear H1
                by_cases c9 : a0 ≥ 240
                · rw [if_pos c9] at H
                  have c9b0 : decide (240 ≤ a0) = true := decide_eq_true c9
                  clear c9
                  by_cases c10 : a0 < 248
                  · rw [if_pos c10] at H
                    have c10b0 : decide (a0 < 248) = true := decide_eq_true c10
                    clear c10
                    obtain rfl := Option.some.inj H
                    go_wp2
                    go_ret
                    exact ⟨by first | rfl | (simp; done) | (simp [*]; done), by repeat (first | exact Drawn0.refl _ | apply Drawn0.step)⟩
                  · rw [if_neg c10] at H
                    have c10b0 : decide (a0 < 248) = false := decide_eq_false c10
                    clear c10
                    obtain rfl := Option.some.inj H
                    go_wp2
                    go_ret
                    exact ⟨by first | rfl | (simp; done) | (simp [*]; done), by repeat (first | exact Drawn0.refl _ | apply Drawn0.step)⟩
                · rw [if_neg c9] at H
                  have c9b0 : decide (240 ≤ a0) = false := decide_eq_false c9
                  clear c9
                  obtain rfl := Option.some.inj H
                  go_wp2
                  go_ret
                  exact ⟨by first | rfl | (simp; done) | (simp [*]; done), by repeat (first | exact Drawn0.refl _ | apply Drawn0.step)⟩

end Go.Proofs.YtbcjhmeeonhmaaaGreatDoor.M
end

-- Laid by a program of this session for this claim.
section
namespace Go.Proofs.YtbcjhmeeonhmaaaGreatDoor.M
open Go.RowKit Go.Proofs.YtbcjhmeeonhmaaaGreatDoorW.PrintWords Go.Proofs.YtbcjhmeeonhmaaaGreatDoorW.PrintLast Go.Proofs.YtbcjhmeeonhmaaaGreatDoorW.PrintMore
attribute [local go_sem] max2_int min2_int max_two min_two max_three min_three max_four min_four   -- for this text's walks alone
set_option linter.unusedVariables false
set_option linter.unusedSimpArgs false

/-! ### pleacherref02_Decode: function 28 -/
mutual
def pleacherref02_Decode.j0 : Nat → ByteArray → Int → Bool → Option (Int × Int × Int)
  | 0, _, _, _ => none
  | k + 1, x0, x5, x22 => if x22 = true then (some (0, 0, 20)) else (if 0 < (x0.size : Int) then (if x5 = 2 then (pleacherref02_Decode.j1 k x0 x5 (wrap64 ((wrap64 (bt x0 0)) - 192))) else (if x5 = 3 then (pleacherref02_Decode.j1 k x0 x5 (wrap64 ((wrap64 (bt x0 0)) - 224))) else (if x5 = 4 then (pleacherref02_Decode.j1 k x0 x5 (wrap64 ((wrap64 (bt x0 0)) - 240))) else (pleacherref02_Decode.j1 k x0 x5 (wrap64 (bt x0 0)))))) else (none))
def pleacherref02_Decode.j1 : Nat → ByteArray → Int → Int → Option (Int × Int × Int)
  | 0, _, _, _ => none
  | k + 1, x0, x5, x6 => pleacherref02_Decode.l0 k x0 x5 x6 1
def pleacherref02_Decode.l0 : Nat → ByteArray → Int → Int → Int → Option (Int × Int × Int)
  | 0, _, _, _, _ => none
  | k + 1, x0, x5, x6, x7 => if x7 < x5 then (if 0 ≤ x7 then (if x7 < (x0.size : Int) then (pleacherref02_Decode.l0 k x0 x5 (wrap64 ((wrap64 (64 * x6)) + (Int.tmod (wrap64 (bt x0 x7)) 64))) (wrap64 (x7 + 1))) else (none)) else (none)) else ((pleacherref02_Encode.f x6).bind fun bt144 => (if bt144.2 = 0 then (if 0 ≤ x5 then (if x5 ≤ (x0.size : Int) then (if bt144.1.toList = (x0.extract 0 (x5 : Int).toNat).toList then (some (x6, x5, 0)) else (some (0, 0, 20))) else (none)) else (none)) else (some (0, 0, 20))))
end
def pleacherref02_Decode.f (k : Nat) (a0 : ByteArray) : Option (Int × Int × Int) := if a0.toList = ([] : List UInt8) then (some (0, 0, 10)) else (if 0 < (a0.size : Int) then ((pleacherref02_size.f k (bt a0 0)).bind fun t143 => (if t143 = 0 then (pleacherref02_Decode.j0 k a0 t143 true) else (pleacherref02_Decode.j0 k a0 t143 (decide ((a0.size : Int) < t143))))) else (none))
theorem pleacherref02_Decode.mono_l : ∀ k, (∀ y0 y1 y2, LeO (pleacherref02_Decode.j0 k y0 y1 y2) (pleacherref02_Decode.j0 (k + 1) y0 y1 y2)) ∧ (∀ y0 y1 y2, LeO (pleacherref02_Decode.j1 k y0 y1 y2) (pleacherref02_Decode.j1 (k + 1) y0 y1 y2)) ∧ (∀ y0 y1 y2 y3, LeO (pleacherref02_Decode.l0 k y0 y1 y2 y3) (pleacherref02_Decode.l0 (k + 1) y0 y1 y2 y3))
  | 0 => ⟨fun _ _ _ r h => by simp [pleacherref02_Decode.j0] at h, fun _ _ _ r h => by simp [pleacherref02_Decode.j1] at h, fun _ _ _ _ r h => by simp [pleacherref02_Decode.l0] at h⟩
  | k + 1 => by
    obtain ⟨ih0, ih1, ih2⟩ := pleacherref02_Decode.mono_l k
    refine ⟨?_, ?_, ?_⟩
    · intro y0 y1 y2
      unfold pleacherref02_Decode.j0
      repeat' first
      | (with_reducible exact ih0 _ _ _)
      | (with_reducible exact ih1 _ _ _)
      | (with_reducible exact ih2 _ _ _ _)
      | (with_reducible exact pleacherref02_size.mono _ _)
      | (with_reducible exact LeO.refl _)
      | (with_reducible exact LeO.none _)
      | (with_reducible refine LeO.ite ?_ ?_)
      | (with_reducible refine LeO.bind ?_ (fun _ => ?_))
      | exact ih0 _ _ _
      | exact ih1 _ _ _
      | exact ih2 _ _ _ _
      | exact pleacherref02_size.mono _ _
      | exact LeO.none _
      | refine LeO.ite ?_ ?_
      | refine LeO.bind ?_ (fun _ => ?_)
    · intro y0 y1 y2
      unfold pleacherref02_Decode.j1
      repeat' first
      | (with_reducible exact ih0 _ _ _)
      | (with_reducible exact ih1 _ _ _)
      | (with_reducible exact ih2 _ _ _ _)
      | (with_reducible exact pleacherref02_size.mono _ _)
      | (with_reducible exact LeO.refl _)
      | (with_reducible exact LeO.none _)
      | (with_reducible refine LeO.ite ?_ ?_)
      | (with_reducible refine LeO.bind ?_ (fun _ => ?_))
      | exact ih0 _ _ _
      | exact ih1 _ _ _
      | exact ih2 _ _ _ _
      | exact pleacherref02_size.mono _ _
      | exact LeO.none _
      | refine LeO.ite ?_ ?_
      | refine LeO.bind ?_ (fun _ => ?_)
    · intro y0 y1 y2 y3
      unfold pleacherref02_Decode.l0
      repeat' first
      | (with_reducible exact ih0 _ _ _)
      | (with_reducible exact ih1 _ _ _)
      | (with_reducible exact ih2 _ _ _ _)
      | (with_reducible exact pleacherref02_size.mono _ _)
      | (with_reducible exact LeO.refl _)
      | (with_reducible exact LeO.none _)
      | (with_reducible refine LeO.ite ?_ ?_)
      | (with_reducible refine LeO.bind ?_ (fun _ => ?_))
      | exact ih0 _ _ _
      | exact ih1 _ _ _
      | exact ih2 _ _ _ _
      | exact pleacherref02_size.mono _ _
      | exact LeO.none _
      | refine LeO.ite ?_ ?_
      | refine LeO.bind ?_ (fun _ => ?_)
theorem pleacherref02_Decode.mono : ∀ a0 k, LeO (pleacherref02_Decode.f k a0) (pleacherref02_Decode.f (k + 1) a0) := by
  intro a0 k
  obtain ⟨ih0, ih1, ih2⟩ := pleacherref02_Decode.mono_l k
  unfold pleacherref02_Decode.f
  repeat' first
      | (with_reducible exact ih0 _ _ _)
      | (with_reducible exact ih1 _ _ _)
      | (with_reducible exact ih2 _ _ _ _)
      | (with_reducible exact pleacherref02_size.mono _ _)
      | (with_reducible exact LeO.refl _)
      | (with_reducible exact LeO.none _)
      | (with_reducible refine LeO.ite ?_ ?_)
      | (with_reducible refine LeO.bind ?_ (fun _ => ?_))
      | exact ih0 _ _ _
      | exact ih1 _ _ _
      | exact ih2 _ _ _ _
      | exact pleacherref02_size.mono _ _
      | exact LeO.none _
      | refine LeO.ite ?_ ?_
      | refine LeO.bind ?_ (fun _ => ?_)
set_option maxHeartbeats 8000000 in
set_option maxRecDepth 100000 in
theorem pleacherref02_Decode.calls (k : Nat) (a0 : ByteArray) (r1 : Int) (r2 : Int) (r3 : Int) (w : World) (h : pleacherref02_Decode.f k a0 = some (r1, r2, r3)) :
    Calls Tryz.prog 28 #[.string a0] w fun e w' => e = .returned (.tuple #[.int .i64 r1, .int .i64 r2, .int .i64 r3]) ∧ Below w.heap.size w w' := by
  have HB := Aside0.mk (Below.refl w.heap.size w)
  have H : (if a0.toList = ([] : List UInt8) then (some (0, 0, 10)) else (if 0 < (a0.size : Int) then ((pleacherref02_size.f k (bt a0 0)).bind fun t143 => (if t143 = 0 then (pleacherref02_Decode.j0 k a0 t143 true) else (pleacherref02_Decode.j0 k a0 t143 (decide ((a0.size : Int) < t143))))) else (none))) = some (r1, r2, r3) := h
  clear h
  by_cases c2 : a0.toList = ([] : List UInt8)
  · rw [if_pos c2] at H
    have c2b0 : (a0.toList == ([] : List UInt8)) = true := beq_iff_eq.mpr c2
    have c2b1 : (a0.toList != ([] : List UInt8)) = false := bne_eq_false_iff_eq.mpr c2
    clear c2
    simp only [Option.some.injEq, Prod.mk.injEq] at H
    obtain ⟨rfl, rfl, rfl⟩ := H
    go_enter Tryz.func28, Tryz.ntmps28
    go_wp2
    go_ret3
    exact ⟨by first | rfl | (simp [errW_none, errW_some] <;> rfl) | (simp [*, errW_none, errW_some] <;> rfl), by repeat (first | (with_reducible first | exact HB.out | apply below_alloc | apply pw_below_drewN | apply below_drew1) | exact HB.out)⟩
  · rw [if_neg c2] at H
    have c2b0 : (a0.toList == ([] : List UInt8)) = false := beq_eq_false_iff_ne.mpr c2
    have c2b1 : (a0.toList != ([] : List UInt8)) = true := bne_iff_ne.mpr c2
    by_cases c3 : 0 < (a0.size : Int)
    · rw [if_pos c3] at H
      have c3b0 : decide (0 < (a0.size : Int)) = true := decide_eq_true c3
      have c3b1 : decide (0 < a0.size) = true := decide_eq_true (by omega)
      clear c3
      replace H := Option.bind_eq_some_iff.mp H
      obtain ⟨t143, A50, H⟩ := H
      replace H : (if t143 = 0 then (pleacherref02_Decode.j0 k a0 t143 true) else (pleacherref02_Decode.j0 k a0 t143 (decide ((a0.size : Int) < t143)))) = some (r1, r2, r3) := H
      have A5 := Aside0.mk A50
      clear A50
      have HC6 := Aside0.mk H
      clear H
      have p4 : 0 ≤ (0 : Int) := (by omega)
      have q4 : 0 < a0.size := (by have : (0 : Int) < (a0.size : Int) := of_decide_eq_true (by first | (with_reducible assumption) | assumption); omega)
      have hx4 : ∀ h : 0 < a0.size, ((a0[0]'h).toNat : Int) = bt a0 0 := bt_at a0 0
      clear p4
      have qi4 : (0 < (a0.size : Int)) = True := eq_true (of_decide_eq_true (by first | (with_reducible assumption) | assumption))
      replace q4 := eq_true q4
      go_enter Tryz.func28, Tryz.ntmps28
      go_upto_region 4 with (first | ((with_reducible refine gate_callee (f := 51) rfl ?_); refine goesL_ (some 14) rfl rfl Tryz.func51 (by kernel_rfl) rfl #[.int .u8 (bt a0 0)] rfl (by (try simp only [List.map_toArray, List.map_cons, List.map_nil]); first | done | rfl | (simp only [List.length_drop, List.length_take]; rfl)) ?_; (with_reducible refine (pleacherref02_size.calls k (bt a0 0) t143 _ A5.out).mono ?_); rintro e w' ⟨rfl, ⟨nd, rfl⟩⟩; refine ⟨_, rfl, ?_⟩))
      (try simp only [Act.put, List.setIfInBounds_toArray, List.set_cons_zero, List.set_cons_succ])
      go_cut [22] (fun v22 wc => ∃ (kq : Nat) (x22_5 : Bool), v22 = .bool x22_5 ∧ Aside0 (pleacherref02_Decode.j0 kq a0 t143 x22_5 = some (r1, r2, r3)) ∧ Aside0 (kq ≤ k) ∧ Aside0 (Below w.heap.size w wc))
      case first =>
        have H := HC6.out
        clear HC6
        by_cases c7 : t143 = 0
        · rw [if_pos c7] at H
          have c7b0 : (t143 == 0) = true := beq_iff_eq.mpr c7
          have c7b1 : (t143 != 0) = false := bne_eq_false_iff_eq.mpr c7
          clear c7
          (first | rw [c7b0] | (simp only [i64_w, i32_w]; rw [c7b0]) | skip)
          have H' := Aside0.mk H
          clear H
          go_wp2
          go_meet
          case rel => exact ⟨_, (true), (by first | rfl | (simp; done) | (simp [*]; done)), H', ⟨by first | omega | exact Nat.le_refl _⟩, ⟨by repeat (first | (with_reducible first | exact HB.out | apply below_alloc | apply pw_below_drewN | apply below_drew1) | exact HB.out)⟩⟩
        · rw [if_neg c7] at H
          have c7b0 : (t143 == 0) = false := beq_eq_false_iff_ne.mpr c7
          have c7b1 : (t143 != 0) = true := bne_iff_ne.mpr c7
          (first | rw [c7b0] | (simp only [i64_w, i32_w]; rw [c7b0]) | skip)
          have H' := Aside0.mk H
          clear H
          go_wp2
          go_meet
          case rel => exact ⟨_, (decide ((a0.size : Int) < t143)), (by first | rfl | (simp; done) | (simp [*]; done)), H', ⟨by first | omega | exact Nat.le_refl _⟩, ⟨by repeat (first | (with_reducible first | exact HB.out | apply below_alloc | apply pw_below_drewN | apply below_drew1) | exact HB.out)⟩⟩
      case rest =>
        clear HC6
        try clear c2
        try clear c2b0
        try clear c2b1
        try clear p2
        try clear c3
        try clear c3b0
        try clear c3b1
        try clear p4
        try clear q4
        try clear hx4
        try clear qi4
        try clear c5
        try clear c7
        try clear c7b0
        try clear c7b1
        try clear p4
        try clear q4
        obtain ⟨kq, x22_5, rfl, HA, HJ5, HB⟩ := hcut
        cases kq with
        | zero => exact absurd HA.out (by simp [pleacherref02_Decode.j0])
        | succ kj5 =>
          have H := HA.out
          clear HA
          simp only [pleacherref02_Decode.j0] at H
          by_cases c8 : x22_5 = true
          · subst c8
            have H1 : (some (0, 0, 20)) = some (r1, r2, r3) := by rw [if_pos rfl] at H; exact H
            clear H
            have H := H1
            clear H1
            simp only [Option.some.injEq, Prod.mk.injEq] at H
            obtain ⟨rfl, rfl, rfl⟩ := H
            go_wp2
            go_ret3
            exact ⟨by first | rfl | (simp [errW_none, errW_some] <;> rfl) | (simp [*, errW_none, errW_some] <;> rfl), by repeat (first | (with_reducible first | exact HB.out | apply below_alloc | apply pw_below_drewN | apply below_drew1) | exact HB.out)⟩
          · replace c8 := Bool.eq_false_iff.mpr c8
            subst c8
            have H1 : (if 0 < (a0.size : Int) then (if t143 = 2 then (pleacherref02_Decode.j1 kj5 a0 t143 (wrap64 ((wrap64 (bt a0 0)) - 192))) else (if t143 = 3 then (pleacherref02_Decode.j1 kj5 a0 t143 (wrap64 ((wrap64 (bt a0 0)) - 224))) else (if t143 = 4 then (pleacherref02_Decode.j1 kj5 a0 t143 (wrap64 ((wrap64 (bt a0 0)) - 240))) else (pleacherref02_Decode.j1 kj5 a0 t143 (wrap64 (bt a0 0)))))) else (none)) = some (r1, r2, r3) := by rw [if_neg (show ¬ (false = true) by decide)] at H; exact H
            clear H
            have H := H1
            clear H1
            by_cases c9 : 0 < (a0.size : Int)
            · rw [if_pos c9] at H
              have c9b0 : decide (0 < (a0.size : Int)) = true := decide_eq_true c9
              have c9b1 : decide (0 < a0.size) = true := decide_eq_true (by omega)
              clear c9
              have HC11 := Aside0.mk H
              clear H
              have p10 : 0 ≤ (0 : Int) := (by omega)
              have q10 : 0 < a0.size := (by have : (0 : Int) < (a0.size : Int) := of_decide_eq_true (by first | (with_reducible assumption) | assumption); omega)
              have hx10 : ∀ h : 0 < a0.size, ((a0[0]'h).toNat : Int) = bt a0 0 := bt_at a0 0
              clear p10
              have qi10 : (0 < (a0.size : Int)) = True := eq_true (of_decide_eq_true (by first | (with_reducible assumption) | assumption))
              replace q10 := eq_true q10
              go_upto_block 0 with (fail)
              go_cut [6] (fun v6 wc => ∃ (kq : Nat) (x6_10 : Int), v6 = .int .i64 x6_10 ∧ Aside0 (pleacherref02_Decode.j1 kq a0 t143 x6_10 = some (r1, r2, r3)) ∧ Aside0 (kq ≤ kj5) ∧ Aside0 (Below w.heap.size w wc))
              case first =>
                have H := HC11.out
                clear HC11
                by_cases c12 : t143 = 2
                · rw [if_pos c12] at H
                  have c12b0 : (t143 == 2) = true := beq_iff_eq.mpr c12
                  have c12b1 : (t143 != 2) = false := bne_eq_false_iff_eq.mpr c12
                  clear c12
                  (first | rw [c12b0] | (simp only [i64_w, i32_w]; rw [c12b0]) | skip)
                  have H' := Aside0.mk H
                  clear H
                  go_wp2
                  go_meet
                  case rel => exact ⟨_, (wrap64 ((wrap64 (bt a0 0)) - 192)), (by first | rfl | (simp; done) | (simp [*]; done)), H', ⟨by have := HJ5.out; first | omega | exact Nat.le_refl _⟩, ⟨by repeat (first | (with_reducible first | exact HB.out | apply below_alloc | apply pw_below_drewN | apply below_drew1) | exact HB.out)⟩⟩
                · rw [if_neg c12] at H
                  have c12b0 : (t143 == 2) = false := beq_eq_false_iff_ne.mpr c12
                  have c12b1 : (t143 != 2) = true := bne_iff_ne.mpr c12
                  (first | rw [c12b0] | (simp only [i64_w, i32_w]; rw [c12b0]) | skip)
                  by_cases c13 : t143 = 3
                  · rw [if_pos c13] at H
                    have c13b0 : (t143 == 3) = true := beq_iff_eq.mpr c13
                    have c13b1 : (t143 != 3) = false := bne_eq_false_iff_eq.mpr c13
                    clear c13
                    have H' := Aside0.mk H
                    clear H
                    go_wp2
                    go_meet
                    case rel => exact ⟨_, (wrap64 ((wrap64 (bt a0 0)) - 224)), (by first | rfl | (simp; done) | (simp [*]; done)), H', ⟨by have := HJ5.out; first | omega | exact Nat.le_refl _⟩, ⟨by repeat (first | (with_reducible first | exact HB.out | apply below_alloc | apply pw_below_drewN | apply below_drew1) | exact HB.out)⟩⟩
                  · rw [if_neg c13] at H
                    have c13b0 : (t143 == 3) = false := beq_eq_false_iff_ne.mpr c13
                    have c13b1 : (t143 != 3) = true := bne_iff_ne.mpr c13
                    by_cases c14 : t143 = 4
                    · rw [if_pos c14] at H
                      have c14b0 : (t143 == 4) = true := beq_iff_eq.mpr c14
                      have c14b1 : (t143 != 4) = false := bne_eq_false_iff_eq.mpr c14
                      clear c14
                      have H' := Aside0.mk H
                      clear H
                      go_wp2
                      go_meet
                      case rel => exact ⟨_, (wrap64 ((wrap64 (bt a0 0)) - 240)), (by first | rfl | (simp; done) | (simp [*]; done)), H', ⟨by have := HJ5.out; first | omega | exact Nat.le_refl _⟩, ⟨by repeat (first | (with_reducible first | exact HB.out | apply below_alloc | apply pw_below_drewN | apply below_drew1) | exact HB.out)⟩⟩
                    · rw [if_neg c14] at H
                      have c14b0 : (t143 == 4) = false := beq_eq_false_iff_ne.mpr c14
                      have c14b1 : (t143 != 4) = true := bne_iff_ne.mpr c14
                      have H' := Aside0.mk H
                      clear H
                      go_wp2
                      go_meet
                      case rel => exact ⟨_, (wrap64 (bt a0 0)), (by first | rfl | (simp; done) | (simp [*]; done)), H', ⟨by have := HJ5.out; first | omega | exact Nat.le_refl _⟩, ⟨by repeat (first | (with_reducible first | exact HB.out | apply below_alloc | apply pw_below_drewN | apply below_drew1) | exact HB.out)⟩⟩
              case rest =>
                clear HC11
                try clear c1
                try clear p1
                try clear q1
                try clear hx1
                try clear qi1
                try clear c2
                try clear c2b0
                try clear c2b1
                try clear p2
                try clear c3
                try clear c3b0
                try clear c3b1
                try clear p4
                try clear q4
                try clear hx4
                try clear qi4
                try clear c5
                try clear p6
                try clear c7
                try clear c7b0
                try clear c7b1
                try clear c8
                try clear c9
                try clear c9b0
                try clear c9b1
                try clear p10
                try clear q10
                try clear hx10
                try clear qi10
                try clear c12
                try clear c12b0
                try clear c12b1
                try clear c13
                try clear c13b0
                try clear c13b1
                try clear c14
                try clear c14b0
                try clear c14b1
                try clear p10
                try clear p2
                try clear p4
                try clear q10
                try clear q4
                obtain ⟨kq, x6_10, rfl, HA, HJ10, HB⟩ := hcut
                cases kq with
                | zero => exact absurd HA.out (by simp [pleacherref02_Decode.j1])
                | succ kj10 =>
                  have H := HA.out
                  clear HA
                  simp only [pleacherref02_Decode.j1] at H
                  have H' := Aside0.mk H
                  clear H
                  go_wp2
                  go_loopg [6, 7] kj10 (fun kq v6 v7 w' => ∃ (x6_3 : Int) (x7_3 : Int), v6 = .int .i64 x6_3 ∧ v7 = .int .i64 x7_3 ∧ Aside0 (pleacherref02_Decode.l0 kq a0 t143 x6_3 x7_3 = some (r1, r2, r3)) ∧ Aside0 (kq ≤ kj10) ∧ Aside0 (Below w.heap.size w w'))
                  case atStart => exact ⟨(x6_10), (1), (by first | rfl | (simp; done) | (simp [*]; done)), (by first | rfl | (simp; done) | (simp [*]; done)), H', ⟨Nat.le_refl _⟩, ⟨by repeat (first | (with_reducible first | exact HB.out | apply below_alloc | apply pw_below_drewN | apply below_drew1) | exact HB.out)⟩⟩
                  case round =>
                    clear H'
                    try clear c1
                    try clear p1
                    try clear q1
                    try clear hx1
                    try clear qi1
                    try clear c2
                    try clear c2b0
                    try clear c2b1
                    try clear p2
                    try clear c3
                    try clear c3b0
                    try clear c3b1
                    try clear p4
                    try clear q4
                    try clear hx4
                    try clear qi4
                    try clear c5
                    try clear p6
                    try clear c7
                    try clear c7b0
                    try clear c7b1
                    try clear c8
                    try clear c9
                    try clear c9b0
                    try clear c9b1
                    try clear p10
                    try clear q10
                    try clear hx10
                    try clear qi10
                    try clear c12
                    try clear c12b0
                    try clear c12b1
                    try clear c13
                    try clear c13b0
                    try clear c13b1
                    try clear c14
                    try clear c14b0
                    try clear c14b1
                    try clear p1
                    try clear p10
                    try clear p2
                    try clear p4
                    try clear p6
                    try clear q1
                    try clear q10
                    try clear q4
                    obtain ⟨x6_3, x7_3, rfl, rfl, HA, HK3, HB⟩ := hrel
                    cases gk with
                    | zero => exact absurd HA.out (by simp [pleacherref02_Decode.l0])
                    | succ k3 =>
                      have H := HA.out
                      clear HA
                      simp only [pleacherref02_Decode.l0] at H
                      by_cases c15 : x7_3 < t143
                      · rw [if_pos c15] at H
                        have c15b0 : decide (x7_3 < t143) = true := decide_eq_true c15
                        clear c15
                        by_cases c16 : 0 ≤ x7_3
                        · rw [if_pos c16] at H
                          have c16b0 : decide (0 ≤ x7_3) = true := decide_eq_true c16
                          clear c16
                          by_cases c17 : x7_3 < (a0.size : Int)
                          · rw [if_pos c17] at H
                            have c17b0 : decide (x7_3 < (a0.size : Int)) = true := decide_eq_true c17
                            clear c17
                            have H' := Aside0.mk H
                            clear H
                            have p18 : 0 ≤ (x7_3 : Int) := of_decide_eq_true (by first | (with_reducible assumption) | assumption)
                            have q18 : x7_3 < (a0.size : Int) := of_decide_eq_true (by first | (with_reducible assumption) | assumption)
                            have hx18 := bt_at a0 x7_3
                            replace p18 := eq_true p18
                            replace q18 := eq_true q18
                            go_wp2
                            go_roundg k3
                            case measure => have := HJ5.out; have := HJ10.out; have := HK3.out; omega
                            case rel => exact ⟨(wrap64 ((wrap64 (64 * x6_3)) + (Int.tmod (wrap64 (bt a0 x7_3)) 64))), (wrap64 (x7_3 + 1)), (by first | rfl | (simp; done) | (simp [*]; done)), (by first | rfl | (simp; done) | (simp [*]; done)), H', ⟨by have := HJ5.out; have := HJ10.out; have := HK3.out; omega⟩, ⟨by repeat (first | (with_reducible first | exact HB.out | apply below_alloc | apply pw_below_drewN | apply below_drew1) | exact HB.out)⟩⟩
                          · rw [if_neg c17] at H
                            exact absurd H (by simp)
                        · rw [if_neg c16] at H
                          exact absurd H (by simp)
                      · rw [if_neg c15] at H
                        have c15b0 : decide (x7_3 < t143) = false := decide_eq_false c15
                        clear c15
                        replace H := Option.bind_eq_some_iff.mp H
                        obtain ⟨⟨t144, t145⟩, A190, H⟩ := H
                        replace H : (if t145 = 0 then (if 0 ≤ t143 then (if t143 ≤ (a0.size : Int) then (if t144.toList = (a0.extract 0 (t143 : Int).toNat).toList then (some (x6_3, t143, 0)) else (some (0, 0, 20))) else (none)) else (none)) else (some (0, 0, 20))) = some (r1, r2, r3) := H
                        have A19 := Aside0.mk A190
                        clear A190
                        by_cases c20 : t145 = 0
                        · rw [if_pos c20] at H
                          have c20b0 : (t145 == 0) = true := beq_iff_eq.mpr c20
                          have c20b1 : (t145 != 0) = false := bne_eq_false_iff_eq.mpr c20
                          clear c20
                          by_cases c21 : 0 ≤ t143
                          · rw [if_pos c21] at H
                            have c21b0 := eq_true c21
                            have c21b1 : decide (0 ≤ t143) = true := decide_eq_true c21
                            clear c21
                            by_cases c22 : t143 ≤ (a0.size : Int)
                            · rw [if_pos c22] at H
                              have c22b0 := eq_true c22
                              have c22b1 : decide (t143 ≤ (a0.size : Int)) = true := decide_eq_true c22
                              clear c22
                              by_cases c23 : t144.toList = (a0.extract 0 (t143 : Int).toNat).toList
                              · rw [if_pos c23] at H
                                have c23b0 : (t144.toList == (a0.extract 0 (t143 : Int).toNat).toList) = true := beq_iff_eq.mpr c23
                                have c23b1 : (t144.toList != (a0.extract 0 (t143 : Int).toNat).toList) = false := bne_eq_false_iff_eq.mpr c23
                                clear c23
                                simp only [Option.some.injEq, Prod.mk.injEq] at H
                                obtain ⟨rfl, rfl, rfl⟩ := H
                                go_wp2_with (first | ((with_reducible refine gate_callee (f := 30) rfl ?_); refine goesL_ (some 54) rfl rfl Tryz.func30 (by kernel_rfl) rfl #[.int .i64 x6_3] rfl (by (try simp only [List.map_toArray, List.map_cons, List.map_nil]); first | done | rfl | (simp only [List.length_drop, List.length_take]; rfl)) ?_; (with_reducible refine (pleacherref02_Encode.calls x6_3 t144 t145 _ A19.out).mono ?_); rintro e w24 ⟨rfl, hb⟩; refine ⟨_, rfl, ?_⟩; have n0_ := Aside0.mk (below_step (by repeat (first | (with_reducible first | exact HB.out | apply below_alloc | apply pw_below_drewN | apply below_drew1) | exact HB.out)) hb); clear HB; have HB := n0_; clear n0_; (try clear hb); (try clear hb2); (try clear hk); (try clear hi)))
                                go_ret3
                                exact ⟨by first | rfl | (simp [errW_none, errW_some] <;> rfl) | (simp [*, errW_none, errW_some] <;> rfl), by repeat (first | (with_reducible first | exact HB.out | apply below_alloc | apply pw_below_drewN | apply below_drew1) | exact HB.out)⟩
                              · rw [if_neg c23] at H
                                have c23b0 : (t144.toList == (a0.extract 0 (t143 : Int).toNat).toList) = false := beq_eq_false_iff_ne.mpr c23
                                have c23b1 : (t144.toList != (a0.extract 0 (t143 : Int).toNat).toList) = true := bne_iff_ne.mpr c23
                                simp only [Option.some.injEq, Prod.mk.injEq] at H
                                obtain ⟨rfl, rfl, rfl⟩ := H
                                go_wp2_with (first | ((with_reducible refine gate_callee (f := 30) rfl ?_); refine goesL_ (some 54) rfl rfl Tryz.func30 (by kernel_rfl) rfl #[.int .i64 x6_3] rfl (by (try simp only [List.map_toArray, List.map_cons, List.map_nil]); first | done | rfl | (simp only [List.length_drop, List.length_take]; rfl)) ?_; (with_reducible refine (pleacherref02_Encode.calls x6_3 t144 t145 _ A19.out).mono ?_); rintro e w25 ⟨rfl, hb⟩; refine ⟨_, rfl, ?_⟩; have n0_ := Aside0.mk (below_step (by repeat (first | (with_reducible first | exact HB.out | apply below_alloc | apply pw_below_drewN | apply below_drew1) | exact HB.out)) hb); clear HB; have HB := n0_; clear n0_; (try clear hb); (try clear hb2); (try clear hk); (try clear hi)))
                                go_ret3
                                exact ⟨by first | rfl | (simp [errW_none, errW_some] <;> rfl) | (simp [*, errW_none, errW_some] <;> rfl), by repeat (first | (with_reducible first | exact HB.out | apply below_alloc | apply pw_below_drewN | apply below_drew1) | exact HB.out)⟩
                            · rw [if_neg c22] at H
                              exact absurd H (by simp)
                          · rw [if_neg c21] at H
                            exact absurd H (by simp)
                        · rw [if_neg c20] at H
                          have c20b0 : (t145 == 0) = false := beq_eq_false_iff_ne.mpr c20
                          have c20b1 : (t145 != 0) = true := bne_iff_ne.mpr c20
                          simp only [Option.some.injEq, Prod.mk.injEq] at H
                          obtain ⟨rfl, rfl, rfl⟩ := H
                          go_wp2_with (first | ((with_reducible refine gate_callee (f := 30) rfl ?_); refine goesL_ (some 54) rfl rfl Tryz.func30 (by kernel_rfl) rfl #[.int .i64 x6_3] rfl (by (try simp only [List.map_toArray, List.map_cons, List.map_nil]); first | done | rfl | (simp only [List.length_drop, List.length_take]; rfl)) ?_; (with_reducible refine (pleacherref02_Encode.calls x6_3 t144 t145 _ A19.out).mono ?_); rintro e w26 ⟨rfl, hb⟩; refine ⟨_, rfl, ?_⟩; have n0_ := Aside0.mk (below_step (by repeat (first | (with_reducible first | exact HB.out | apply below_alloc | apply pw_below_drewN | apply below_drew1) | exact HB.out)) hb); clear HB; have HB := n0_; clear n0_; (try clear hb); (try clear hb2); (try clear hk); (try clear hi)))
                          go_ret3
                          exact ⟨by first | rfl | (simp [errW_none, errW_some] <;> rfl) | (simp [*, errW_none, errW_some] <;> rfl), by repeat (first | (with_reducible first | exact HB.out | apply below_alloc | apply pw_below_drewN | apply below_drew1) | exact HB.out)⟩
            · rw [if_neg c9] at H
              exact absurd H (by simp)
    · rw [if_neg c3] at H
      exact absurd H (by simp)

end Go.Proofs.YtbcjhmeeonhmaaaGreatDoor.M
end

-- Laid by a program of this session for this claim.
section
namespace Go.Proofs.YtbcjhmeeonhmaaaGreatDoor.M
open Go.RowKit Go.Proofs.YtbcjhmeeonhmaaaGreatDoorW.PrintWords Go.Proofs.YtbcjhmeeonhmaaaGreatDoorW.PrintLast Go.Proofs.YtbcjhmeeonhmaaaGreatDoorW.PrintMore
attribute [local go_sem] max2_int min2_int max_two min_two max_three min_three max_four min_four   -- for this text's walks alone
set_option linter.unusedVariables false
set_option linter.unusedSimpArgs false

/-! ### pleacherref02_Runes: function 70 -/
def pleacherref02_Runes.l0 : Nat → ByteArray → List Int → Int → Option (List Int × Int)
  | 0, _, _, _ => none
  | k + 1, x0, x4, x5 => if x5 < (x0.size : Int) then (if 0 ≤ x5 then (if x5 ≤ (x0.size : Int) then ((pleacherref02_Decode.f k (x0.extract (x5 : Int).toNat x0.size)).bind fun bt237 => (if bt237.2.2 = 0 then (if x4.length < 17592186044416 then (pleacherref02_Runes.l0 k x0 (x4 ++ [bt237.1]) (wrap64 (x5 + bt237.2.1))) else (none)) else (some (x4, x5)))) else (none)) else (none)) else (some (x4, x5))
def pleacherref02_Runes.f (k : Nat) (a0 : ByteArray) : Option (List Int × Int) := pleacherref02_Runes.l0 k a0 ([] : List Int) 0
set_option maxHeartbeats 8000000 in
set_option maxRecDepth 100000 in
theorem pleacherref02_Runes.calls (k : Nat) (a0 : ByteArray) (r1 : List Int) (r2 : Int) (w : World) (h : pleacherref02_Runes.f k a0 = some (r1, r2)) :
    Calls Tryz.prog 70 #[.string a0] w fun e w' => ∃ v0_ : Value, e = .returned (.tuple #[v0_, .int .i64 r2]) ∧ Kd.R (Kd.int .i64) 3 w' w.heap.size (fun _ => True) v0_ r1 ∧ Below w.heap.size w w' := by
  have HB := Aside0.mk (Below.refl w.heap.size w)
  have H : (pleacherref02_Runes.l0 k a0 ([] : List Int) 0) = some (r1, r2) := h
  clear h
  have H' := Aside0.mk H
  clear H
  go_enter Tryz.func70, Tryz.ntmps70
  go_wp2
  go_loopg [4, 5] k (fun kq v4 v5 w' => ∃ (x4_1 : List Int) (x5_1 : Int), v5 = .int .i64 x5_1 ∧ Aside0 (pleacherref02_Runes.l0 kq a0 x4_1 x5_1 = some (r1, r2)) ∧ Aside0 (kq ≤ k) ∧ Aside0 (Kd.R (Kd.int .i64) 3 w' w.heap.size (fun _ => True) v4 x4_1) ∧ Aside0 (Below w.heap.size w w'))
  case atStart => exact ⟨(([] : List Int)), (0), (by first | rfl | (simp; done) | (simp [*]; done)), H', ⟨Nat.le_refl _⟩, ⟨by first | exact Kd.R_nil _ _ _ _ _ | exact Kd.N_nil _ _ _ _ _ | exact Kd.V_nil _ _ _ _ _ | exact Kd.Q_nil _ _ _ _ _ | exact Kd.S_nil _ _ _ _ _⟩, ⟨by repeat (first | (with_reducible first | exact HB.out | apply below_alloc | apply pw_below_drewN | apply below_drew1) | exact HB.out)⟩⟩
  case round =>
    clear H'
    obtain ⟨x4_1, x5_1, rfl, HA, HK1, HO_4, HB⟩ := hrel
    cases gk with
    | zero => exact absurd HA.out (by simp [pleacherref02_Runes.l0])
    | succ k1 =>
      have H := HA.out
      clear HA
      simp only [pleacherref02_Runes.l0] at H
      by_cases c2 : x5_1 < (a0.size : Int)
      · rw [if_pos c2] at H
        have c2b0 : decide (x5_1 < (a0.size : Int)) = true := decide_eq_true c2
        clear c2
        by_cases c3 : 0 ≤ x5_1
        · rw [if_pos c3] at H
          have c3b0 := eq_true c3
          have c3b1 : decide (0 ≤ x5_1) = true := decide_eq_true c3
          clear c3
          by_cases c4 : x5_1 ≤ (a0.size : Int)
          · rw [if_pos c4] at H
            have c4b0 := eq_true c4
            have c4b1 : decide (x5_1 ≤ (a0.size : Int)) = true := decide_eq_true c4
            clear c4
            replace H := Option.bind_eq_some_iff.mp H
            obtain ⟨⟨t237, t238, t239⟩, A50, H⟩ := H
            replace H : (if t239 = 0 then (if x4_1.length < 17592186044416 then (pleacherref02_Runes.l0 k1 a0 (x4_1 ++ [t237]) (wrap64 (x5_1 + t238))) else (none)) else (some (x4_1, x5_1))) = some (r1, r2) := H
            have A5 := Aside0.mk A50
            clear A50
            by_cases c6 : t239 = 0
            · rw [if_pos c6] at H
              have c6b0 : (t239 == 0) = true := beq_iff_eq.mpr c6
              have c6b1 : (t239 != 0) = false := bne_eq_false_iff_eq.mpr c6
              clear c6
              by_cases c7 : x4_1.length < 17592186044416
              · rw [if_pos c7] at H
                have LMc7 := Aside0.mk c7
                clear c7
                obtain ⟨y240, hy240⟩ : ∃ y_ : List Int, y_ = (x4_1 ++ [t237]) := ⟨_, rfl⟩
                replace H : (pleacherref02_Runes.l0 k1 a0 y240 (wrap64 (x5_1 + t238))) = some (r1, r2) := by first | (rw [hy240]; with_reducible exact H) | (have H2_ := (Option.bind_some _ _).symm.trans H; rw [hy240]; with_reducible exact H2_) | (have H2_ := (Option.bind_some _ _).symm.trans H; with_reducible exact H2_) | with_reducible exact H | (rw [hy240]; exact H) | exact H
                have Ny240 := Aside0.mk hy240
                clear hy240
                have H' := Aside0.mk H
                clear H
                go_wp2_with (first | ((with_reducible refine gate_callee (f := 28) rfl ?_); refine goesL_ (some 17) rfl rfl Tryz.func28 (by kernel_rfl) rfl #[.string (a0.extract (x5_1 : Int).toNat a0.size)] rfl (by (try simp only [List.map_toArray, List.map_cons, List.map_nil]); first | done | rfl | (simp only [List.length_drop, List.length_take]; rfl)) ?_; (with_reducible refine (pleacherref02_Decode.calls k1 (a0.extract (x5_1 : Int).toNat a0.size) t237 t238 t239 _ A5.out).mono ?_); rintro e w8 ⟨rfl, hb⟩; refine ⟨_, rfl, ?_⟩; have n0_ := Aside0.mk (Kd.R_below (by (with_reducible repeat (first | apply Kd.R_alloc | apply Kd.R_drewN | apply Kd.R_drew)); exact HO_4.out) hb); have n1_ := Aside0.mk (below_step (by repeat (first | (with_reducible first | exact HB.out | apply below_alloc | apply pw_below_drewN | apply below_drew1) | exact HB.out)) hb); clear HO_4; clear HB; have HO_4 := n0_; have HB := n1_; clear n0_ n1_; (try clear hb); (try clear hb2); (try clear hk); (try clear hi)) | ((with_reducible refine gate_builtin (b := .append) (xs := #[.tmp 25, .tmp 27]) rfl ?_); at_builtin; refine Kd.R_append (Kd.int .i64) (w0 := w) w.heap.size rfl (.tmp 25) (.tmp 27) 115 3 (.int .i64 0) 8 rfl Tryz.underlying115 info3 rfl (by decide) (by omega) u4 x4_1 t237 [.int .i64 t237] (fun _ => True) (fun _ => False) rfl rfl ?aP (fun _ hk => hk.elim) ?aF ?aO ?aB ?aS ?aL ?_; (case aP => exact rfl); (case aB => exact (by repeat (first | (with_reducible first | exact HB.out | apply below_alloc | apply pw_below_drewN | apply below_drew1) | exact HB.out))); (case aF => exact (fun _ _ => trivial)); (case aO => exact (by (with_reducible repeat (first | apply Kd.R_alloc | apply Kd.R_drewN | apply Kd.R_drew)); exact HO_4.out)); (case aS => exact (below_size (by repeat (first | (with_reducible first | exact HB.out | apply below_alloc | apply pw_below_drewN | apply below_drew1) | exact HB.out)))); (case aL => have := LMc7.out; omega); intro v241 w9 ho hb hg hat; rw [← Ny240.out] at ho; have n0_ := Aside0.mk (hb); have n1_ := Aside0.mk (ho); clear HB; clear HO_4; have HB := n0_; have HO242 := n1_; clear n0_ n1_; clear ho hb hg hat))
                go_roundg k1
                case measure => have := HK1.out; omega
                case rel => exact ⟨(y240), (wrap64 (x5_1 + t238)), (by first | rfl | (simp; done) | (simp [*]; done)), H', ⟨by have := HK1.out; omega⟩, ⟨by (with_reducible repeat (first | apply Kd.R_alloc | apply Kd.R_drewN | apply Kd.R_drew)); exact HO242.out⟩, ⟨by repeat (first | (with_reducible first | exact HB.out | apply below_alloc | apply pw_below_drewN | apply below_drew1) | exact HB.out)⟩⟩
              · rw [if_neg c7] at H
                exact absurd H (by simp)
            · rw [if_neg c6] at H
              have c6b0 : (t239 == 0) = false := beq_eq_false_iff_ne.mpr c6
              have c6b1 : (t239 != 0) = true := bne_iff_ne.mpr c6
              simp only [Option.some.injEq, Prod.mk.injEq] at H
              obtain ⟨rfl, rfl⟩ := H
              go_wp2_with (first | ((with_reducible refine gate_callee (f := 28) rfl ?_); refine goesL_ (some 17) rfl rfl Tryz.func28 (by kernel_rfl) rfl #[.string (a0.extract (x5_1 : Int).toNat a0.size)] rfl (by (try simp only [List.map_toArray, List.map_cons, List.map_nil]); first | done | rfl | (simp only [List.length_drop, List.length_take]; rfl)) ?_; (with_reducible refine (pleacherref02_Decode.calls k1 (a0.extract (x5_1 : Int).toNat a0.size) t237 t238 t239 _ A5.out).mono ?_); rintro e w10 ⟨rfl, hb⟩; refine ⟨_, rfl, ?_⟩; have n0_ := Aside0.mk (Kd.R_below (by (with_reducible repeat (first | apply Kd.R_alloc | apply Kd.R_drewN | apply Kd.R_drew)); exact HO_4.out) hb); have n1_ := Aside0.mk (below_step (by repeat (first | (with_reducible first | exact HB.out | apply below_alloc | apply pw_below_drewN | apply below_drew1) | exact HB.out)) hb); clear HO_4; clear HB; have HO_4 := n0_; have HB := n1_; clear n0_ n1_; (try clear hb); (try clear hb2); (try clear hk); (try clear hi)))
              go_ret2
              exact ⟨_, by first | rfl | (simp [errW_none, errW_some] <;> rfl) | (simp [*, errW_none, errW_some] <;> rfl), by (with_reducible repeat (first | apply Kd.R_alloc | apply Kd.R_drewN | apply Kd.R_drew)); exact HO_4.out, by repeat (first | (with_reducible first | exact HB.out | apply below_alloc | apply pw_below_drewN | apply below_drew1) | exact HB.out)⟩
          · rw [if_neg c4] at H
            exact absurd H (by simp)
        · rw [if_neg c3] at H
          exact absurd H (by simp)
      · rw [if_neg c2] at H
        have c2b0 : decide (x5_1 < (a0.size : Int)) = false := decide_eq_false c2
        clear c2
        simp only [Option.some.injEq, Prod.mk.injEq] at H
        obtain ⟨rfl, rfl⟩ := H
        go_wp2
        go_ret2
        exact ⟨_, by first | rfl | (simp [errW_none, errW_some] <;> rfl) | (simp [*, errW_none, errW_some] <;> rfl), by (with_reducible repeat (first | apply Kd.R_alloc | apply Kd.R_drewN | apply Kd.R_drew)); exact HO_4.out, by repeat (first | (with_reducible first | exact HB.out | apply below_alloc | apply pw_below_drewN | apply below_drew1) | exact HB.out)⟩

end Go.Proofs.YtbcjhmeeonhmaaaGreatDoor.M
end

/-
The document's decoder (pleacherref02) and the program's say the same. No program in sight: equations between computable functions.
-/
section
set_option linter.unusedVariables false
set_option maxRecDepth 100000
namespace Go.Proofs.YtbcjhmeeonhmaaaGreatDoor.H
open Go Go.RowKit Go.Proofs.YtbcjhmeeonhmaaaGreatDoorW.PrintWords Go.Proofs.YtbcjhmeeonhmaaaGreatDoorW.PrintMore Go.Proofs.YtbcjhmeeonhmaaaGreatDoor.M

theorem ref02_in (a b c : Int) : pleacherref02_in.f a b c = some (decide (b ≤ a) && decide (a ≤ c)) := by
  unfold pleacherref02_in.f
  by_cases h : a ≥ b
  · rw [if_pos h]; simp [h]
  · rw [if_neg h]; simp [h]
theorem ref02_is (r : Int) : pleacherref02_is.f r = some (isR r) := by
  unfold pleacherref02_is.f
  rw [ref02_in, ref02_in]
  simp only [Option.bind_some]
  by_cases h : 0 ≤ r ∧ r ≤ 1114111
  · rw [if_pos (by simp [h])]
    refine congrArg some ?_
    unfold isR
    rw [Bool.eq_iff_iff]
    simp
    omega
  · rw [if_neg (by simpa using h)]
    refine congrArg some ?_
    unfold isR
    symm
    rw [Bool.eq_false_iff]
    simp
    omega
theorem isR_bd {r : Int} (h : isR r = true) : 0 ≤ r ∧ r ≤ 1114111 := by
  unfold isR at h; simp at h; omega
theorem w64 {x : Int} (h0 : -9223372036854775808 ≤ x) (h1 : x ≤ 9223372036854775807) : wrap64 x = x := by unfold wrap64; omega
theorem ref02_encode (r : Int) : pleacherref02_Encode.f r = some (encS r) := by
  unfold pleacherref02_Encode.f
  rw [ref02_is]
  simp only [Option.bind_some]
  unfold encS
  by_cases h : isR r = true
  · rw [if_pos h, if_pos h]
    have hb := isR_bd h
    have t1 : Int.tdiv r 64 = r / 64 := Int.tdiv_eq_ediv_of_nonneg hb.1
    have t2 : Int.tdiv r 4096 = r / 4096 := Int.tdiv_eq_ediv_of_nonneg hb.1
    have t3 : Int.tdiv r 262144 = r / 262144 := Int.tdiv_eq_ediv_of_nonneg hb.1
    have t4 : Int.tmod r 64 = r % 64 := Int.tmod_eq_emod_of_nonneg hb.1
    rw [t1, t2, t3, t4]
    have w1 : wrap64 (r / 64) = r / 64 := w64 (by omega) (by omega)
    have w2 : wrap64 (r / 4096) = r / 4096 := w64 (by omega) (by omega)
    have w3 : wrap64 (r / 262144) = r / 262144 := w64 (by omega) (by omega)
    rw [w1, w2, w3]
    have t5 : Int.tmod (r / 64) 64 = r / 64 % 64 := Int.tmod_eq_emod_of_nonneg (by omega)
    have t6 : Int.tmod (r / 4096) 64 = r / 4096 % 64 := Int.tmod_eq_emod_of_nonneg (by omega)
    rw [t5, t6]
    rw [w64 (x := 192 + r / 64) (by omega) (by omega), w64 (x := 128 + r % 64) (by omega) (by omega), w64 (x := 224 + r / 4096) (by omega) (by omega), w64 (x := 128 + r / 64 % 64) (by omega) (by omega), w64 (x := 240 + r / 262144) (by omega) (by omega), w64 (x := 128 + r / 4096 % 64) (by omega) (by omega)]
    unfold encL
    by_cases a1 : r < 128
    · rw [if_pos a1, if_pos a1, if_pos (by simp), m256 r (by omega) (by omega)]; rfl
    · rw [if_neg a1, if_neg a1]
      by_cases a2 : r < 2048
      · rw [if_pos a2, if_pos a2, m256 (192 + r / 64) (by omega) (by omega), m256 (128 + r % 64) (by omega) (by omega)]; rfl
      · rw [if_neg a2, if_neg a2]
        by_cases a3 : r < 65536
        · rw [if_pos a3, if_pos a3, m256 (224 + r / 4096) (by omega) (by omega), m256 (128 + r / 64 % 64) (by omega) (by omega), m256 (128 + r % 64) (by omega) (by omega)]; rfl
        · rw [if_neg a3, if_neg a3, m256 (240 + r / 262144) (by omega) (by omega), m256 (128 + r / 4096 % 64) (by omega) (by omega), m256 (128 + r / 64 % 64) (by omega) (by omega), m256 (128 + r % 64) (by omega) (by omega)]; rfl
  · rw [if_neg h, if_neg h]

/-- The first byte. -/
theorem ref02_size {c : Int} (h0 : 0 ≤ c) (h1 : c ≤ 255) :
    (c < 128 ∧ utf_head.f c = some (0, c) ∧ pleacherref02_size.f 4 c = some 1) ∨
    (192 ≤ c ∧ c < 224 ∧ utf_head.f c = some (1, c - 192) ∧ pleacherref02_size.f 4 c = some 2) ∨
    (224 ≤ c ∧ c < 240 ∧ utf_head.f c = some (2, c - 224) ∧ pleacherref02_size.f 4 c = some 3) ∨
    (240 ≤ c ∧ c < 248 ∧ utf_head.f c = some (3, c - 240) ∧ pleacherref02_size.f 4 c = some 4) ∨
    (utf_head.f c = some (-1, 0) ∧ pleacherref02_size.f 4 c = some 0) := by
  rcases (by omega : c < 128 ∨ (128 ≤ c ∧ c < 192) ∨ (192 ≤ c ∧ c < 224) ∨ (224 ≤ c ∧ c < 240) ∨ (240 ≤ c ∧ c < 248) ∨ 248 ≤ c) with h | h | h | h | h | h
  · left
    refine ⟨h, ?_, ?_⟩
    · unfold utf_head.f
      rw [if_neg (by omega), if_neg (by omega), if_neg (by omega), if_neg (by omega), if_neg (by omega), if_pos h, w64 (by omega) (by omega)]
    · unfold pleacherref02_size.f; rw [if_pos h]
  · iterate 4 right
    refine ⟨?_, ?_⟩
    · unfold utf_head.f
      rw [if_neg (by omega), if_neg (by omega), if_neg (by omega), if_neg (by omega), if_pos (by omega), if_neg (by omega)]
    · unfold pleacherref02_size.f
      rw [if_neg (by omega), if_neg (by omega)]
      simp only [pleacherref02_size.j0, pleacherref02_size.j1, Bool.false_eq_true, if_false]
      rw [if_neg (by omega)]
      rw [if_neg (by omega)]
  · right; left
    refine ⟨h.1, h.2, ?_, ?_⟩
    · unfold utf_head.f
      rw [if_neg (by omega), if_neg (by omega), if_neg (by omega), if_pos (by omega), m256 _ (by omega) (by omega)]
    · unfold pleacherref02_size.f
      rw [if_neg (by omega), if_pos (by omega)]
      simp only [pleacherref02_size.j0, h.2, decide_true, if_true]
  · right; right; left
    refine ⟨h.1, h.2, ?_, ?_⟩
    · unfold utf_head.f
      rw [if_neg (by omega), if_neg (by omega), if_pos (by omega), m256 _ (by omega) (by omega)]
    · have h2 : ¬ c < 224 := by omega
      unfold pleacherref02_size.f
      rw [if_neg (by omega), if_pos (by omega)]
      simp only [pleacherref02_size.j0, pleacherref02_size.j1, h2, decide_false, Bool.false_eq_true, if_false]
      rw [if_pos (by omega)]
      simp only [h.2, decide_true, if_true]
  · right; right; right; left
    refine ⟨h.1, h.2, ?_, ?_⟩
    · unfold utf_head.f
      rw [if_neg (by omega), if_pos (by omega), m256 _ (by omega) (by omega)]
    · have h2 : ¬ c < 224 := by omega
      have h3 : ¬ c < 240 := by omega
      unfold pleacherref02_size.f
      rw [if_neg (by omega), if_pos (by omega)]
      simp only [pleacherref02_size.j0, pleacherref02_size.j1, h2, decide_false, Bool.false_eq_true, if_false]
      rw [if_pos (by omega)]
      simp only [h3, decide_false, Bool.false_eq_true, if_false]
      rw [if_pos (by omega), if_pos (by omega)]
  · iterate 4 right
    refine ⟨?_, ?_⟩
    · unfold utf_head.f
      rw [if_pos (by omega)]
    · have h2 : ¬ c < 224 := by omega
      have h3 : ¬ c < 240 := by omega
      unfold pleacherref02_size.f
      rw [if_neg (by omega), if_pos (by omega)]
      simp only [pleacherref02_size.j0, pleacherref02_size.j1, h2, decide_false, Bool.false_eq_true, if_false]
      rw [if_pos (by omega)]
      simp only [h3, decide_false, Bool.false_eq_true, if_false]
      rw [if_pos (by omega), if_neg (by omega)]

/-! Bytes as numbers -/
theorem bex {s : ByteArray} {a b : Nat} (h : a < b) (hb : b ≤ s.size) : bytesOf (s.extract a b) = bt s (a : Int) :: bytesOf (s.extract (a + 1) b) := by
  have ha : a < s.size := by omega
  have hl : a < s.data.toList.length := by rw [size_data]; exact ha
  unfold bytesOf
  simp only [ByteArray.data_extract, Array.toList_extract, List.extract_eq_take_drop]
  rw [List.drop_eq_getElem_cons hl, show b - a = (b - (a + 1)) + 1 from by omega, List.take_succ_cons, List.map_cons]
  congr 1
  rw [← bt_at s (a : Int) (by simpa using ha)]
  rfl
theorem bex0 (s : ByteArray) (a : Nat) : bytesOf (s.extract a a) = [] := by
  unfold bytesOf; simp
theorem u8_inj {a b : UInt8} (h : (a.toNat : Int) = b.toNat) : a = b := UInt8.toNat_inj.1 (by omega)
theorem bytesOf_inj {x y : ByteArray} (h : bytesOf x = bytesOf y) : x = y := by
  unfold bytesOf at h
  have := (List.map_inj_right (f := fun b : UInt8 => (b.toNat : Int)) (fun a b => u8_inj)).1 h
  cases x with | mk x => cases y with | mk y => simp only at this; rw [Array.toList_inj.1 this]
theorem bytesOf_nums {l : List Int} (h : ∀ x ∈ l, 0 ≤ x ∧ x ≤ 255) : bytesOf (strOfNums l) = l := by
  unfold bytesOf
  rw [strOfNums_data, List.map_map]
  conv => rhs; rw [← List.map_id l]
  refine List.map_congr_left fun x hx => ?_
  have := h x hx
  simp only [Function.comp, UInt8.toNat_ofNat', id]
  omega
theorem toList_inj {x y : ByteArray} : x.toList = y.toList ↔ x = y := by
  rw [toList_data, toList_data]
  constructor
  · intro h; cases x with | mk x => cases y with | mk y => simp only at h; rw [Array.toList_inj.1 h]
  · rintro rfl; rfl
theorem encL_bd {r : Int} (h : isR r = true) : ∀ x ∈ encL r, 0 ≤ x ∧ x ≤ 255 := by
  have hb := isR_bd h
  unfold encL
  intro x hx
  by_cases a1 : r < 128
  · rw [if_pos a1] at hx; simp at hx; omega
  · rw [if_neg a1] at hx
    by_cases a2 : r < 2048
    · rw [if_pos a2] at hx; simp at hx; omega
    · rw [if_neg a2] at hx
      by_cases a3 : r < 65536
      · rw [if_pos a3] at hx; simp at hx; omega
      · rw [if_neg a3] at hx; simp at hx; omega

theorem enc_eq {r : Int} (h : isR r = true) (s : ByteArray) (n : Nat) : (encS r).1.toList = (s.extract 0 n).toList ↔ encL r = bytesOf (s.extract 0 n) := by
  unfold encS
  rw [if_pos h]
  simp only []
  rw [toList_inj]
  constructor
  · intro e; rw [← e, bytesOf_nums (encL_bd h)]
  · intro e; exact bytesOf_inj (by rw [bytesOf_nums (encL_bd h), e])
theorem encS_len {r : Int} (h : isR r = true) : (encS r).1.size = (encL r).length := by unfold encS; rw [if_pos h]; exact strOfNums_size _
theorem encS_ok (r : Int) : (encS r).2 = 0 ↔ isR r = true := by
  unfold encS
  by_cases h : isR r = true
  · rw [if_pos h]; simp [h]
  · rw [if_neg h]; simp [h]

/-- The end of the document's decoder. -/
def refEnd (s : ByteArray) (n : Nat) (acc : Int) : Option (Int × Int × Int) :=
  (pleacherref02_Encode.f acc).bind fun b => if b.2 = 0 then (if 0 ≤ (n : Int) then (if (n : Int) ≤ (s.size : Int) then (if b.1.toList = (s.extract 0 ((n : Nat) : Int).toNat).toList then some (acc, (n : Int), 0) else some (0, 0, 20)) else none) else none) else some (0, 0, 20)
theorem refEnd_eq {s : ByteArray} {m : Nat} {r acc : Int} (hm : m < s.size) (ha : accR r (bytesOf (s.extract 1 (m + 1))) = acc)
    (he : isR acc = true → ((bytesOf (s.extract 1 (m + 1))).all contB = true ∧ (encL acc).length = m + 1 ↔ encL acc = bytesOf (s.extract 0 (m + 1)))) : refEnd s (m + 1) acc = some (decEnd s m r) := by
  unfold refEnd
  rw [ref02_encode]
  simp only [Option.bind_some]
  unfold decEnd
  simp only [ha]
  by_cases h : isR acc = true
  · have h2 := (encS_ok acc).2 h
    rw [if_pos h2, if_pos (by omega), if_pos (by omega), Int.toNat_natCast]
    have hl := encS_len h
    by_cases hc : (bytesOf (s.extract 1 (m + 1))).all contB = true ∧ (encL acc).length = m + 1
    · rw [if_pos ((enc_eq h _ _).2 ((he h).1 hc)), if_pos hc.1, if_pos ⟨h2, by rw [hl, hc.2]; rfl⟩]; rfl
    · rw [if_neg (fun e => hc ((he h).2 ((enc_eq h _ _).1 e)))]
      by_cases hc1 : (bytesOf (s.extract 1 (m + 1))).all contB = true
      · rw [if_pos hc1, if_neg (fun e => hc ⟨hc1, by rw [← hl]; omega⟩)]
      · rw [if_neg hc1]
  · have h2 : ¬ (encS acc).2 = 0 := fun e => h ((encS_ok acc).1 e)
    rw [if_neg h2]
    by_cases hc1 : (bytesOf (s.extract 1 (m + 1))).all contB = true
    · rw [if_pos hc1, if_neg (fun e => h2 e.1)]
    · rw [if_neg hc1]
theorem contB_iff (c : Int) : contB c = true ↔ 128 ≤ c ∧ c < 192 := by unfold contB; simp

theorem tm64 {c : Int} (h : 0 ≤ c ∧ c ≤ 255) : Int.tmod (wrap64 c) 64 = c % 64 := by rw [w64 (by omega) (by omega)]; exact Int.tmod_eq_emod_of_nonneg h.1
theorem eatF_fuel (p q : Nat) (s : ByteArray) (hp : s.size ≤ p) (hq : s.size ≤ q) : eatF p s = eatF q s := by
  induction p generalizing q s with
  | zero =>
    have h0 : s.size = 0 := by omega
    rw [eatF_stop (by rw [decR, if_pos h0]; decide), eatF_stop (by rw [decR, if_pos h0]; decide)]
  | succ p ih =>
    cases q with
    | zero =>
      have h0 : s.size = 0 := by omega
      rw [eatF_stop (by rw [decR, if_pos h0]; decide), eatF_stop (by rw [decR, if_pos h0]; decide)]
    | succ q =>
      unfold eatF
      by_cases h : (decR s).2.2 = 0
      · rw [if_pos h, if_pos h]
        obtain ⟨r, m, e, hd⟩ : ∃ r m e, decR s = (r, m, e) := ⟨_, _, _, rfl⟩
        rw [hd] at h
        obtain rfl : e = 0 := h
        have hb := decR_n hd
        rw [hd]
        simp only []
        rw [ih q (s.extract m.toNat s.size) (by rw [ByteArray.size_extract]; omega) (by rw [ByteArray.size_extract]; omega)]
      · rw [if_neg h, if_neg h]
theorem l0_more (k : Nat) (s : ByteArray) (n : Nat) (acc i : Int) (ha : 0 ≤ acc) (ha2 : acc < 1099511627776) (hi : 0 ≤ i) (hi2 : i < n) (hn : n ≤ 4) (hs : i < s.size) :
    pleacherref02_Decode.l0 (k + 1) s n acc i = pleacherref02_Decode.l0 k s n (acc * 64 + bt s i % 64) (i + 1) := by
  have hb := bt_range s i
  rw [pleacherref02_Decode.l0, if_pos hi2, if_pos hi, if_pos hs, tm64 hb, w64 (x := 64 * acc) (by omega) (by omega), w64 (x := 64 * acc + bt s i % 64) (by omega) (by omega), w64 (x := i + 1) (by omega) (by omega), Int.mul_comm 64 acc]
theorem l0_end (k : Nat) (s : ByteArray) (n : Nat) (acc : Int) : pleacherref02_Decode.l0 (k + 1) s n acc n = refEnd s n acc := by
  rw [pleacherref02_Decode.l0, if_neg (by omega)]; rfl
theorem j0_in (k : Nat) (s : ByteArray) (n : Nat) (r : Int) (hz : n ≤ s.size) (hn : n ≠ 0) (hr : (n = 1 ∧ r = bt s 0) ∨ (n = 2 ∧ r = bt s 0 - 192) ∨ (n = 3 ∧ r = bt s 0 - 224) ∨ (n = 4 ∧ r = bt s 0 - 240)) :
    pleacherref02_Decode.j0 (k + 2) s n false = pleacherref02_Decode.l0 k s n r 1 := by
  have hb := bt_range s 0
  rw [pleacherref02_Decode.j0, if_neg (by decide), if_pos (by omega), w64 (x := bt s 0) (by omega) (by omega)]
  rcases hr with ⟨rfl, rfl⟩ | ⟨rfl, rfl⟩ | ⟨rfl, rfl⟩ | ⟨rfl, rfl⟩
  · rw [if_neg (by decide), if_neg (by decide), if_neg (by decide), pleacherref02_Decode.j1]
  · rw [if_pos (by decide), pleacherref02_Decode.j1, w64 (x := bt s 0 - 192) (by omega) (by omega)]
  · rw [if_neg (by decide), if_pos (by decide), pleacherref02_Decode.j1, w64 (x := bt s 0 - 224) (by omega) (by omega)]
  · rw [if_neg (by decide), if_neg (by decide), if_pos (by decide), pleacherref02_Decode.j1, w64 (x := bt s 0 - 240) (by omega) (by omega)]
theorem end1 {s : ByteArray} (hz : 1 ≤ s.size) (h : bt s 0 < 128) : refEnd s 1 (bt s 0) = some (decEnd s 0 (bt s 0)) := by
  have e0 : bytesOf (s.extract 0 (0 + 1)) = [bt s 0] := by rw [bex (by omega) hz, bex0]; rfl
  refine refEnd_eq (by omega) (by rw [bex0]; rfl) (fun h2 => ?_)
  rw [bex0, e0]; unfold encL; rw [if_pos h]; simp
theorem end2 {s : ByteArray} (hz : 2 ≤ s.size) (h : 192 ≤ bt s 0) (h1 : bt s 0 < 224) : refEnd s 2 ((bt s 0 - 192) * 64 + bt s 1 % 64) = some (decEnd s 1 (bt s 0 - 192)) := by
  have e1 : bytesOf (s.extract 1 (1 + 1)) = [bt s 1] := by rw [bex (by omega) hz, bex0]; rfl
  have e0 : bytesOf (s.extract 0 (1 + 1)) = [bt s 0, bt s 1] := by rw [bex (by omega) hz, e1]; rfl
  have hb := bt_range s 1
  refine refEnd_eq (by omega) (by rw [e1]; rfl) (fun h2 => ?_)
  rw [e1, e0]
  simp only [List.all_cons, List.all_nil, Bool.and_true, contB_iff]
  unfold encL
  by_cases a1 : (bt s 0 - 192) * 64 + bt s 1 % 64 < 128
  · rw [if_pos a1]; simp
  · rw [if_neg a1, if_pos (by omega)]
    simp
    omega
theorem end3 {s : ByteArray} (hz : 3 ≤ s.size) (h : 224 ≤ bt s 0) (h1 : bt s 0 < 240) : refEnd s 3 (((bt s 0 - 224) * 64 + bt s 1 % 64) * 64 + bt s 2 % 64) = some (decEnd s 2 (bt s 0 - 224)) := by
  have e1 : bytesOf (s.extract 1 (2 + 1)) = [bt s 1, bt s 2] := by rw [bex (by omega) hz, bex (by omega) hz, bex0]; rfl
  have e0 : bytesOf (s.extract 0 (2 + 1)) = [bt s 0, bt s 1, bt s 2] := by rw [bex (by omega) hz, e1]; rfl
  have hb := bt_range s 1
  have hb2 := bt_range s 2
  refine refEnd_eq (by omega) (by rw [e1]; rfl) (fun h2 => ?_)
  rw [e1, e0]
  simp only [List.all_cons, List.all_nil, Bool.and_true, Bool.and_eq_true, contB_iff]
  unfold encL
  by_cases a1 : ((bt s 0 - 224) * 64 + bt s 1 % 64) * 64 + bt s 2 % 64 < 128
  · rw [if_pos a1]; simp
  · rw [if_neg a1]
    by_cases a2 : ((bt s 0 - 224) * 64 + bt s 1 % 64) * 64 + bt s 2 % 64 < 2048
    · rw [if_pos a2]; simp
    · rw [if_neg a2, if_pos (by omega)]
      simp
      omega
theorem end4 {s : ByteArray} (hz : 4 ≤ s.size) (h : 240 ≤ bt s 0) (h1 : bt s 0 < 248) : refEnd s 4 ((((bt s 0 - 240) * 64 + bt s 1 % 64) * 64 + bt s 2 % 64) * 64 + bt s 3 % 64) = some (decEnd s 3 (bt s 0 - 240)) := by
  have e1 : bytesOf (s.extract 1 (3 + 1)) = [bt s 1, bt s 2, bt s 3] := by rw [bex (by omega) hz, bex (by omega) hz, bex (by omega) hz, bex0]; rfl
  have e0 : bytesOf (s.extract 0 (3 + 1)) = [bt s 0, bt s 1, bt s 2, bt s 3] := by rw [bex (by omega) hz, e1]; rfl
  have hb := bt_range s 1
  have hb2 := bt_range s 2
  have hb3 := bt_range s 3
  refine refEnd_eq (by omega) (by rw [e1]; rfl) (fun h2 => ?_)
  rw [e1, e0]
  simp only [List.all_cons, List.all_nil, Bool.and_true, Bool.and_eq_true, contB_iff]
  obtain ⟨acc, hacc⟩ : ∃ acc, (((bt s 0 - 240) * 64 + bt s 1 % 64) * 64 + bt s 2 % 64) * 64 + bt s 3 % 64 = acc := ⟨_, rfl⟩
  rw [hacc]
  unfold encL
  by_cases a1 : acc < 128
  · rw [if_pos a1]; simp
  · rw [if_neg a1]
    by_cases a2 : acc < 2048
    · rw [if_pos a2]; simp
    · rw [if_neg a2]
      by_cases a3 : acc < 65536
      · rw [if_pos a3]; simp
      · rw [if_neg a3]
        simp
        omega

set_option maxHeartbeats 1000000 in
theorem ref02_decode (s : ByteArray) (hs : s.size ≤ 9223372036854775807) : pleacherref02_Decode.f 10 s = some (decR s) := by
  unfold pleacherref02_Decode.f decR
  by_cases h0 : s.size = 0
  · have h1 : s.toList = [] := by rw [toList_data]; exact List.eq_nil_of_length_eq_zero (by rw [size_data]; exact h0)
    rw [if_pos h1, if_pos h0]
  · have h1 : ¬ s.toList = [] := by rw [toList_data]; intro e; exact h0 (by rw [← size_data, e]; rfl)
    rw [if_neg h1, if_neg h0, if_pos (by omega)]
    have hb := bt_range s 0
    have hb1 := bt_range s 1
    have hb2 := bt_range s 2
    have hb3 := bt_range s 3
    have hmono : ∀ x, pleacherref02_size.f 4 (bt s 0) = some x → pleacherref02_size.f 10 (bt s 0) = some x := fun x h => by
      have m1 := fun k => pleacherref02_size.mono (bt s 0) k
      exact (m1 9) _ ((m1 8) _ ((m1 7) _ ((m1 6) _ ((m1 5) _ ((m1 4) _ h)))))
    rcases ref02_size hb.1 hb.2 with ⟨k1, k2, k3⟩ | ⟨k0, k1, k2, k3⟩ | ⟨k0, k1, k2, k3⟩ | ⟨k0, k1, k2, k3⟩ | ⟨k2, k3⟩
    · rw [hmono _ k3, k2]
      simp only [Option.bind_some]
      rw [if_neg (by decide), if_neg (by omega), if_neg (by omega), decide_eq_false (by omega)]
      exact ((j0_in 8 s 1 (bt s 0) (by omega) (by decide) (.inl ⟨rfl, rfl⟩)).trans (l0_end 7 s 1 _)).trans (end1 (by omega) k1)
    · rw [hmono _ k3, k2]
      simp only [Option.bind_some]
      rw [if_neg (by decide), if_neg (by omega)]
      by_cases hz : (s.size : Int) ≤ 1
      · rw [if_pos hz, decide_eq_true (by omega), pleacherref02_Decode.j0, if_pos rfl]
      · rw [if_neg hz, decide_eq_false (by omega)]
        refine (j0_in 8 s 2 _ (by omega) (by decide) (.inr (.inl ⟨rfl, rfl⟩))).trans ?_
        rw [l0_more 7 s 2 _ 1 (by omega) (by omega) (by omega) (by omega) (by omega) (by omega)]
        exact (l0_end 6 s 2 _).trans (end2 (by omega) k0 k1)
    · rw [hmono _ k3, k2]
      simp only [Option.bind_some]
      rw [if_neg (by decide), if_neg (by omega)]
      by_cases hz : (s.size : Int) ≤ 2
      · rw [if_pos hz, decide_eq_true (by omega), pleacherref02_Decode.j0, if_pos rfl]
      · rw [if_neg hz, decide_eq_false (by omega)]
        refine (j0_in 8 s 3 _ (by omega) (by decide) (.inr (.inr (.inl ⟨rfl, rfl⟩)))).trans ?_
        rw [l0_more 7 s 3 _ 1 (by omega) (by omega) (by omega) (by omega) (by omega) (by omega)]
        rw [l0_more 6 s 3 _ (1 + 1) (by omega) (by omega) (by omega) (by omega) (by omega) (by omega)]
        exact (l0_end 5 s 3 _).trans (end3 (by omega) k0 k1)
    · rw [hmono _ k3, k2]
      simp only [Option.bind_some]
      rw [if_neg (by decide), if_neg (by omega)]
      by_cases hz : (s.size : Int) ≤ 3
      · rw [if_pos hz, decide_eq_true (by omega), pleacherref02_Decode.j0, if_pos rfl]
      · rw [if_neg hz, decide_eq_false (by omega)]
        refine (j0_in 8 s 4 _ (by omega) (by decide) (.inr (.inr (.inr ⟨rfl, rfl⟩)))).trans ?_
        rw [l0_more 7 s 4 _ 1 (by omega) (by omega) (by omega) (by omega) (by omega) (by omega)]
        rw [l0_more 6 s 4 _ (1 + 1) (by omega) (by omega) (by omega) (by omega) (by omega) (by omega)]
        rw [l0_more 5 s 4 _ (1 + 1 + 1) (by omega) (by omega) (by omega) (by omega) (by omega) (by omega)]
        exact (l0_end 4 s 4 _).trans (end4 (by omega) k0 k1)
    · rw [hmono _ k3, k2]
      simp only [Option.bind_some]
      rw [if_pos trivial, if_pos (by decide), pleacherref02_Decode.j0, if_pos rfl]

/-! Runes and Valid -/
theorem ref02_runes (s : ByteArray) (hs : s.size ≤ 1073741824) : ∀ (k : Nat) (at_ : Nat) (acc : List Int) (n : Nat), at_ + n = s.size → n ≤ k → acc.length + n ≤ 1073741824 →
    pleacherref02_Runes.l0 (k + 11) s acc at_ = some (acc ++ (eatF (n + 1) (s.extract at_ s.size)).1, (s.size : Int) - (eatF (n + 1) (s.extract at_ s.size)).2.size) := by
  intro k
  induction k with
  | zero =>
    intro a acc n h1 h2 h3
    obtain rfl : n = 0 := by omega
    obtain rfl : a = s.size := by omega
    rw [pleacherref02_Runes.l0, if_neg (by omega), eatF_stop (by rw [decR, if_pos (by simp)]; decide)]
    simp
  | succ k ih =>
    intro a acc n h1 h2 h3
    by_cases hn : n = 0
    · subst hn
      obtain rfl : a = s.size := by omega
      rw [pleacherref02_Runes.l0, if_neg (by omega), eatF_stop (by rw [decR, if_pos (by simp)]; decide)]
      simp
    · have hm : pleacherref02_Decode.f (k + 11) (s.extract a s.size) = some (decR (s.extract a s.size)) := by
        have h0 := ref02_decode (s.extract a s.size) (by rw [ByteArray.size_extract]; omega)
        have : ∀ j, pleacherref02_Decode.f (10 + j) (s.extract a s.size) = some (decR (s.extract a s.size)) := fun j => by
          induction j with
          | zero => exact h0
          | succ j ihj => exact pleacherref02_Decode.mono _ _ _ ihj
        rw [show k + 11 = 10 + (k + 1) from by omega]; exact this _
      rw [show k + 1 + 11 = (k + 11) + 1 from by omega, pleacherref02_Runes.l0, if_pos (by omega), if_pos (by omega), if_pos (by omega), Int.toNat_natCast, hm]
      simp only [Option.bind_some]
      obtain ⟨r, m, e, hd⟩ : ∃ r m e, decR (s.extract a s.size) = (r, m, e) := ⟨_, _, _, rfl⟩
      rw [hd]
      simp only []
      by_cases he : e = 0
      · subst he
        have hb := decR_n hd
        rw [ByteArray.size_extract] at hb
        obtain ⟨j, rfl⟩ := Int.eq_ofNat_of_zero_le (by omega : 0 ≤ m)
        rw [if_pos rfl, if_pos (by omega), w64 (by omega) (by omega), show (a : Int) + (j : Int) = ((a + j : Nat) : Int) from by omega,
          ih (a + j) (acc ++ [r]) (n - j) (by omega) (by omega) (by rw [List.length_append, List.length_singleton]; omega)]
        have hx : (s.extract a s.size).extract ((j : Int)).toNat (s.extract a s.size).size = s.extract (a + j) s.size := by
          rw [Int.toNat_natCast, ByteArray.extract_extract, ByteArray.size_extract]
          congr 1; omega
        have hst : eatF (n + 1) (s.extract a s.size) = (r :: (eatF n (s.extract (a + j) s.size)).1, (eatF n (s.extract (a + j) s.size)).2) := by
          rw [eatF, hd]; simp only [if_true, hx]
        have hst2 : ∀ p q : Nat, n - j < p → n - j < q → eatF p (s.extract (a + j) s.size) = eatF q (s.extract (a + j) s.size) := fun p q hp hq =>
          eatF_fuel _ _ _ (by rw [ByteArray.size_extract]; omega) (by rw [ByteArray.size_extract]; omega)
        rw [hst, hst2 (n - j + 1) n (by omega) (by omega)]
        simp
      · rw [if_neg he, eatF_stop (by rw [hd]; exact he)]
        simp
        omega
end Go.Proofs.YtbcjhmeeonhmaaaGreatDoor.H
end

/-
The model's decoder of UTF-8, and the program's: they say the same where the program says one.
-/
section
set_option linter.unusedVariables false
set_option maxRecDepth 100000
namespace Go.Proofs.YtbcjhmeeonhmaaaGreatDoor.H
open Go Go.RowKit Go.Proofs.YtbcjhmeeonhmaaaGreatDoorW.PrintWords Go.Proofs.YtbcjhmeeonhmaaaGreatDoorW.PrintMore Go.Proofs.YtbcjhmeeonhmaaaGreatDoor.M

theorem get_bt (t : ByteArray) (i : Nat) (h : i < t.size) : ((t.get! i).toNat : Int) = bt t (i : Int) := by
  have e : t.get! i = t[i]'h := by
    simp [ByteArray.get!, getElem!_pos, h]
    rfl
  rw [e]
  have := bt_at t (i : Int) (by simpa using h)
  simpa using this
theorem dec_end {t : ByteArray} {m : Nat} {r0 r n : Int} (h : decEnd t m r0 = (r, n, 0)) : (bytesOf (t.extract 1 (m + 1))).all contB = true ∧ r = accR r0 (bytesOf (t.extract 1 (m + 1))) ∧ n = m + 1 ∧ isR r = true ∧ (encL r).length = m + 1 := by
  unfold decEnd at h
  simp only [] at h
  by_cases h1 : (bytesOf (t.extract 1 (m + 1))).all contB = true
  · rw [if_pos h1] at h
    by_cases h2 : (encS (accR r0 (bytesOf (t.extract 1 (m + 1))))).2 = 0 ∧ ((encS (accR r0 (bytesOf (t.extract 1 (m + 1))))).1.size : Int) = m + 1
    · rw [if_pos h2] at h
      injection h with h3 h4
      injection h4 with h4 h5
      have hr := (encS_ok _).1 h2.1
      have hl := encS_len hr
      rw [h3] at hr hl h2
      exact ⟨h1, h3.symm, h4.symm, hr, by omega⟩
    · rw [if_neg h2] at h; injection h with h3 h4; injection h4 with h4 h5; cases h5
  · rw [if_neg h1] at h; injection h with h3 h4; injection h4 with h4 h5; cases h5
theorem encL_rng {r : Int} (h : isR r = true) : ((encL r).length = 1 ∧ r < 128) ∨ ((encL r).length = 2 ∧ 128 ≤ r ∧ r < 2048) ∨ ((encL r).length = 3 ∧ 2048 ≤ r ∧ r < 65536) ∨ ((encL r).length = 4 ∧ 65536 ≤ r ∧ r ≤ 1114111) := by
  have hb := isR_bd h
  unfold encL
  by_cases h1 : r < 128
  · rw [if_pos h1]; left; exact ⟨rfl, h1⟩
  · rw [if_neg h1]
    by_cases h2 : r < 2048
    · rw [if_pos h2]; right; left; exact ⟨rfl, by omega, h2⟩
    · rw [if_neg h2]
      by_cases h3 : r < 65536
      · rw [if_pos h3]; right; right; left; exact ⟨rfl, by omega, h3⟩
      · rw [if_neg h3]; right; right; right; exact ⟨rfl, by omega, hb.2⟩
theorem valid_isR {c : Nat} (h : isR (c : Int) = true) : Utf8.valid (c : Int) = true := by
  unfold isR at h
  unfold Utf8.valid
  simp only [Bool.or_eq_true, Bool.and_eq_true, decide_eq_true_eq] at h ⊢
  omega
theorem cont_nat {t : ByteArray} {i : Nat} (h : i < t.size) (hc : contB (bt t (i : Int)) = true) : (decide (i < t.size) && ((t.get! i).toNat / 64 == 2)) = true := by
  have g := get_bt t i h
  rw [contB_iff] at hc
  rw [Bool.and_eq_true, decide_eq_true_iff, beq_iff_eq]
  exact ⟨h, by omega⟩
set_option maxHeartbeats 1000000 in
theorem decode_ok {t : ByteArray} {r n : Int} (h : decR t = (r, n, 0)) : Utf8.decode t 0 = (r.toNat, n.toNat) := by
  unfold decR at h
  by_cases h0 : t.size = 0
  · rw [if_pos h0] at h; injection h with _ h; injection h with _ h; cases h
  rw [if_neg h0] at h
  have hb := bt_range t 0
  have g0 := get_bt t 0 (by omega)
  rw [show ((0 : Nat) : Int) = 0 from rfl] at g0
  unfold Utf8.decode
  simp only [Nat.zero_add]
  rcases ref02_size hb.1 hb.2 with ⟨k1, k2, k3⟩ | ⟨k0, k1, k2, k3⟩ | ⟨k0, k1, k2, k3⟩ | ⟨k0, k1, k2, k3⟩ | ⟨k2, k3⟩
  · rw [k2] at h
    simp only [] at h
    rw [if_neg (by decide), if_neg (by omega)] at h
    obtain ⟨a1, a2, a3, a4, a5⟩ := dec_end h
    have hr : r = bt t 0 := by rw [a2, show Int.toNat 0 + 1 = 1 from rfl, bex0]; rfl
    rw [if_pos (by omega)]
    exact Prod.ext (by simp only []; omega) (by simp only []; rw [a3]; rfl)
  · rw [k2] at h
    simp only [] at h
    rw [if_neg (by decide)] at h
    by_cases hz : (t.size : Int) ≤ 1
    · rw [if_pos hz] at h; injection h with _ h; injection h with _ h; cases h
    rw [if_neg hz] at h
    obtain ⟨a1, a2, a3, a4, a5⟩ := dec_end h
    rw [show Int.toNat 1 + 1 = 2 from rfl] at a1 a2
    rw [bex (by omega) (by omega), bex0] at a1 a2
    simp only [List.all_cons, List.all_nil, Bool.and_true] at a1
    have c1 := cont_nat (i := 1) (by omega) a1
    have g1 := get_bt t 1 (by omega)
    rw [contB_iff] at a1
    have hr : r = (bt t 0 - 192) * 64 + bt t ((1 : Nat) : Int) % 64 := a2
    have hl := encL_rng a4
    rw [a5] at hl
    rw [if_neg (by omega), c1, if_pos (by rw [Bool.and_true, beq_iff_eq]; omega), if_pos (by omega)]
    exact Prod.ext (by simp only []; omega) (by simp only []; rw [a3]; rfl)
  · rw [k2] at h
    simp only [] at h
    rw [if_neg (by decide)] at h
    by_cases hz : (t.size : Int) ≤ 2
    · rw [if_pos hz] at h; injection h with _ h; injection h with _ h; cases h
    rw [if_neg hz] at h
    obtain ⟨a1, a2, a3, a4, a5⟩ := dec_end h
    rw [show Int.toNat 2 + 1 = 3 from rfl] at a1 a2
    rw [bex (by omega) (by omega), bex (by omega) (by omega), bex0] at a1 a2
    simp only [List.all_cons, List.all_nil, Bool.and_true, Bool.and_eq_true] at a1
    have c1 := cont_nat (i := 1) (by omega) a1.1
    have c2 := cont_nat (i := 2) (by omega) a1.2
    have g1 := get_bt t 1 (by omega)
    have g2 := get_bt t 2 (by omega)
    rw [contB_iff, contB_iff] at a1
    have hr : r = ((bt t 0 - 224) * 64 + bt t ((1 : Nat) : Int) % 64) * 64 + bt t ((2 : Nat) : Int) % 64 := a2
    have hl := encL_rng a4
    rw [a5] at hl
    have e : ((t.get! 0).toNat % 16 * 4096 + (t.get! 1).toNat % 64 * 64 + (t.get! 2).toNat % 64 : Nat) = r.toNat := by omega
    have v : Utf8.valid ((r.toNat : Nat) : Int) = true := valid_isR (by rw [Int.toNat_of_nonneg (by omega)]; exact a4)
    rw [if_neg (by omega), c1, if_neg (by rw [Bool.and_true, beq_iff_eq]; omega), c2, if_pos (by rw [Bool.and_true, Bool.and_true, beq_iff_eq]; omega), e, v, if_pos (by rw [Bool.and_true, decide_eq_true_iff]; omega)]
    exact Prod.ext rfl (by simp only []; rw [a3]; rfl)
  · rw [k2] at h
    simp only [] at h
    rw [if_neg (by decide)] at h
    by_cases hz : (t.size : Int) ≤ 3
    · rw [if_pos hz] at h; injection h with _ h; injection h with _ h; cases h
    rw [if_neg hz] at h
    obtain ⟨a1, a2, a3, a4, a5⟩ := dec_end h
    rw [show Int.toNat 3 + 1 = 4 from rfl] at a1 a2
    rw [bex (by omega) (by omega), bex (by omega) (by omega), bex (by omega) (by omega), bex0] at a1 a2
    simp only [List.all_cons, List.all_nil, Bool.and_true, Bool.and_eq_true] at a1
    have c1 := cont_nat (i := 1) (by omega) a1.1
    have c2 := cont_nat (i := 2) (by omega) a1.2.1
    have c3 := cont_nat (i := 3) (by omega) a1.2.2
    have g1 := get_bt t 1 (by omega)
    have g2 := get_bt t 2 (by omega)
    have g3 := get_bt t 3 (by omega)
    rw [contB_iff, contB_iff, contB_iff] at a1
    have hr : r = (((bt t 0 - 240) * 64 + bt t ((1 : Nat) : Int) % 64) * 64 + bt t ((2 : Nat) : Int) % 64) * 64 + bt t ((3 : Nat) : Int) % 64 := a2
    have hl := encL_rng a4
    rw [a5] at hl
    have e : ((t.get! 0).toNat % 8 * 262144 + (t.get! 1).toNat % 64 * 4096 + (t.get! 2).toNat % 64 * 64 + (t.get! 3).toNat % 64 : Nat) = r.toNat := by omega
    have v : Utf8.valid ((r.toNat : Nat) : Int) = true := valid_isR (by rw [Int.toNat_of_nonneg (by omega)]; exact a4)
    rw [if_neg (by omega), c1, if_neg (by rw [Bool.and_true, beq_iff_eq]; omega), c2, if_neg (by rw [Bool.and_true, Bool.and_true, beq_iff_eq]; omega), c3, if_pos (by rw [Bool.and_true, Bool.and_true, Bool.and_true, beq_iff_eq]; omega), e, v, if_pos (by rw [Bool.and_true, decide_eq_true_iff]; omega)]
    exact Prod.ext rfl (by simp only []; rw [a3]; rfl)
  · rw [k2] at h
    simp only [] at h
    rw [if_pos (by decide)] at h
    injection h with _ h; injection h with _ h; cases h
theorem decR_isR {t : ByteArray} {r n : Int} (h : decR t = (r, n, 0)) : isR r = true := by
  unfold decR at h
  by_cases h0 : t.size = 0
  · rw [if_pos h0] at h; injection h with _ h; injection h with _ h; cases h
  rw [if_neg h0] at h
  have hb := bt_range t 0
  rcases ref02_size hb.1 hb.2 with ⟨k1, k2, k3⟩ | ⟨k0, k1, k2, k3⟩ | ⟨k0, k1, k2, k3⟩ | ⟨k0, k1, k2, k3⟩ | ⟨k2, k3⟩
  · rw [k2] at h
    simp only [] at h
    rw [if_neg (by decide), if_neg (by omega)] at h
    exact (dec_end h).2.2.2.1
  · rw [k2] at h
    simp only [] at h
    rw [if_neg (by decide)] at h
    by_cases hz : (t.size : Int) ≤ 1
    · rw [if_pos hz] at h; injection h with _ h; injection h with _ h; cases h
    rw [if_neg hz] at h
    exact (dec_end h).2.2.2.1
  · rw [k2] at h
    simp only [] at h
    rw [if_neg (by decide)] at h
    by_cases hz : (t.size : Int) ≤ 2
    · rw [if_pos hz] at h; injection h with _ h; injection h with _ h; cases h
    rw [if_neg hz] at h
    exact (dec_end h).2.2.2.1
  · rw [k2] at h
    simp only [] at h
    rw [if_neg (by decide)] at h
    by_cases hz : (t.size : Int) ≤ 3
    · rw [if_pos hz] at h; injection h with _ h; injection h with _ h; cases h
    rw [if_neg hz] at h
    exact (dec_end h).2.2.2.1
  · rw [k2] at h
    simp only [] at h
    rw [if_pos (by decide)] at h
    injection h with _ h; injection h with _ h; cases h
end Go.Proofs.YtbcjhmeeonhmaaaGreatDoor.H
end

/-
escape.put, walked.
-/
section
set_option linter.unusedVariables false
set_option maxRecDepth 100000
namespace Go.Proofs.YtbcjhmeeonhmaaaGreatDoor.H
open Go Go.RowKit Go.Proofs.YtbcjhmeeonhmaaaGreatDoorW.PrintWords Go.Proofs.YtbcjhmeeonhmaaaGreatDoorW.PrintMore Go.Proofs.YtbcjhmeeonhmaaaGreatDoor.M

theorem encode_eq {r : Int} (h : isR r = true) : Utf8.encode r = (encS r).1 := by
  have hb := isR_bd h
  have hv : Utf8.valid r = true := by
    unfold isR at h
    unfold Utf8.valid
    simp only [Bool.or_eq_true, Bool.and_eq_true, decide_eq_true_eq] at h ⊢
    omega
  obtain ⟨c, rfl⟩ := Int.eq_ofNat_of_zero_le hb.1
  unfold Utf8.encode encS encL
  rw [if_pos h, if_pos hv, Int.toNat_natCast]
  simp only []
  by_cases h1 : c < 128
  · rw [if_pos h1, if_pos (show (c : Int) < 128 by omega)]; rfl
  · rw [if_neg h1, if_neg (show ¬ ((c : Int) < 128) by omega)]
    by_cases h2 : c < 2048
    · rw [if_pos h2, if_pos (show (c : Int) < 2048 by omega)]; rfl
    · rw [if_neg h2, if_neg (show ¬ ((c : Int) < 2048) by omega)]
      by_cases h3 : c < 65536
      · rw [if_pos h3, if_pos (show (c : Int) < 65536 by omega)]; rfl
      · rw [if_neg h3, if_neg (show ¬ ((c : Int) < 65536) by omega)]; rfl
/-- A rune's bytes in a text that is escaped. -/
def esc1 (r : Int) : ByteArray := if (escS r).2 = true then (escS r).1 else (encS r).1
def escL (l : List Int) : ByteArray := l.foldl (fun a r => a ++ esc1 r) ⟨#[]⟩
theorem escL_snoc (l : List Int) (r : Int) : escL (l ++ [r]) = escL l ++ esc1 r := by unfold escL; rw [List.foldl_append]; rfl
theorem esc1_size (r : Int) : (esc1 r).size ≤ 6 := by
  unfold esc1 escS
  repeat' split
  all_goals first | decide | skip
  all_goals
    unfold encS encL
    repeat' split
    all_goals first | decide | (rw [strOfNums_size]; simp) | skip
theorem escL_size0 : ∀ (l : List Int) (a : ByteArray), (l.foldl (fun a r => a ++ esc1 r) a).size ≤ a.size + 6 * l.length
  | [], a => by simp
  | r :: t, a => by
    have := escL_size0 t (a ++ esc1 r)
    have h := esc1_size r
    rw [ByteArray.size_append] at this
    simp only [List.foldl_cons, List.length_cons]
    omega
theorem escL_size (l : List Int) : (escL l).size ≤ 6 * l.length := by
  have := escL_size0 l ⟨#[]⟩
  have e : (⟨#[]⟩ : ByteArray).size = 0 := rfl
  unfold escL
  omega
theorem strCells_app (a b : ByteArray) : Lib.strCells (a ++ b) = Lib.strCells a ++ Lib.strCells b := by
  unfold Lib.strCells; simp
/-- What put writes. -/
def putE (s : ByteArray) : ByteArray := if isTextS s = true then escL (eat s).1 else ⟨#[]⟩
theorem grown_below_row {w w' : World} (h : Below w.heap.size w w') (r : Option Nat) : w.grownBy w' r := ⟨h.os, h.tape, h.output, h.size, fun k hk _ => h.block k hk⟩
theorem IsWrt.below {B b : Nat} {bs : List Value} {n : Int} {w w' : World} (h : IsWrt B b bs n w) (k : Below w.heap.size w w') : IsWrt B b bs n w' := by
  rcases h with ⟨hB, v, hb, hown, hne⟩ | ⟨hB, v, hb, hown, hne⟩
  · exact .inl ⟨hB, v, (k.block b (Array.getElem?_eq_some_iff.1 hb).1).trans hb, hown.kept (row := some b) (grown_below_row k _) (Or.inr hne), hne⟩
  · exact .inr ⟨hB, v, (k.block b (Array.getElem?_eq_some_iff.1 hb).1).trans hb, hown.kept (row := some b) (grown_below_row k _) (Or.inr hne), hne⟩
theorem own_not_iter {w : World} {B : Nat} {v : Value} {n it pos : Nat} {xs : List Value} {s : ByteArray} (hown : w.ownsRowF B 5 1 v n xs) (hk : w.heap[it]? = some (.stringIter s pos)) : v.ownBlock ≠ some it := by
  rcases hown.2 with ⟨rfl, _⟩ | ⟨g, cap, cur, fz, rfl, _, hg, _⟩
  · simp [Value.ownBlock]
  · intro h
    simp only [Value.ownBlock, Option.some.injEq] at h
    subst h
    rw [hg] at hk
    cases hk
theorem iter_grown (w : World) (it : Nat) (s : ByteArray) (pos : Nat) : w.grownBy (w.iterAt it s pos) (some it) :=
  ⟨rfl, rfl, rfl, by rw [Lib.iterAt_size]; exact Nat.le_refl _, fun k _ hr => Lib.iterAt_other w it k s pos (fun e => hr (by rw [e]))⟩
theorem IsWrt.iter {B b it pos : Nat} {bs : List Value} {n : Int} {s : ByteArray} {w : World} (h : IsWrt B b bs n w) (hk : w.heap[it]? = some (.stringIter s pos)) (q : Nat) : IsWrt B b bs n (w.iterAt it s q) := by
  have hbi : ∀ {o : Obj}, w.heap[b]? = some o → (∀ t q, o ≠ .stringIter t q) → (w.iterAt it s q).heap[b]? = some o := fun hb ho => by
    rw [Lib.iterAt_other w it b s q (fun e => by subst e; rw [hk] at hb; exact ho _ _ (Option.some.inj hb).symm)]; exact hb
  rcases h with ⟨hB, v, hb, hown, hne⟩ | ⟨hB, v, hb, hown, hne⟩
  · exact .inl ⟨hB, v, hbi hb (fun _ _ e => by cases e), hown.kept (row := some it) (iter_grown w it s q) (Or.inr (own_not_iter hown hk)), hne⟩
  · exact .inr ⟨hB, v, hbi hb (fun _ _ e => by cases e), hown.kept (row := some it) (iter_grown w it s q) (Or.inr (own_not_iter hown hk)), hne⟩
theorem Tbl.others {tb : Nat} {w w' : World} (h : Tbl tb w) (k : ∀ (i : Nat) (o : Obj), w.heap[i]? = some o → (∀ c fz, o ≠ .cells c 5 fz) → (∀ c fz, o ≠ .cells c 54 fz) → (∀ t q, o ≠ .stringIter t q) → w'.heap[i]? = some o) : Tbl tb w' := by
  obtain ⟨M1, M2, c, s, h1, h2, h3, h4⟩ := h
  refine ⟨M1, M2, c, s, k _ _ h1 ?_ ?_ ?_, k _ _ h2 ?_ ?_ ?_, k _ _ h3 ?_ ?_ ?_, k _ _ h4 ?_ ?_ ?_⟩
  all_goals (intro c fz e; (try unfold obW at e); cases e)
theorem Tbl.iter {tb it pos q : Nat} {s : ByteArray} {w : World} (h : Tbl tb w) (hk : w.heap[it]? = some (.stringIter s pos)) : Tbl tb (w.iterAt it s q) :=
  h.others fun i o hi _ _ hs => by
    rw [Lib.iterAt_other w it i s q (fun e => by subst e; rw [hk] at hi; exact hs _ _ (Option.some.inj hi).symm)]; exact hi
theorem Tbl.wrote {tb b : Nat} {w w' : World} {p v x : Value} (h : Tbl tb w) (hb : w.heap[b]? = some (.cells #[p, v, x] 54 (0, 0))) (hk : Lib.OthersKept 5 (some b) w w') : Tbl tb w' :=
  h.others fun i o hi hu hw _ => hk i o hi (fun e => by injection e with e; subst e; rw [hb] at hi; exact hw _ _ (Option.some.inj hi).symm) hu
theorem IsWrt.heap {B b : Nat} {bs : List Value} {n : Int} {w : World} (h : IsWrt B b bs n w) : ∃ p v, w.heap[b]? = some (.cells #[p, v, .int .i64 n] 54 (0, 0)) := by
  rcases h with ⟨_, v, hb, _⟩ | ⟨_, v, hb, _⟩
  · exact ⟨_, v, hb⟩
  · exact ⟨_, v, hb⟩
/-- What put leaves. -/
def PutPost (s : ByteArray) (w : World) (e : Ending) (w' : World) : Prop :=
  ∃ b : Nat, e = .returned (.tuple #[.pointer (some ⟨b, 0, none⟩), .bool (isTextS s)]) ∧ IsWrt w.heap.size b (Lib.strCells (putE s)) (putE s).size w' ∧ Below w.heap.size w w'
/-- One round's facts. -/
theorem eat_more {s : ByteArray} {pre : List Int} {pos : Nat} (ht : (eat s).2.size = 0) (hE : Eats s pre (s.extract pos s.size)) (hp : pos < s.size) :
    ∃ (r : Int) (n : Nat), Utf8.decode s pos = (r.toNat, n) ∧ Eats s (pre ++ [r]) (s.extract (pos + n) s.size) ∧ 1 ≤ n ∧ pos + n ≤ s.size ∧ isR r = true := by
  have hsz : (s.extract pos s.size).size = s.size - pos := by rw [ByteArray.size_extract]; omega
  obtain ⟨r, n, e, hd⟩ : ∃ r n e, decR (s.extract pos s.size) = (r, n, e) := ⟨_, _, _, rfl⟩
  by_cases he : e = 0
  · subst he
    have hn := decR_n hd
    have hdec := decode_ok hd
    have ht0 := Lib.tail_decode s pos 0
    rw [Nat.add_zero] at ht0
    rw [ht0] at hdec
    have hE2 := Eats.snoc hE hd
    have hx : (s.extract pos s.size).extract n.toNat (s.extract pos s.size).size = s.extract (pos + n.toNat) s.size := by
      rw [hsz]
      refine ByteArray.ext (Array.toList_inj.1 ?_)
      have := size_data s
      simp [List.extract]
      omega
    rw [hx] at hE2
    exact ⟨r, n.toNat, hdec, hE2, by omega, by omega, decR_isR hd⟩
  · have := hE.eat (by rw [hd]; exact he)
    rw [this] at ht
    simp only [] at ht
    omega
end Go.Proofs.YtbcjhmeeonhmaaaGreatDoor.H
end

/-
escape.put, walked.
-/
section
set_option linter.unusedVariables false
set_option maxRecDepth 100000
namespace Go.Proofs.YtbcjhmeeonhmaaaGreatDoor.H
open Go Go.RowKit Go.Proofs.YtbcjhmeeonhmaaaGreatDoorW.PrintWords Go.Proofs.YtbcjhmeeonhmaaaGreatDoorW.PrintMore Go.Proofs.YtbcjhmeeonhmaaaGreatDoor.M

def PutInv (s : ByteArray) (B b tb it : Nat) (w0 : World) (w : World) : Prop :=
  ∃ (pre : List Int) (pos : Nat), Eats s pre (s.extract pos s.size) ∧ pos ≤ s.size ∧ w.heap[it]? = some (.stringIter s pos) ∧ IsWrt B b (Lib.strCells (escL pre)) (escL pre).size w ∧ Tbl tb w ∧ Below B w0 w
set_option maxHeartbeats 4000000 in
theorem put (s : ByteArray) (w : World) (hs : s.size ≤ 1073741824) : Calls Tryz.prog 37 #[.string s] w (PutPost s w) := by
  have hnot : ∀ (x : Bool) (w : World), (Op.unary .not (.bool x)).run Tryz.prog w = .ok (.bool (!x)) w := fun _ _ => rfl
  obtain ⟨W0, hW0⟩ : ∃ W0, w.alloc (.cells #[.pointer none, .slice none 0 0, .int .i64 0] 54) = W0 := ⟨_, rfl⟩
  have n0 : W0.heap[w.heap.size]? = some (.cells #[.pointer none, .slice none 0 0, .int .i64 0] 54) := by rw [← hW0]; exact heap_new _ _
  have hb0 : Below w.heap.size w W0 := by rw [← hW0]; exact below_one _ _
  have HS := Lib.hid hs
  have HI := Lib.hid (isText s W0 hs)
  clear hs
  cases hT : isTextS s with
  | false =>
    have HT := Lib.hid hT
    rw [hT] at HI
    clear hT
    go_enter Tryz.func37, Tryz.ntmps37
    go_wp2_with fail
    refine HI.out.mono ?_
    rintro e w1 ⟨rfl, hb1⟩
    have n1 := (hb1.block _ (Array.getElem?_eq_some_iff.1 n0).1).trans n0
    have hB := below_tr hb0 hb1
    have HE : Hid (IsWrt w.heap.size w.heap.size (Lib.strCells (putE s)) (putE s).size w1 ∧ Below w.heap.size w w1) := by
      refine Lib.hid ⟨?_, hB⟩
      unfold putE
      rw [HT.out, if_neg (by decide)]
      exact .inl ⟨Nat.le_refl _, _, n1, ⟨rfl, .inl ⟨rfl, rfl⟩⟩, by simp [Value.ownBlock]⟩
    go_wp2
    go_ret2
    exact ⟨_, by rw [HT.out]; rfl, HE.out.1, HE.out.2⟩
  | true =>
    have HT := Lib.hid hT
    rw [hT] at HI
    clear hT
    go_enter Tryz.func37, Tryz.ntmps37
    go_wp2_with fail
    refine HI.out.mono ?_
    rintro e w1 ⟨rfl, hb1⟩
    have n1 := (hb1.block _ (Array.getElem?_eq_some_iff.1 n0).1).trans n0
    have hB := below_tr hb0 hb1
    obtain ⟨W2, hW2⟩ : ∃ W2, w1.alloc (.cells #[.int .u32 0, .int .i32 0, .int .u32 0, .map none, .map none, .slice none 0 0] 81) = W2 := ⟨_, rfl⟩
    have t2 : W2.heap[w1.heap.size]? = some (.cells #[.int .u32 0, .int .i32 0, .int .u32 0, .map none, .map none, .slice none 0 0] 81) := by rw [← hW2]; exact heap_new _ _
    have n2 : W2.heap[w.heap.size]? = some (.cells #[.pointer none, .slice none 0 0, .int .i64 0] 54) := by rw [← hW2]; exact heap_old n1 _
    have hB2 : Below w.heap.size w W2 := by rw [← hW2]; exact hB.alloc hB.size _
    have HF := Lib.hid (table_fill w1.heap.size _ _ _ _ W2 t2)
    have hlt : w.heap.size < w1.heap.size := (Array.getElem?_eq_some_iff.1 n1).1
    go_wp2_with fail
    refine HF.out.mono ?_
    rintro e w3 ⟨rfl, hTb, hg3⟩
    have n3 : w3.heap[w.heap.size]? = some (.cells #[.pointer none, .slice none 0 0, .int .i64 0] 54) := (hg3.block _ (Array.getElem?_eq_some_iff.1 n2).1 (by simp; omega)).trans n2
    have hB3 : Below w.heap.size w w3 := hB2.grown hg3 (by have := hB2.size; omega) (fun k hk => by cases hk; omega)
    obtain ⟨tb, htb⟩ : ∃ tb, w1.heap.size = tb := ⟨_, rfl⟩
    obtain ⟨it, hit⟩ : ∃ it, w3.heap.size = it := ⟨_, rfl⟩
    have H0 : Hid (PutInv s w.heap.size w.heap.size tb it w (w3.iter s 0)) := by
      refine Lib.hid ⟨[], 0, ?_, by omega, ?_, ?_, ?_, ?_⟩
      · rw [ByteArray.extract_zero_size]; exact .nil s
      · rw [← hit]; exact World.iter_heap w3 s 0
      · have := heap_old n3 (.stringIter s 0)
        exact .inl ⟨Nat.le_refl _, _, this, ⟨rfl, .inl ⟨rfl, rfl⟩⟩, by simp [Value.ownBlock]⟩
      · rw [← htb]; exact hTb.below (below_one _ _)
      · exact hB3.alloc hB3.size _
    clear n0 n1 n2 n3 t2 hW2 hW0 HF hg3 hTb hB hB2 hb0 hb1
    go_wp2
    go_loopw [7, 8, 9] (fun _ _ _ wr => PutInv s w.heap.size w.heap.size tb it w wr) (fun _ _ _ wr => s.size - wr.iterPos it)
    case atStart => exact H0.out
    case round =>
      clear H0
      obtain ⟨pre, pos, hE, hp, hI, hW, hTb, hB⟩ := hrel
      by_cases hlt2 : pos < s.size
      · have hv : (eat s).2.size = 0 := by
          have := HT.out
          unfold isTextS at this
          rw [Bool.and_eq_true, beq_iff_eq] at this
          exact this.1
        obtain ⟨r, n, hdec, hE2, hn1, hn2, hr⟩ := eat_more hv hE hlt2
        have hbd := isR_bd hr
        have hnx := Lib.run_next_any_at (P := Tryz.prog) wr it s pos 0 hI hlt2
        rw [hdec] at hnx
        simp only [] at hnx
        rw [Int.toNat_of_nonneg hbd.1] at hnx
        have I1 := Lib.iterAt_heap wr it s pos (pos + n) hI
        have W1 := hW.iter hI (pos + n)
        have T1 := hTb.iter (q := pos + n) hI
        have hBit : w.heap.size ≤ it := by rw [← hit]; exact hB3.size
        have B1 := Lib.below_iterAt hB hBit s (pos + n)
        have HM : Hid (wr.iterPos it = pos) := Lib.hid (by simp [World.iterPos, hI])
        obtain ⟨V1, hV1⟩ : ∃ V1, wr.iterAt it s (pos + n) = V1 := ⟨_, rfl⟩
        rw [hV1] at hnx I1 W1 T1 B1
        have HX := Lib.hid (escaped tb r V1 T1)
        have HEE := Lib.hid hE2
        have hpl : pre.length + (s.extract pos s.size).size ≤ s.size := hE.size
        have hsl := escL_size pre
        clear hE2 hE hdec hI hW hTb hB hV1
        go_wp2_with fail
        refine HX.out.mono ?_
        rintro e w4 ⟨rfl, hb4⟩
        have I4 := (hb4.block _ (Array.getElem?_eq_some_iff.1 I1).1).trans I1
        have W4 := W1.below hb4
        have T4 := T1.below hb4
        have B4 : Below w.heap.size w w4 := B1.trans (hb4.mono B1.size)
        have he1 : esc1 r = if (escS r).2 = true then (escS r).1 else (encS r).1 := rfl
        obtain ⟨q, hq⟩ : ∃ q, escS r = q := ⟨_, rfl⟩
        rw [hq] at he1 ⊢
        obtain ⟨x0, ok⟩ := q
        simp only [] at he1 ⊢
        clear HX I1 W1 T1 B1 hb4
        have fin : ∀ (x : ByteArray), esc1 r = x → ∀ W5, w4.alloc (.cells #[.string x] 9) = W5 → Calls Tryz.prog 25 #[.pointer (some ⟨w.heap.size, 0, none⟩), .slice (some ⟨w4.heap.size, 0, none⟩) 1 1] W5 fun e w' => e = .returned (.tuple #[]) ∧ PutInv s w.heap.size w.heap.size tb it w w' ∧ w'.iterPos it = pos + n := by
          intro x hx W5 h5
          have c5 : W5.cell? ⟨w4.heap.size, 0, none⟩ = some (.string x) := by rw [← h5]; exact cel_new w4 _ _ 0 rfl
          have hb5 : Below w4.heap.size w4 W5 := by rw [← h5]; exact below_one _ _
          have I5 := (hb5.block _ (Array.getElem?_eq_some_iff.1 I4).1).trans I4
          have W5' := W4.below hb5
          have T5 := T4.below hb5
          have B5 : Below w.heap.size w W5 := B4.trans (hb5.mono B4.size)
          have hxs : x.size ≤ 6 := by rw [← hx]; exact esc1_size r
          have hss := HS.out
          refine (write1 w.heap.size w.heap.size w4.heap.size 1 _ _ x W5 W5' c5 (by rw [Lib.strCells_length]; omega) (by omega) B5.size).mono ?_
          rintro e w6 ⟨rfl, hw6, hb6, hk6⟩
          obtain ⟨p5, v5, hh5⟩ := W5'.heap
          have I6 : w6.heap[it]? = some (.stringIter s (pos + n)) := hk6 it _ I5 (fun e => by injection e with e; subst e; rw [hh5] at I5; cases I5) (fun _ _ e => by cases e)
          refine ⟨rfl, ⟨pre ++ [r], pos + n, HEE.out, hn2, I6, ?_, T5.wrote hh5 hk6, B5.trans hb6⟩, by simp [World.iterPos, I6]⟩
          rw [escL_snoc, strCells_app, ByteArray.size_append, hx]
          have : (((escL pre).size + x.size : Nat) : Int) = ((escL pre).size : Int) + (x.size : Int) := by omega
          rw [this]
          exact .inr hw6
        cases ok with
        | false =>
          have hc : esc1 r = Utf8.encode r := by rw [he1, if_neg (by decide), encode_eq hr]
          have HC := Lib.hid (fin _ hc _ rfl)
          clear fin he1 hc hr
          go_wp2_with fail
          refine HC.out.mono ?_
          rintro e w6 ⟨rfl, hinv, hpos⟩
          go_wp2
          go_roundw
          case rel => exact hinv
          case measure => rw [hpos, HM.out]; omega
        | true =>
          have hc : esc1 r = x0 := by rw [he1, if_pos rfl]
          have HC := Lib.hid (fin _ hc _ rfl)
          clear fin he1 hc hr
          go_wp2_with fail
          refine HC.out.mono ?_
          rintro e w6 ⟨rfl, hinv, hpos⟩
          go_wp2
          go_roundw
          case rel => exact hinv
          case measure => rw [hpos, HM.out]; omega
      · have hn := Lib.run_next_end_at (P := Tryz.prog) wr it s pos 0 hI hlt2
        have hpe : (s.extract pos s.size).size = 0 := by rw [ByteArray.size_extract]; omega
        have he := hE.eat (by rw [decR, if_pos hpe]; decide)
        have hput : putE s = escL pre := by unfold putE; rw [HT.out, if_pos rfl, he]
        rw [← hput] at hW
        have HE := Lib.hid (And.intro hW hB)
        clear hW hB hE hTb he hput hI
        go_wp2
        go_ret2
        exact ⟨_, by rw [HT.out]; rfl, HE.out.1, HE.out.2⟩
end Go.Proofs.YtbcjhmeeonhmaaaGreatDoor.H
end

/-
(*strings.Builder).String, of a builder inside another struct. The lines of the shelf's proof, turned to this dump.
-/
section
set_option linter.unusedVariables false
set_option maxRecDepth 100000
namespace Go.Proofs.YtbcjhmeeonhmaaaGreatDoor.H
open Go Go.RowKit

set_option maxHeartbeats 2000000 in
theorem wTextK (B b : Nat) (l : List UInt8) (n : Int) (w : World) (h : IsWrt B b (Lib.byteCells l) n w) (hBw : B ≤ w.heap.size) :
    Calls Tryz.prog 27 #[.pointer (some ⟨b, 0, none⟩)] w fun e w' => e = .returned (.string ⟨l.toArray⟩) ∧ Below B w w' ∧ Lib.OthersKept 5 none w w' := by
  obtain ⟨p, v, hB, hbk, hown⟩ : ∃ p v, B ≤ b ∧ w.heap[b]? = some (.cells #[p, v, .int .i64 n] 54 (0, 0)) ∧ w.ownsRowF B 5 1 v (Lib.byteCells l).length (Lib.byteCells l) := by
    rcases h with ⟨hB, v, hb, hown, hne⟩ | ⟨hB, v, hb, hown, hne⟩
    · exact ⟨_, v, hB, hb, hown⟩
    · exact ⟨_, v, hB, hb, hown⟩
  have hlt : b < w.heap.size := (Array.getElem?_eq_some_iff.1 hbk).1
  have cV : w.cell? ⟨b, 1, none⟩ = some v := by rw [Lib.cell_of_heap hbk]; rfl
  have cD : w.drew.cell? ⟨b, 1, none⟩ = some v := cV
  rw [Lib.byteCells_length] at hown
  have hUN : ∀ (W : World) (q : Option Addr), (Builtin.unsafeString_ #[104, 3] 9 #[.pointer q, .int .i64 0]).run Tryz.prog W = .ok (.string .empty) W := fun W q => Lib.run_unsafeString_none W _ _ _ q
  rcases hown.2 with ⟨rfl, hz⟩ | ⟨g, cap, cur, fz, rfl, hbg, hg, hfz, hnc, hcm, hcs, htake⟩
  · have hl : l = [] := List.eq_nil_of_length_eq_zero hz
    subst hl
    have hSD : (Builtin.unsafeSliceData_ #[45] 104 #[.slice none 0 0]).run Tryz.prog w.drew = .ok (.pointer none) w.drew := rfl
    go_enter Tryz.func27, Tryz.ntmps27
    go_wp2
    go_region
    all_goals (go_wp2; go_ret; exact ⟨rfl, Below.drew (Below.refl B w), (Lib.OthersKept.refl _ none w).drew⟩)
  · by_cases hl0 : l = []
    · subst hl0
      by_cases hc0 : cap = 0
      · subst hc0
        have hSD : (Builtin.unsafeSliceData_ #[45] 104 #[.slice (some ⟨g, 0, none⟩) 0 0]).run Tryz.prog w.drew = .ok (.pointer (some ⟨w.drew.heap.size, 0, none⟩)) (w.drew.alloc (.view ⟨g, 0, none⟩ 5)) :=
          Lib.run_unsafeSliceData_zero w.drew _ _ 5 Tryz.underlying104 ⟨g, 0, none⟩ 0 (5, cur.size) (by have hg' : w.drew.heap[g]? = some (.cells cur 5 fz) := hg; simp [World.shape?, hg'])
        have c2 : (w.drew.alloc (.view ⟨g, 0, none⟩ 5)).cell? ⟨b, 1, none⟩ = some (.slice (some ⟨g, 0, none⟩) 0 0) := by
          have : (w.drew.alloc (.view ⟨g, 0, none⟩ 5)).heap[b]? = _ := heap_old (w := w.drew) hbk _
          rw [Lib.cell_of_heap this]; rfl
        have c3 : (w.alloc (.view ⟨g, 0, none⟩ 5)).drew.cell? ⟨b, 1, none⟩ = some (.slice (some ⟨g, 0, none⟩) 0 0) := c2
        go_enter Tryz.func27, Tryz.ntmps27
        go_wp2
        go_region
        all_goals (go_wp2; go_ret; exact ⟨rfl, (Below.drew (Below.refl B w)).alloc hBw _, (Lib.OthersKept.refl _ none w).drew.alloc _⟩)
      · have hSD : (Builtin.unsafeSliceData_ #[45] 104 #[.slice (some ⟨g, 0, none⟩) 0 cap]).run Tryz.prog w.drew = .ok (.pointer (some ⟨g, 0, none⟩)) w.drew :=
          Lib.run_unsafeSliceData_row _ _ _ _ _ _ hc0
        clear hc0
        go_enter Tryz.func27, Tryz.ntmps27
        go_wp2
        go_region
        all_goals (go_wp2; go_ret; exact ⟨rfl, Below.drew (Below.refl B w), (Lib.OthersKept.refl _ none w).drew⟩)
    · have hlen : l.length ≠ 0 := by simpa using hl0
      have hSD : (Builtin.unsafeSliceData_ #[45] 104 #[.slice (some ⟨g, 0, none⟩) l.length cap]).run Tryz.prog w.drew = .ok (.pointer (some ⟨g, 0, none⟩)) w.drew :=
        Lib.run_unsafeSliceData_row _ _ _ _ _ _ (by omega)
      have hUS : (Builtin.unsafeString_ #[104, 3] 9 #[.pointer (some ⟨g, 0, none⟩), .int .i64 l.length]).run Tryz.prog w.drew = .ok (.string ⟨l.toArray⟩) (w.drew.freeze ⟨g, 0, none⟩ l.length) := by
        refine Lib.run_unsafeString_row w.drew 104 3 9 5 Tryz.underlying104 (by kernel_rfl) g cur.size (by have hg' : w.drew.heap[g]? = some (.cells cur 5 fz) := hg; simp [World.shape?, hg']) l hl0 (by omega) (by unfold maxLen at hcm; omega) ?_
        intro j x hx
        have := hown.cells (g := g) rfl j (.int .u8 x.toNat) (by simp [Lib.byteCells, hx])
        exact this
      clear hUN
      go_enter Tryz.func27, Tryz.ntmps27
      go_wp2
      go_region
      all_goals (go_wp2; go_ret; exact ⟨rfl, Lib.below_freeze (Below.drew (Below.refl B w)) (p := ⟨g, 0, none⟩) hbg _, (Lib.OthersKept.refl _ none w).drew.freeze ⟨g, 0, none⟩ _ ⟨cur, fz, hg⟩⟩)
theorem wText (B b : Nat) (l : List UInt8) (n : Int) (w : World) (h : IsWrt B b (Lib.byteCells l) n w) (hBw : B ≤ w.heap.size) :
    Calls Tryz.prog 27 #[.pointer (some ⟨b, 0, none⟩)] w fun e w' => e = .returned (.string ⟨l.toArray⟩) ∧ Below B w w' := (wTextK B b l n w h hBw).mono fun e w' h => ⟨h.1, h.2.1⟩
end Go.Proofs.YtbcjhmeeonhmaaaGreatDoor.H
end

/-
escape.Put and Size, walked.
-/
section
set_option linter.unusedVariables false
set_option maxRecDepth 100000
namespace Go.Proofs.YtbcjhmeeonhmaaaGreatDoor.H
open Go Go.RowKit Go.Proofs.YtbcjhmeeonhmaaaGreatDoorW.PrintWords Go.Proofs.YtbcjhmeeonhmaaaGreatDoorW.PrintMore Go.Proofs.YtbcjhmeeonhmaaaGreatDoor.M

/-- What Put says. -/
def ePutS (s : ByteArray) : ByteArray × Int := if isTextS s = true then (escL (eat s).1, 0) else (⟨#[]⟩, 20)
theorem ePutS_1 (s : ByteArray) : (ePutS s).1 = putE s := by unfold ePutS putE; split <;> rfl
set_option maxHeartbeats 1000000 in
theorem ePut (s : ByteArray) (w : World) (hs : s.size ≤ 1073741824) : Calls Tryz.prog 16 #[.string s] w fun e w' => e = .returned (.tuple #[.string (ePutS s).1, .int .i64 (ePutS s).2]) ∧ Below w.heap.size w w' := by
  have hnot : ∀ (x : Bool) (w : World), (Op.unary .not (.bool x)).run Tryz.prog w = .ok (.bool (!x)) w := fun _ _ => rfl
  have HP := Lib.hid (put s w hs)
  go_enter Tryz.func16, Tryz.ntmps16
  go_wp2_with fail
  refine HP.out.mono ?_
  rintro e w1 ⟨b, rfl, hW, hb1⟩
  have hB1 := hb1.size
  cases hT : isTextS s with
  | false =>
    have he : ePutS s = (⟨#[]⟩, 20) := by unfold ePutS; rw [if_neg (by rw [hT]; decide)]
    clear hW
    go_wp2
    go_ret2
    exact ⟨by rw [he]; rfl, hb1⟩
  | true =>
    have he : ePutS s = (putE s, 0) := by unfold ePutS putE; rw [if_pos hT, if_pos hT]
    have hX := wText w.heap.size b (putE s).data.toList _ w1 hW hB1
    have HX := Lib.hid hX
    obtain ⟨p, v, hh⟩ := hW.heap
    clear hX hW
    go_wp2_with fail
    refine HX.out.mono ?_
    rintro e w2 ⟨rfl, hb2⟩
    go_wp2
    go_ret2
    exact ⟨by rw [he]; rfl, hb1.trans hb2⟩
set_option maxHeartbeats 1000000 in
theorem eSize (s : ByteArray) (w : World) (hs : s.size ≤ 1073741824) : Calls Tryz.prog 20 #[.string s] w fun e w' => e = .returned (.int .i64 (putE s).size) ∧ Below w.heap.size w w' := by
  have HP := Lib.hid (put s w hs)
  go_enter Tryz.func20, Tryz.ntmps20
  go_wp2_with fail
  refine HP.out.mono ?_
  rintro e w1 ⟨b, rfl, hW, hb1⟩
  obtain ⟨p, v, hh⟩ := hW.heap
  have c2 : w1.cell? ⟨b, 2, none⟩ = some (.int .i64 (putE s).size) := by simp [World.cell?, hh]
  have hl := run_call_load (P := Tryz.prog) Tryz.func68 (by kernel_rfl) (by kernel_rfl) (by kernel_rfl) .i64 (by kernel_rfl) c2
  clear hW hh
  go_wp2
  go_ret
  exact ⟨rfl, hb1⟩
end Go.Proofs.YtbcjhmeeonhmaaaGreatDoor.H
end

/-
errors.Is by its contracts, for sentinels of errors.New's make. The lines of the worked proof SentryIs, turned to this seat.
-/
section
set_option linter.unusedVariables false
set_option maxRecDepth 100000
namespace Go.Proofs.YtbcjhmeeonhmaaaGreatDoor.H
open Go Go.RowKit Go.Extern.Stop Go.Stop Go.Extern

theorem isTypeOf (v : Value) (w : World) : (Extern.ReflectliteType.typeOf #[.iface 219 v]).run Tryz.prog w = .ok (.iface 162 (.agg #[.pointer (some ⟨6, 219, none⟩)])) w := by kernel_rfl
/-- What the model enters for rtype's Comparable. -/
def cmpF : Array Value → Sem Value := Extern.ReflectliteType.method fun t => do Go.Extern.Rtype.noPackHeld "Comparable" t; pure (.bool (← typeInfo t).comparable)
theorem isComparable (w : World) : (cmpF #[.agg #[.pointer (some ⟨6, 219, none⟩)]]).run Tryz.prog w = .ok (.bool true) w := by kernel_rfl
theorem isMethodComparable (v : Value) (w : World) : (Go.method 350 162 v "Comparable").run Tryz.prog w = .ok (169, v) w := by kernel_rfl
theorem isComp : (Tryz.prog.info? 219).map (·.comparable) = some true := by kernel_rfl
theorem isSize : (Tryz.prog.info? 238).map (·.size) = some 1 := by kernel_rfl
theorem noIsE (v : Value) (xT : TypeId) (w : World) : (Instr.typeAssert (.iface 219 v) xT 212 true).run Tryz.prog w = .ok (.tuple #[.nilIface, .bool false]) w := run_typeAssert_lacksB Tryz.underlying212 (by kernel_rfl) (by kernel_rfl) v xT w
theorem noUnwrapE (v : Value) (xT : TypeId) (w : World) : (Instr.typeAssert (.iface 219 v) xT 170 true).run Tryz.prog w = .ok (.tuple #[.nilIface, .bool false]) w := run_typeAssert_lacksB Tryz.underlying170 (by kernel_rfl) (by kernel_rfl) v xT w
theorem noUnwrapsE (v : Value) (xT : TypeId) (w : World) : (Instr.typeAssert (.iface 219 v) xT 172 true).run Tryz.prog w = .ok (.tuple #[.nilIface, .bool false]) w := run_typeAssert_lacksB Tryz.underlying172 (by kernel_rfl) (by kernel_rfl) v xT w

/-- errors.Is(x, x), x a pointer to an errors.errorString. -/
theorem is_same (a : Addr) (w : World) :
    Calls Tryz.prog 109 #[.iface 219 (.pointer (some a)), .iface 219 (.pointer (some a))] w fun e w' => e = .returned (.bool true) ∧ w' = w := by
  obtain ⟨i, hi, hcmp⟩ := Option.map_eq_some_iff.1 isComp
  obtain ⟨j, hj, hjs⟩ := Option.map_eq_some_iff.1 isSize
  have h8 := @run_callFunc_extern Tryz.prog 100 _ Extern.ReflectliteType.typeOf Tryz.func100 (by kernel_rfl) (by kernel_rfl) (by kernel_rfl) (by kernel_rfl)
  have h32 := @run_callFunc_extern Tryz.prog 169 _ cmpF Tryz.func169 (by kernel_rfl) (by kernel_rfl) (by kernel_rfl) (by kernel_rfl)
  have tT := isTypeOf
  have cT := isComparable
  have mR := isMethodComparable
  have heq := run_eql_iface_ptr_same (P := Tryz.prog) w a Tryz.underlying40 Tryz.underlying219 hi hcmp hj
  go_enter Tryz.func109, Tryz.ntmps109
  go_wp2
  refine wp_loop_rounds 1 ?_
  rw [rounds_succ]
  go_wp2
  go_ret
  exact ⟨rfl, rfl⟩

/-- errors.Is(nil, x). -/
theorem is_nil (b : Addr) (w : World) :
    Calls Tryz.prog 109 #[.nilIface, .iface 219 (.pointer (some b))] w fun e w' => e = .returned (.bool false) ∧ w' = w := by
  have hn := run_eql_iface_nil_left (P := Tryz.prog) w 219 (.pointer (some b)) Tryz.underlying40
  go_enter Tryz.func109, Tryz.ntmps109
  go_wp2
  go_ret
  exact ⟨rfl, rfl⟩

/-- errors.Is(x, y), two different pointers to errors.errorString: neither has Is nor Unwrap: false. -/
theorem is_other (a b : Addr) (ca cb : Array Value) (ta tb : TypeId) (w : World) (hne : a ≠ b) (ha : w.heap[a.block]? = some (.cells ca ta (0, 0))) (hb : w.heap[b.block]? = some (.cells cb tb (0, 0))) :
    Calls Tryz.prog 109 #[.iface 219 (.pointer (some a)), .iface 219 (.pointer (some b))] w fun e w' => e = .returned (.bool false) ∧ w' = w := by
  obtain ⟨i, hi, hcmp⟩ := Option.map_eq_some_iff.1 isComp
  obtain ⟨j, hj, hjs⟩ := Option.map_eq_some_iff.1 isSize
  have h8 := @run_callFunc_extern Tryz.prog 100 _ Extern.ReflectliteType.typeOf Tryz.func100 (by kernel_rfl) (by kernel_rfl) (by kernel_rfl) (by kernel_rfl)
  have h32 := @run_callFunc_extern Tryz.prog 169 _ cmpF Tryz.func169 (by kernel_rfl) (by kernel_rfl) (by kernel_rfl) (by kernel_rfl)
  have tT := isTypeOf
  have cT := isComparable
  have mR := isMethodComparable
  have nE := noIsE
  have uE := noUnwrapE
  have vE := noUnwrapsE
  have heq := run_eql_iface_ptr_other (P := Tryz.prog) w Tryz.underlying40 Tryz.underlying219 hi hcmp hj (by rw [hjs]; decide) hne ha hb
  go_enter Tryz.func109, Tryz.ntmps109
  go_wp2
  refine wp_loop_rounds 1 ?_
  rw [rounds_succ]
  go_wp2
  go_ret
  exact ⟨rfl, rfl⟩
end Go.Proofs.YtbcjhmeeonhmaaaGreatDoor.H
end

/-
The premise on package-level variables: errors.errorType, num.errBase, num.errNum as Go's start lays them; and num.told.
-/
section
set_option linter.unusedVariables false
set_option maxRecDepth 100000
namespace Go.Proofs.YtbcjhmeeonhmaaaGreatDoor.H
open Go Go.RowKit
/-- The two sentinels are two different pointers to errors.New's structs; errors.errorType holds the handle that its start gives. -/
def GW (w : World) : Prop := ∃ (a b : Addr) (ca cb : Array Value) (ta tb : TypeId),
  w.cell? ⟨3, 0, none⟩ = some (.iface 219 (.pointer (some a))) ∧
  w.cell? ⟨2, 0, none⟩ = some (.iface 219 (.pointer (some b))) ∧ a ≠ b ∧
  w.heap[a.block]? = some (.cells ca ta (0, 0)) ∧ w.heap[b.block]? = some (.cells cb tb (0, 0)) ∧
  w.cell? ⟨0, 0, none⟩ = some (.iface 162 (.agg #[.pointer (some ⟨6, 40, none⟩)]))
theorem heapB {B : Nat} {w w1 : World} (h : Below B w w1) {a : Nat} (hB : a < B) {o : Obj} (hc : w.heap[a]? = some o) : w1.heap[a]? = some o := (h.block a hB).trans hc
theorem lt_of_heap {w : World} {a : Nat} {o : Obj} (hc : w.heap[a]? = some o) : a < w.heap.size := by
  rw [Array.getElem?_eq_some_iff] at hc; exact hc.1
theorem GW.below {w w1 : World} (g : GW w) (h : Below w.heap.size w w1) : GW w1 := by
  obtain ⟨a, b, ca, cb, ta, tb, h1, h2, h3, h4, h5, h6⟩ := g
  exact ⟨a, b, ca, cb, ta, tb, celB h h1, celB h h2, h3, heapB h (lt_of_heap h4) h4, heapB h (lt_of_heap h5) h5, celB h h6⟩
/-- An error value of num: none, errBase, errNum. -/
inductive Er | none | base | num
deriving DecidableEq
def Er.code : Er → Int | .none => 0 | .base => 2 | .num => 30
/-- The error value in a world. -/
def Er.is (k : Er) (w : World) (v : Value) : Prop := match k with
  | .none => v = .nilIface
  | .base => w.cell? ⟨3, 0, Option.none⟩ = some v
  | .num => w.cell? ⟨2, 0, Option.none⟩ = some v
theorem told (k : Er) (v : Value) (w : World) (hG : GW w) (hv : k.is w v) :
    Calls Tryz.prog 86 #[v] w fun e w' => e = .returned (.int .i64 k.code) ∧ w' = w := by
  obtain ⟨a, b, ca, cb, ta, tb, h1, h2, h3, h4, h5, h6⟩ := hG
  cases k with
  | none =>
    obtain rfl : v = .nilIface := hv
    go_enter Tryz.func86, Tryz.ntmps86
    go_wp2_with fail
    refine (is_nil a w).mono ?_
    rintro e w1 ⟨rfl, rfl⟩
    go_wp2_with fail
    refine (is_nil b _).mono ?_
    rintro e w1 ⟨rfl, rfl⟩
    go_wp2
    go_ret
    exact ⟨rfl, rfl⟩
  | base =>
    obtain rfl := Option.some.inj ((show w.cell? _ = some v from hv).symm.trans h1)
    go_enter Tryz.func86, Tryz.ntmps86
    go_wp2_with fail
    refine (is_same a w).mono ?_
    rintro e w1 ⟨rfl, rfl⟩
    go_wp2
    go_ret
    exact ⟨rfl, rfl⟩
  | num =>
    obtain rfl := Option.some.inj ((show w.cell? _ = some v from hv).symm.trans h2)
    go_enter Tryz.func86, Tryz.ntmps86
    go_wp2_with fail
    refine (is_other b a cb ca tb ta w (Ne.symm h3) h5 h4).mono ?_
    rintro e w1 ⟨rfl, rfl⟩
    go_wp2_with fail
    refine (is_same b _).mono ?_
    rintro e w1 ⟨rfl, rfl⟩
    go_wp2
    go_ret
    exact ⟨rfl, rfl⟩
end Go.Proofs.YtbcjhmeeonhmaaaGreatDoor.H
end

/-
num.runeAt, num.take.
-/
section
set_option linter.unusedVariables false
set_option maxRecDepth 100000
namespace Go.Proofs.YtbcjhmeeonhmaaaGreatDoor.H
open Go Go.RowKit

def dv (r : Int) : Int := if 48 ≤ r ∧ r ≤ 57 then r - 48 else if 97 ≤ r ∧ r ≤ 102 then r - 87 else -1
def rv (b : Nat) (r : Int) : Int := if 0 ≤ dv r ∧ dv r < b then dv r else -1
def low (r : Int) : Int := if 65 ≤ r ∧ r ≤ 70 then r + 32 else r
def dgV (b : Nat) (r : Int) : Int := rv b (low r)
/-- One more digit. -/
def step (b acc : Nat) (r : Int) : Option Nat := if dgV b r < 0 then none else if (18446744073709551615 - (dgV b r).toNat) / b < acc then none else some (acc * b + (dgV b r).toNat)
def getL (b : Nat) : List UInt8 → Nat → Option Nat
  | [], acc => some acc
  | c :: t, acc => match step b acc c.toNat with | none => none | some a => getL b t a

theorem dv_chr {d : Nat} (h : d < 16) : dv (chr d) = d := by unfold dv chr; split <;> split <;> (try split) <;> omega
theorem chr_dv {r : Int} (h : 0 ≤ dv r) : chr (dv r).toNat = r ∧ dv r < 16 := by
  unfold dv at h ⊢; unfold chr
  split at h
  · rename_i h1; rw [if_pos h1]; split <;> omega
  · split at h
    · rename_i h1 h2; rw [if_neg h1, if_pos h2]; split <;> omega
    · omega
theorem rv_hit {b k : Nat} (hb : b = 8 ∨ b = 10 ∨ b = 16) (hk : k < b) {r : Int} (h : chr k = r) : rv b r = k := by
  subst h; unfold rv; rw [dv_chr (by omega), if_pos (by omega)]
theorem rv_miss {b : Nat} {r : Int} (h : ∀ j : Nat, j < b → chr j ≠ r) : rv b r = -1 := by
  unfold rv
  split
  · rename_i h1; exact absurd (chr_dv h1.1).1 (h _ (by omega))
  · rfl
theorem digs {b : Nat} (hb : b = 8 ∨ b = 10 ∨ b = 16) : (dig16.extract 0 b).size = b ∧ ∀ (d : Nat) (h : d < (dig16.extract 0 b).size), (((dig16.extract 0 b)[d]'h).toNat : Int) = chr d := by
  have hz : (dig16.extract 0 b).size = b := by rcases hb with rfl | rfl | rfl <;> decide
  exact ⟨hz, fun d h => (chr_at b hb d (by omega)).2⟩

set_option maxHeartbeats 1000000 in
theorem runeAt (b : Nat) (hb : b = 8 ∨ b = 10 ∨ b = 16) (r : Int) (hr : -2147483648 ≤ r ∧ r ≤ 2147483647) (w : World) : Calls Tryz.prog 122 #[.string (dig16.extract 0 b), .int .i32 r] w fun e w' => e = .returned (.int .i64 (rv b r)) ∧ Below w.heap.size w w' := by
  obtain ⟨hz, hd⟩ := digs hb
  generalize dig16.extract 0 b = D at hz hd
  have HD := Lib.hid hd
  clear hd
  have HB := Lib.hid hb
  clear hb
  go_enter Tryz.func122, Tryz.ntmps122
  go_wp2
  go_loopw [] (fun (w' : World) => ∃ pos : Nat, w' = w.iter D pos ∧ pos ≤ b ∧ Hid (∀ j : Nat, j < pos → chr j ≠ r)) (fun (w' : World) => b - w'.iterPos w.heap.size)
  case atStart => exact ⟨0, rfl, by omega, Lib.hid (fun j h => by omega)⟩
  case round =>
    obtain ⟨pos, rfl, hp, hc⟩ := hrel
    by_cases hp : pos < D.size
    · have hch := HD.out pos hp
      have hc128 : chr pos < 128 := by have := HB.out; unfold chr; split <;> omega
      have hlt : (D[pos]'hp).toNat < 128 := by omega
      obtain ⟨x, hx⟩ : ∃ x, (D[pos]'hp).toNat = x := ⟨_, rfl⟩
      have hnx : ∀ ty, (Instr.next (.pointer (some ⟨w.heap.size, 0, none⟩)) true ty).run Tryz.prog (w.iter D pos) = _ := fun ty => run_next_ascii w D pos ty hp hlt
      rw [hx] at hnx hch hlt
      have HX := Lib.hid hx
      clear hx
      have HCH := Lib.hid hch
      by_cases he : (x : Int) = r
      · go_wp2
        go_ret
        exact ⟨ret_int (by rw [rv_hit HB.out (by omega) (HCH.out.symm.trans he)]), (Below.refl _ w).alloc (Nat.le_refl _) _⟩
      · go_wp2
        go_roundw
        case rel => exact ⟨pos + 1, rfl, by omega, Lib.hid (fun j hj => by
          rcases Nat.lt_or_ge j pos with h | h
          · exact hc.out j h
          · obtain rfl : j = pos := by omega
            rw [← HCH.out]; exact he)⟩
        case measure => simp; omega
    · have hnx : ∀ ty, (Instr.next (.pointer (some ⟨w.heap.size, 0, none⟩)) true ty).run Tryz.prog (w.iter D pos) = _ := fun ty => run_next_end w D pos ty hp
      go_wp2
      go_ret
      exact ⟨ret_int (by rw [rv_miss (fun j hj => hc.out j (by omega))]), (Below.refl _ w).alloc (Nat.le_refl _) _⟩

/-- The reader of digits. -/
def NAt (R b acc : Nat) (w : World) : Prop :=
  w.cell? ⟨R, 0, none⟩ = some (.int .u64 b) ∧ w.cell? ⟨R, 1, none⟩ = some (.string (dig16.extract 0 b)) ∧ w.cell? ⟨R, 2, none⟩ = some (.int .u64 acc) ∧ w.frozen? ⟨R, 2, none⟩ = false
theorem NAt.same {R b acc : Nat} {A B : World} (h : NAt R b acc A) (k : B.heap[R]? = A.heap[R]?) : NAt R b acc B := by
  unfold NAt World.cell? World.frozen? at h ⊢
  simp only [] at h ⊢
  rw [k]; exact h
theorem NAt.below {R b acc : Nat} {A B : World} (h : NAt R b acc A) (k : Below A.heap.size A B) : NAt R b acc B :=
  h.same (k.block _ (World.block_lt_of_cell? A _ h.1))
theorem NAt.set {R b acc : Nat} {A : World} (h : NAt R b acc A) (m : Nat) : NAt R b m (A.setCell ⟨R, 2, none⟩ (.int .u64 m)) :=
  ⟨by rw [World.cell?_setCell_other _ _ _ _ (by intro e; injection e with _ e _; omega)]; exact h.1, by rw [World.cell?_setCell_other _ _ _ _ (by intro e; injection e with _ e _; omega)]; exact h.2.1, World.cell?_setCell_same' _ _ _ (by rw [h.2.2.1]; rfl), by rw [World.frozen?_setCell]; exact h.2.2.2⟩

def Took (R b acc : Nat) (r : Int) (w : World) (e : Ending) (w' : World) : Prop :=
  w.grownBy w' (some R) ∧ ((∃ v, step b acc r = none ∧ e = .returned v ∧ w.cell? ⟨2, 0, none⟩ = some v) ∨ (∃ a, step b acc r = some a ∧ a < 18446744073709551616 ∧ e = .returned .nilIface ∧ NAt R b a w'))

theorem low_bd {r : Int} (hr : 0 ≤ r ∧ r ≤ 2147483647) : 0 ≤ low r ∧ low r ≤ 2147483647 := by unfold low; split <;> omega
theorem dgV_bd (b : Nat) (r : Int) : dgV b r = -1 ∨ ∃ d : Nat, dgV b r = d ∧ d < b := by
  unfold dgV rv; split
  · rename_i h; exact .inr ⟨(dv (low r)).toNat, by omega, by omega⟩
  · exact .inl rfl

theorem step_none {b acc : Nat} {r : Int} (h : dgV b r = -1) : step b acc r = none := by unfold step; rw [h, if_pos (by omega)]
theorem step_over {b acc d : Nat} {r : Int} (h : dgV b r = d) (hq : (18446744073709551615 - d) / b < acc) : step b acc r = none := by
  unfold step; rw [h, if_neg (by omega), Int.toNat_natCast, if_pos hq]
theorem step_some {b acc d : Nat} {r : Int} (h : dgV b r = d) (hq : ¬ (18446744073709551615 - d) / b < acc) : step b acc r = some (acc * b + d) := by
  unfold step; rw [h, if_neg (by omega), Int.toNat_natCast, if_neg hq]

/-- What the digit's arm does. -/
theorem digit_cases (b acc : Nat) (hb : b = 8 ∨ b = 10 ∨ b = 16) (r : Int) :
    dgV b r = -1 ∨ ∃ d q : Nat, dgV b r = d ∧ d < 16 ∧ IntKind.u64.wrap (d : Int) = d ∧ IntKind.u64.wrap (18446744073709551615 - (d : Int)) = ((18446744073709551615 - d : Nat) : Int) ∧ (18446744073709551615 - d) / b = q ∧
      ((18446744073709551615 - d : Nat) : Int).tdiv (b : Int) = (q : Int) ∧ IntKind.u64.wrap (q : Int) = q := by
  rcases dgV_bd b r with h | ⟨d, hd, hdb⟩
  · exact .inl h
  · right
    obtain ⟨q, hq⟩ : ∃ q, (18446744073709551615 - d) / b = q := ⟨_, rfl⟩
    refine ⟨d, q, hd, by omega, wrap_u64 _ (by omega) (by omega), ?_, hq, ?_, ?_⟩
    · rw [wrap_u64 _ (by omega) (by omega)]; omega
    · rw [← hq]; exact (Int.ofNat_tdiv _ b).symm
    · have : q ≤ 18446744073709551615 - d := by rw [← hq]; exact Nat.div_le_self _ _
      exact wrap_u64 _ (by omega) (by omega)
theorem digit_in {b acc d q : Nat} (hq : (18446744073709551615 - d) / b = q) (h : ¬ q < acc) (hd : d < 16) : ∃ m : Nat, m + d < 18446744073709551616 ∧ acc * b = m ∧ (acc : Int) * (b : Int) = (m : Int) ∧ IntKind.u64.wrap (m : Int) = m ∧ IntKind.u64.wrap ((m : Int) + (d : Int)) = ((m + d : Nat) : Int) := by
  have h1 : acc * b ≤ q * b := Nat.mul_le_mul_right _ (by omega)
  have h2 : q * b ≤ 18446744073709551615 - d := by rw [← hq]; exact Nat.div_mul_le_self _ _
  refine ⟨acc * b, by omega, rfl, (Int.natCast_mul acc b).symm, wrap_u64 _ (by omega) (by omega), ?_⟩
  rw [wrap_u64 _ (by omega) (by omega)]; omega

theorem low_cases (r : Int) : (65 ≤ r ∧ r ≤ 70 ∧ low r = r + 32) ∨ (¬ 65 ≤ r ∧ low r = r) ∨ (65 ≤ r ∧ ¬ r ≤ 70 ∧ low r = r) := by unfold low; split <;> omega
theorem grown_drewN {w w1 : World} {row : Option Nat} (h : w.grownBy w1 row) (n : Nat) : w.grownBy (w1.drewN n) row := ⟨h.os, h.tape, h.output, h.size, h.block⟩
set_option maxHeartbeats 4000000 in
theorem take (R L b acc : Nat) (hb : b = 8 ∨ b = 10 ∨ b = 16) (r : Int) (hr : 0 ≤ r ∧ r ≤ 2147483647) (hacc : acc < 18446744073709551616) (w : World) (hG : GW w) (hR : NAt R b acc w) (hL : w.cell? ⟨L, 0, none⟩ = some (.int .i32 r)) (hLR : L ≠ R) :
    Calls Tryz.prog 108 #[.pointer (some ⟨R, 0, none⟩), .slice (some ⟨L, 0, none⟩) 1 1] w (Took R b acc r w) := by
  have hRA : ∀ w, _ := fun w => runeAt b hb (low r) (by have := low_bd hr; omega) w
  have hdg : rv b (low r) = dgV b r := rfl
  rw [hdg] at hRA
  obtain ⟨D, hD⟩ : ∃ D, dig16.extract 0 b = D := ⟨_, rfl⟩
  rw [hD] at hRA
  have HRA := Lib.hid hRA
  clear hRA hdg
  have HB := Lib.hid hb
  have hb0 : ¬ b = 0 := by omega
  have hDC := digit_cases b acc hb r
  clear hb
  rcases low_cases r with ⟨h1, h2, h3⟩ | ⟨h1, h3⟩ | ⟨h1, h2, h3⟩
  all_goals
    rw [h3] at HRA
    clear h3
    rcases hDC with hd | ⟨d, q, hd, h16, hw0, hw1, hq, hq2, hq3⟩
  all_goals
    obtain ⟨ea, eb, _, _, _, _, g1, g2, _⟩ := id hG
    obtain ⟨c1, c2, c3, c4⟩ := id hR
    rw [hD] at c2
    have hbR := World.block_lt_of_cell? w _ c1
    rw [hd] at HRA
    have HDD := Lib.hid hd
    clear hd
    try have HQQ := Lib.hid hq
    try clear hq
    go_enter Tryz.func108, Tryz.ntmps108
    go_wp2
    refine wp_loop_rounds 2 ?_
    rw [rounds_succ]
    go_wp2_with fail
    refine (HRA.out w).mono ?_
    rintro e w1 ⟨rfl, hb1⟩
    have d1 := celB hb1 c1
    have d2 := celB hb1 c2
    have d3 := celB hb1 c3
    have d4 : w1.frozen? ⟨R, 2, none⟩ = false := (hR.below hb1).2.2.2
    have e2 := celB hb1 g2
    have HB1 := Lib.hid hb1
    clear hb1
    go_wp2
    go_quiet (fail)
  all_goals try (go_wp2; go_ret; exact ⟨grown_drewN (grown_of_below HB1.out _) _, .inl ⟨_, step_none HDD.out, rfl, g2⟩⟩)
  all_goals
    by_cases hc : q < acc
    · go_wp2
      go_ret
      exact ⟨grown_drewN (grown_of_below HB1.out _) _, .inl ⟨_, step_over HDD.out (by rw [HQQ.out]; exact hc), rfl, g2⟩⟩
    · obtain ⟨m, hm1, hm2, hm3, hm4, hm5⟩ := digit_in HQQ.out hc h16
      have HM2 := Lib.hid hm2
      clear hm2
      go_wp2
      obtain ⟨W2, hW2⟩ : ∃ W2, w1.drewN nq = W2 := ⟨_, rfl⟩
      have hR2 : NAt R b acc W2 := by rw [← hW2]; exact NAt.below hR (below_drN HB1.out nq)
      obtain ⟨k1, k2, k3, k4⟩ := id hR2
      rw [hW2]
      go_region
      go_wp2
      rw [rounds_succ]
      go_wp2
      go_ret
      have hS := hR2.set (m + d)
      rw [Int.natCast_add] at hS
      exact ⟨grown_drew (by rw [← hW2]; exact Lib.grownBy_setB (grown_drewN (grown_of_below HB1.out _) nq) 2 _), .inr ⟨m + d, by rw [step_some HDD.out (by rw [HQQ.out]; exact hc), HM2.out], hm1, rfl, hS⟩⟩

end Go.Proofs.YtbcjhmeeonhmaaaGreatDoor.H
end

/-
num.get, num.Get.
-/
section
set_option linter.unusedVariables false
set_option maxRecDepth 100000
namespace Go.Proofs.YtbcjhmeeonhmaaaGreatDoor.H
open Go Go.RowKit

theorem step_high {b acc : Nat} {r : Int} (h : 128 ≤ r) : step b acc r = none := by
  have h1 : low r = r := by unfold low; split <;> omega
  have h2 : dv r = -1 := by unfold dv; split <;> (try split) <;> omega
  have h3 : dgV b r = -1 := by unfold dgV rv; rw [h1, h2]; split <;> omega
  exact step_none h3
def getN (b : Nat) (s : ByteArray) : Option Nat := if s.size = 0 then none else getL b s.data.toList 0
def Gets (b : Nat) (s : ByteArray) (w : World) (e : Ending) (w' : World) : Prop :=
  Below w.heap.size w w' ∧ ((∃ v, getN b s = none ∧ e = .returned (.tuple #[.int .u64 0, v]) ∧ w.cell? ⟨2, 0, none⟩ = some v) ∨ (∃ n : Nat, getN b s = some n ∧ n < 18446744073709551616 ∧ e = .returned (.tuple #[.int .u64 n, .nilIface])))

theorem ofs (b : Nat) (hb : b = 8 ∨ b = 10 ∨ b = 16) (w : World) : Calls Tryz.prog 107 #[.int .i64 b] w fun e w' => e = .returned (.tuple #[.agg #[.int .u64 b, .string (dig16.extract 0 b)], .nilIface]) ∧ Below w.heap.size w w' := by
  rcases hb with rfl | rfl | rfl
  · exact of8 w
  · exact of10 w
  · exact of16 w

set_option maxHeartbeats 4000000 in
theorem get (b : Nat) (hb : b = 8 ∨ b = 10 ∨ b = 16) (s : ByteArray) (w : World) (hG : GW w) :
    Calls Tryz.prog 85 #[.int .i64 b, .string s] w (Gets b s w) := by
  have HB := Lib.hid hb
  clear hb
  go_enter Tryz.func85, Tryz.ntmps85
  go_wp2_with fail
  refine (ofs b HB.out w).mono ?_
  rintro e w1 ⟨rfl, hb1⟩
  have hG1 := hG.below hb1
  have hz1 := hb1.size
  obtain ⟨D, hD⟩ : ∃ D, dig16.extract 0 b = D := ⟨_, rfl⟩
  rw [hD]
  have HD := Lib.hid hD
  clear hD
  go_wp2
  obtain ⟨R, hR⟩ : ∃ R, w1.heap.size + 1 = R := ⟨_, rfl⟩
  obtain ⟨W0, hW0⟩ : ∃ W0, (((w1.alloc (.cells #[.int .u64 b, .string D] 180)).alloc (.cells #[.int .u64 b, .string D, .int .u64 0] 185)).iter s 0) = W0 := ⟨_, rfl⟩
  have hB0 : Below w.heap.size w W0 := by rw [← hW0]; exact ((hb1.alloc (by omega) _).alloc (by simp; omega) _).alloc (by simp; omega) _
  have hz0 : W0.heap.size = R + 2 := by rw [← hW0, ← hR]; simp [World.iter]
  have hk0 : W0.heap[R + 1]? = some (.stringIter s 0) := by
    rw [← hW0, ← hR]; have := World.iter_heap ((w1.alloc (.cells #[.int .u64 b, .string D] 180)).alloc (.cells #[.int .u64 b, .string D, .int .u64 0] 185)) s 0
    simpa using this
  have hN0 : NAt R b 0 W0 := by
    have hb2 : Below (R + 1) ((w1.alloc (.cells #[.int .u64 b, .string D] 180)).alloc (.cells #[.int .u64 b, .string D, .int .u64 0] 185)) W0 := by
      rw [← hW0]; exact (Below.refl _ _).alloc (by rw [← hR]; simp) _
    have hh : W0.heap[R]? = some (.cells #[.int .u64 b, .string D, .int .u64 0] 185) := by
      refine heapB hb2 (by omega) ?_
      rw [← hR]; simpa using World.alloc_heap_new (w1.alloc (.cells #[.int .u64 b, .string D] 180)) (.cells #[.int .u64 b, .string D, .int .u64 0] 185)
    refine ⟨?_, ?_, ?_, ?_⟩ <;> simp [World.cell?, World.frozen?, hh, HD.out]
  have e1 : w1.heap.size + 1 + 1 = R + 1 := by omega
  simp only [hR, hW0]
  go_loopw [] (fun (wr : World) => ∃ (pos acc : Nat), NAt R b acc wr ∧ wr.heap[R + 1]? = some (.stringIter s pos) ∧ Below w.heap.size w wr ∧ R + 2 ≤ wr.heap.size ∧ Hid (getL b (s.data.toList.drop pos) acc = getL b s.data.toList 0) ∧ acc < 18446744073709551616 ∧ pos ≤ s.size) (fun (wr : World) => s.size - wr.iterPos (R + 1))
  case atStart => exact ⟨0, 0, hN0, hk0, hB0, by omega, Lib.hid rfl, by omega, by omega⟩
  case round =>
    obtain ⟨pos, acc, hN, hk, hB, hzr, hI, ha, hp⟩ := hrel
    by_cases hlt : pos < s.size
    · have hd : s.data.toList.drop pos = (s[pos]'hlt) :: s.data.toList.drop (pos + 1) := by
        have : pos < s.data.toList.length := by rw [size_data]; exact hlt
        rw [List.drop_eq_getElem_cons this]; rfl
      have hbs := (s[pos]'hlt).toNat_lt
      have hbk := World.block_lt_of_cell? wr _ hN.1
      have hG2 : GW wr := hG.below hB
      obtain ⟨ea, eb, _, _, _, _, g1, g2, _⟩ := id hG2
      have g20 : w.cell? ⟨2, 0, none⟩ = some (.iface 219 (.pointer (some eb))) := by
        obtain ⟨_, _, _, _, _, _, _, g20, _⟩ := id hG
        exact g20.trans ((celB hB g20).symm.trans g2)
      -- The rune there, and how far it goes.
      obtain ⟨x, wd, hnx, hx, hwd⟩ : ∃ x wd : Nat, (∀ ty, (Instr.next (.pointer (some ⟨R + 1, 0, none⟩)) true ty).run Tryz.prog wr = .ok (.tuple #[.bool true, .int .i64 pos, .int .i32 x]) (wr.iterAt (R + 1) s (pos + wd))) ∧ x ≤ 2147483647 ∧
          ((x = (s[pos]'hlt).toNat ∧ wd = 1) ∨ (128 ≤ x ∧ 128 ≤ (s[pos]'hlt).toNat)) := by
        by_cases h128 : (s[pos]'hlt).toNat < 128
        · exact ⟨_, 1, fun ty => Lib.run_next_ascii_at wr (R + 1) s pos ty hk hlt h128, by omega, .inl ⟨rfl, rfl⟩⟩
        · exact ⟨_, _, fun ty => Lib.run_next_any_at wr (R + 1) s pos ty hk hlt, decode_le s pos, .inr ⟨(decode_high s pos hlt (by omega)).1, by omega⟩⟩
      have HWD := Lib.hid hwd
      clear hwd hbs
      obtain ⟨W1, hW1⟩ : ∃ W1, wr.iterAt (R + 1) s (pos + wd) = W1 := ⟨_, rfl⟩
      rw [hW1] at hnx
      have hk1 : W1.heap[R + 1]? = some (.stringIter s (pos + wd)) := by rw [← hW1]; exact Lib.iterAt_heap wr (R + 1) s pos (pos + wd) hk
      have hz1' : W1.heap.size = wr.heap.size := by rw [← hW1]; exact Lib.iterAt_size _ _ _ _
      have hN1 : NAt R b acc W1 := hN.same (by rw [← hW1]; exact Lib.iterAt_other wr (R + 1) R s (pos + wd) (by omega))
      have hB1 : Below w.heap.size w W1 := by rw [← hW1]; exact Lib.below_iterAt hB (by omega) s _
      have HD2 := Lib.hid hd
      clear hd hW1
      have hT := take R W1.heap.size b acc HB.out x ⟨by omega, by omega⟩ ha (W1.alloc (.cells #[.int .i32 x] 21)) (hG.below (hB1.alloc (by omega) _)) (hN1.below (below_one _ _)) (cel_new W1 #[.int .i32 x] 21 0 rfl) (by omega)
      rw [hz1'] at hT
      have HT := Lib.hid hT
      clear hT
      go_wp2_with fail
      refine HT.out.mono ?_
      rintro e W2 ⟨hg, hh⟩
      have hk2 : W2.heap[R + 1]? = some (.stringIter s (pos + wd)) := (hg.block (R + 1) (by simp; omega) (by intro h; injection h; omega)).trans (heapB (below_one W1 (.cells #[.int .i32 x] 21)) (by omega) hk1)
      have hB2 : Below w.heap.size w W2 := (hB1.alloc (by omega) (.cells #[.int .i32 x] 21)).trans ⟨hg.os, hg.tape, hg.output, hg.size, fun i hi => hg.block i (by simp; have := hB1.size; omega) (by intro h; injection h; omega)⟩
      have hz2 : W1.heap.size + 1 ≤ W2.heap.size := by have := hg.size; simpa using this
      obtain ⟨v, hs, rfl, hv⟩ | ⟨a, hs, ha2, rfl, hN2⟩ := hh
      · obtain rfl := Option.some.inj ((celB (hB1.alloc (by omega) (.cells #[.int .i32 x] 21)) g20).symm.trans hv)
        have HS := Lib.hid hs
        clear hs
        go_wp2
        refine bodyPost_ret (v := .tuple #[.int .u64 0, .iface 219 (.pointer (some eb))]) (by simp [results, Tryz.results85, go_sem]) rfl ⟨hB2, .inl ⟨_, ?_, rfl, g20⟩⟩
        have : s.size ≠ 0 := by omega
        unfold getN
        rw [if_neg this, ← hI.out, HD2.out]
        have hst : step b acc (s[pos]'hlt).toNat = none := by
          rcases HWD.out with ⟨h1, _⟩ | ⟨_, h2⟩
          · rw [← h1]; exact HS.out
          · exact step_high (by omega)
        unfold getL; rw [hst]
      · have HS := Lib.hid hs
        clear hs
        go_wp2
        go_roundw
        case rel =>
          rcases HWD.out with ⟨h1, h2⟩ | ⟨h1, _⟩
          · refine ⟨pos + 1, a, hN2, by rw [h2] at hk2; exact hk2, hB2, by omega, Lib.hid ?_, ha2, by omega⟩
            rw [← hI.out, HD2.out]
            show _ = (match step b acc (s[pos]'hlt).toNat with | none => none | some a => getL b (s.data.toList.drop (pos + 1)) a)
            rw [← h1, HS.out]
          · exact absurd HS.out (by rw [step_high (by omega)]; simp)
        case measure =>
          rcases HWD.out with ⟨h1, h2⟩ | ⟨h1, _⟩
          · simp [World.iterPos, hk, hk2]; omega
          · exact absurd HS.out (by rw [step_high (by omega)]; simp)
    · have hnx : ∀ ty, (Instr.next (.pointer (some ⟨R + 1, 0, none⟩)) true ty).run Tryz.prog wr = _ := fun ty => Lib.run_next_end_at wr (R + 1) s pos ty hk hlt
      have hI' : getL b s.data.toList 0 = some acc := by
        rw [← hI.out, List.drop_of_length_le (by rw [size_data]; omega)]; rfl
      obtain ⟨c1, c2, c3, c4⟩ := id hN
      have HI := Lib.hid hI'
      clear hI'
      obtain ⟨ea, eb, _, _, _, _, g1, g20, _⟩ := id hG
      have g2 := celB hB g20
      by_cases hs0 : s.size = 0
      · have hse : s = ⟨#[]⟩ := by
          cases s with | mk d => simp [ByteArray.size] at hs0; simp [hs0]
        have HS0 := Lib.hid hs0
        subst hse
        go_wp2
        go_quiet (fail)
        go_wp2
        exact bodyPost_ret (v := .tuple #[.int .u64 0, .iface 219 (.pointer (some eb))]) (by simp [results, Tryz.results85, go_sem]) rfl ⟨below_drN hB _, .inl ⟨_, by unfold getN; rw [if_pos HS0.out], rfl, g20⟩⟩
      · have h1 : s.toList.isEmpty = false := by
          rw [toList_data]
          cases hl : s.data.toList with
          | nil => exact absurd (by rw [← size_data, hl]; rfl) hs0
          | cons _ _ => rfl
        have HS0 := Lib.hid hs0
        go_wp2
        exact bodyPost_ret (v := .tuple #[.int .u64 acc, .nilIface]) (by simp [results, Tryz.results85, go_sem]) rfl ⟨hB, .inr ⟨acc, by unfold getN; rw [if_neg HS0.out, HI.out], ha, rfl⟩⟩

def getC (b : Nat) (s : ByteArray) : Int × Int := match getN b s with | some n => (n, 0) | none => (0, 30)
theorem num_Get (b : Nat) (hb : b = 8 ∨ b = 10 ∨ b = 16) (s : ByteArray) (w : World) (hG : GW w) :
    Calls Tryz.prog 58 #[.int .i64 b, .string s] w fun e w' => e = .returned (.tuple #[.int .u64 (getC b s).1, .int .i64 (getC b s).2]) ∧ Below w.heap.size w w' := by
  go_enter Tryz.func58, Tryz.ntmps58
  go_wp2_with fail
  refine (get b hb s w hG).mono ?_
  rintro e w1 ⟨hb1, ⟨v, hn, rfl, hv⟩ | ⟨n, hn, hn2, rfl⟩⟩
  · have HT := Lib.hid (told .num v w1 (hG.below hb1) (celB hb1 hv))
    have HN := Lib.hid hn
    clear hn
    go_wp2_with fail
    refine HT.out.mono ?_
    rintro e w2 ⟨rfl, rfl⟩
    go_wp2
    exact bodyPost_ret (v := .tuple #[.int .u64 0, .int .i64 30]) (by simp [results, Tryz.results58, go_sem, Er.code]) rfl ⟨by unfold getC; rw [HN.out], hb1⟩
  · have HT := Lib.hid (told .none .nilIface w1 (hG.below hb1) rfl)
    have HN := Lib.hid hn
    clear hn
    go_wp2_with fail
    refine HT.out.mono ?_
    rintro e w2 ⟨rfl, rfl⟩
    go_wp2
    exact bodyPost_ret (v := .tuple #[.int .u64 n, .int .i64 0]) (by simp [results, Tryz.results58, go_sem, Er.code]) rfl ⟨by unfold getC; rw [HN.out], hb1⟩
end Go.Proofs.YtbcjhmeeonhmaaaGreatDoor.H
end

/-
  DERIVED: THE SHELF's CONTRACTS AT THIS DUMP, IN PLAIN WORDS (tools/lay-plain.mjs out of 'TryzShelf.lean', which tools/lay-shelf.mjs wrote): THE SAME DECLARATIONS UNDER THE SAME NAMES: 'import', 'namespace', 'open', 'def', 'theorem' AND NOTHING ELSE: no command of the shelf's: FOR A HAND-IN. Each laying: the table of numbers ('.._ren') and one theorem, a field a fact of the dump's own or the kernel's comparison; each contract: ONE APPLICATION.
-/
section
namespace Go.Proofs
open Go.Shelf
def Tryz.lays137_ren : Go.Shelf.Ren := ⟨fun | 137 => 32 | 217 => 55 | 266 => 82 | n => n, fun | 9 => 9 | 5 => 5 | 3 => 3 | n => n, fun | n => n⟩
theorem Tryz.lays137 : Go.Proofs.Lays.n137 Tryz.prog Tryz.lays137_ren := {
  mixed := by kernel_rfl
  f137 := Tryz.func32.trans (congrArg some (by kernel_rfl))
  f217 := Tryz.func55.trans (congrArg some (by kernel_rfl))
  f266 := Tryz.func82.trans (congrArg some (by kernel_rfl))
  t3 := Tryz.underlying3
  a3 := Tryz.isAgg3
  z3 := Tryz.sizeOf3
  v3 := Tryz.zeroValue3
  t5 := Tryz.underlying5
  a5 := Tryz.isAgg5
  z5 := Tryz.sizeOf5
  v5 := Tryz.zeroValue5
  t9 := Tryz.underlying9
  a9 := Tryz.isAgg9
  z9 := Tryz.sizeOf9
  v9 := Tryz.zeroValue9 }
open Go.RowKit in
/-- strings.IndexByte: "IndexByte returns the index of the first instance of c in s, or -1 if c is not present in s.": IT RETURNS 'Lib.indexByte s c'; the world is as it was. (LAID: no walk: one application.) -/
theorem Tryz.strings_IndexByte (s : ByteArray) (c : Int) (w : World) :
    Calls Tryz.prog 32 #[.string s, .int .u8 c] w fun e w' => e = .returned (.int .i64 (Lib.indexByte s.data.toList c.toNat.toUInt8)) ∧ w' = w := Any.strings_IndexByte Tryz.lays137 s c w
def Tryz.lays210_ren : Go.Shelf.Ren := ⟨fun | 210 => 54 | 206 => 81 | n => n, fun | 9 => 9 | 4 => 4 | 3 => 3 | n => n, fun | n => n⟩
def Tryz.lays103_ren : Go.Shelf.Ren := ⟨fun | 103 => 31 | 210 => 54 | 206 => 81 | n => n, fun | 9 => 9 | 4 => 4 | 24 => 63 | 3 => 3 | n => n, fun | n => n⟩
theorem Tryz.lays103 : Go.Proofs.Lays.n103 Tryz.prog Tryz.lays103_ren := {
  mixed := by kernel_rfl
  f103 := Tryz.func31.trans (congrArg some (by kernel_rfl))
  f206 := Tryz.func81.trans (congrArg some (by kernel_rfl))
  f210 := Tryz.func54.trans (congrArg some (by kernel_rfl))
  t3 := Tryz.underlying3
  a3 := Tryz.isAgg3
  z3 := Tryz.sizeOf3
  v3 := Tryz.zeroValue3
  t4 := Tryz.underlying4
  a4 := Tryz.isAgg4
  z4 := Tryz.sizeOf4
  v4 := Tryz.zeroValue4
  t9 := Tryz.underlying9
  a9 := Tryz.isAgg9
  z9 := Tryz.sizeOf9
  v9 := Tryz.zeroValue9
  t24 := Tryz.underlying63
  a24 := Tryz.isAgg63
  z24 := Tryz.sizeOf63
  v24 := Tryz.zeroValue63 }
open Go.RowKit in
/-- strings.CutPrefix: "CutPrefix returns s without the provided leading prefix string and reports whether it found the prefix. If s doesn't start with prefix, CutPrefix returns s, false. If prefix is the empty string, CutPrefix returns s, true.": IT RETURNS '(Lib.trimPrefix s p, Lib.hasPrefix s p)'; the world is as it was. (LAID: no walk: one application.) -/
theorem Tryz.strings_CutPrefix (s p : ByteArray) (w : World) :
    Calls Tryz.prog 31 #[.string s, .string p] w fun e w' => e = .returned (.tuple #[.string ⟨(Lib.trimPrefix s.data.toList p.data.toList).toArray⟩, .bool (Lib.hasPrefix s.data.toList p.data.toList)]) ∧ w' = w := Any.strings_CutPrefix Tryz.lays103 s p w
def Tryz.lays99_ren : Go.Shelf.Ren := ⟨fun | 99 => 74 | 206 => 81 | n => n, fun | 9 => 9 | 4 => 4 | 3 => 3 | n => n, fun | n => n⟩
theorem Tryz.lays99 : Go.Proofs.Lays.n99 Tryz.prog Tryz.lays99_ren := {
  mixed := by kernel_rfl
  f99 := Tryz.func74.trans (congrArg some (by kernel_rfl))
  f206 := Tryz.func81.trans (congrArg some (by kernel_rfl))
  t3 := Tryz.underlying3
  a3 := Tryz.isAgg3
  z3 := Tryz.sizeOf3
  v3 := Tryz.zeroValue3
  t4 := Tryz.underlying4
  a4 := Tryz.isAgg4
  z4 := Tryz.sizeOf4
  v4 := Tryz.zeroValue4
  t9 := Tryz.underlying9
  a9 := Tryz.isAgg9
  z9 := Tryz.sizeOf9
  v9 := Tryz.zeroValue9 }
open Go.RowKit Go.Lib in
/-- strings.HasPrefix: "HasPrefix reports whether the string s begins with prefix.": IT RETURNS 'Lib.hasPrefix s prefix'; the world is as it was. (LAID: no walk: one application.) -/
theorem Tryz.strings_HasPrefix (s p : ByteArray) (w : World) :
    Calls Tryz.prog 74 #[.string s, .string p] w fun e w' => e = .returned (.bool (Lib.hasPrefix s.data.toList p.data.toList)) ∧ w' = w := Any.strings_HasPrefix Tryz.lays99 s p w
def Tryz.lays154_ren : Go.Shelf.Ren := ⟨fun | 154 => 69 | 138 => 93 | 165 => 94 | 143 => 95 | 166 => 48 | 197 => 96 | 169 => 27 | 195 => 113 | 218 => 114 | 240 => 75 | 241 => 115 | 219 => 116 | 260 => 117 | 276 => 99 | 277 => 125 | 217 => 55 | 225 => 126 | 224 => 127 | 267 => 128 | 266 => 82 | 314 => 137 | n => n, fun | 9 => 9 | 3 => 3 | 4 => 4 | 72 => 47 | 0 => 0 | 76 => 97 | 105 => 155 | 21 => 21 | 5 => 5 | 70 => 44 | 20 => 20 | 37 => 45 | 75 => 40 | 127 => 104 | 164 => 125 | 46 => 159 | 119 => 202 | 139 => 205 | 138 => 204 | 146 => 215 | 51 => 68 | 80 => 61 | n => n, fun | 1 => 1 | 3 => 4 | 4 => 5 | n => n⟩
def Tryz.lays155_ren : Go.Shelf.Ren := ⟨fun | 155 => 43 | 154 => 69 | 138 => 93 | 165 => 94 | 143 => 95 | 166 => 48 | 197 => 96 | 169 => 27 | 195 => 113 | 218 => 114 | 240 => 75 | 241 => 115 | 219 => 116 | 260 => 117 | 276 => 99 | 277 => 125 | 217 => 55 | 225 => 126 | 224 => 127 | 267 => 128 | 266 => 82 | 314 => 137 | n => n, fun | 9 => 9 | 3 => 3 | 4 => 4 | 72 => 47 | 0 => 0 | 76 => 97 | 105 => 155 | 21 => 21 | 5 => 5 | 70 => 44 | 20 => 20 | 37 => 45 | 75 => 40 | 127 => 104 | 164 => 125 | 46 => 159 | 119 => 202 | 139 => 205 | 138 => 204 | 146 => 215 | 51 => 68 | 80 => 61 | n => n, fun | 1 => 1 | 3 => 4 | 4 => 5 | n => n⟩
theorem Tryz.lays155 : Go.Proofs.Lays.n155 Tryz.prog Tryz.lays155_ren := {
  mixed := by kernel_rfl
  f138 := Tryz.func93.trans (congrArg some (by kernel_rfl))
  f143 := Tryz.func95.trans (congrArg some (by kernel_rfl))
  f154 := Tryz.func69.trans (congrArg some (by kernel_rfl))
  f155 := Tryz.func43.trans (congrArg some (by kernel_rfl))
  f165 := Tryz.func94.trans (congrArg some (by kernel_rfl))
  f166 := Tryz.func48.trans (congrArg some (by kernel_rfl))
  f169 := Tryz.func27.trans (congrArg some (by kernel_rfl))
  f195 := Tryz.func113.trans (congrArg some (by kernel_rfl))
  f197 := Tryz.func96.trans (congrArg some (by kernel_rfl))
  f217 := Tryz.func55.trans (congrArg some (by kernel_rfl))
  f218 := Tryz.func114.trans (congrArg some (by kernel_rfl))
  f219 := Tryz.func116.trans (congrArg some (by kernel_rfl))
  f224 := Tryz.func127.trans (congrArg some (by kernel_rfl))
  f225 := Tryz.func126.trans (congrArg some (by kernel_rfl))
  f240 := Tryz.func75.trans (congrArg some (by kernel_rfl))
  f241 := Tryz.func115.trans (congrArg some (by kernel_rfl))
  f260 := Tryz.func117.trans (congrArg some (by kernel_rfl))
  f266 := Tryz.func82.trans (congrArg some (by kernel_rfl))
  f267 := Tryz.func128.trans (congrArg some (by kernel_rfl))
  f276 := Tryz.func99.trans (congrArg some (by kernel_rfl))
  f277 := Tryz.func125.trans (congrArg some (by kernel_rfl))
  f314 := Tryz.func137.trans (congrArg some (by kernel_rfl))
  t0 := Tryz.underlying0
  a0 := Tryz.isAgg0
  z0 := Tryz.sizeOf0
  v0 := Tryz.zeroValue0
  t3 := Tryz.underlying3
  a3 := Tryz.isAgg3
  z3 := Tryz.sizeOf3
  v3 := Tryz.zeroValue3
  t4 := Tryz.underlying4
  a4 := Tryz.isAgg4
  z4 := Tryz.sizeOf4
  v4 := Tryz.zeroValue4
  t5 := Tryz.underlying5
  a5 := Tryz.isAgg5
  z5 := Tryz.sizeOf5
  v5 := Tryz.zeroValue5
  t9 := Tryz.underlying9
  a9 := Tryz.isAgg9
  z9 := Tryz.sizeOf9
  v9 := Tryz.zeroValue9
  t20 := Tryz.underlying20
  a20 := Tryz.isAgg20
  z20 := Tryz.sizeOf20
  v20 := Tryz.zeroValue20
  t21 := Tryz.underlying21
  a21 := Tryz.isAgg21
  z21 := Tryz.sizeOf21
  v21 := Tryz.zeroValue21
  t37 := Tryz.underlying45
  a37 := Tryz.isAgg45
  z37 := Tryz.sizeOf45
  v37 := Tryz.zeroValue45
  t46 := Tryz.underlying159
  a46 := Tryz.isAgg159
  z46 := Tryz.sizeOf159
  v46 := Tryz.zeroValue159
  t51 := Tryz.underlying68
  a51 := Tryz.isAgg68
  z51 := Tryz.sizeOf68
  v51 := Tryz.zeroValue68
  t70 := Tryz.underlying44
  a70 := Tryz.isAgg44
  z70 := Tryz.sizeOf44
  v70 := Tryz.zeroValue44
  t72 := Tryz.underlying47
  a72 := Tryz.isAgg47
  z72 := Tryz.sizeOf47
  v72 := Tryz.zeroValue47
  t75 := Tryz.underlying40
  a75 := Tryz.isAgg40
  z75 := Tryz.sizeOf40
  v75 := Tryz.zeroValue40
  t76 := Tryz.underlying97
  a76 := Tryz.isAgg97
  z76 := Tryz.sizeOf97
  v76 := Tryz.zeroValue97
  t105 := Tryz.underlying155
  a105 := Tryz.isAgg155
  z105 := Tryz.sizeOf155
  v105 := Tryz.zeroValue155
  t119 := Tryz.underlying202
  a119 := Tryz.isAgg202
  z119 := Tryz.sizeOf202
  t127 := Tryz.underlying104
  a127 := Tryz.isAgg104
  z127 := Tryz.sizeOf104
  v127 := Tryz.zeroValue104
  t138 := Tryz.underlying204
  a138 := Tryz.isAgg204
  z138 := Tryz.sizeOf204
  v138 := Tryz.zeroValue204
  t139 := Tryz.underlying205
  a139 := Tryz.isAgg205
  z139 := Tryz.sizeOf205
  v139 := Tryz.zeroValue205
  t146 := Tryz.underlying215
  a146 := Tryz.isAgg215
  z146 := Tryz.sizeOf215
  v146 := Tryz.zeroValue215
  t164 := Tryz.underlying125
  a164 := Tryz.isAgg125
  z164 := Tryz.sizeOf125
  v164 := Tryz.zeroValue125
  g1 := by kernel_rfl
  g3 := by kernel_rfl
  g4 := by kernel_rfl }
theorem Tryz.Builder_Extra_155 : Builder.Extra Tryz.prog Tryz.lays155_ren := {
  sizeBuilder := by kernel_rfl
  liesBuilder := by kernel_rfl
  t5 := Tryz.underlying5
  a5 := Tryz.isAgg5
  z5 := Tryz.sizeOf5
  v5 := Tryz.zeroValue5
  infoByte := by kernel_rfl
  cellsByte := by kernel_rfl
  sizeByte := by kernel_rfl
  neB5 := by decide }
open Go.RowKit Go.Lib in
/-- strings.ReplaceAll: "ReplaceAll returns a copy of the string s with all non-overlapping instances of old replaced by new.": AT AN old THAT IS NOT EMPTY: 'Lib.replaceAll s old new'. (LAID: no walk: one application.) -/
theorem Tryz.strings_ReplaceAll (s old new : ByteArray) (m : Int) (w : World) (hs : s.size < 4294967281) (hm : w.cell? ⟨1, 0, none⟩ = some (.int .i64 m)) (h1 : 1 ≤ old.size) (hlen : s.size + Lib.countB s old * new.size ≤ 140737488355328) :
    Calls Tryz.prog 43 #[.string s, .string old, .string new] w fun e w' =>
      e = .returned (.string ⟨(Lib.replaceAll s.data.toList old.data.toList new.data.toList).toArray⟩) ∧ Below w.heap.size w w' := Any.strings_ReplaceAll Tryz.lays155 Tryz.Builder_Extra_155 s old new m w hs hm h1 hlen
end Go.Proofs
end

/-
escape.digits, walked.
-/
section
set_option linter.unusedVariables false
set_option maxRecDepth 100000
namespace Go.Proofs.YtbcjhmeeonhmaaaGreatDoor.H
open Go Go.RowKit Go.Proofs.YtbcjhmeeonhmaaaGreatDoorW.PrintWords Go.Proofs.YtbcjhmeeonhmaaaGreatDoorW.PrintMore Go.Proofs.YtbcjhmeeonhmaaaGreatDoor.M

/-- A text without a byte ahead of it, and whether it was there. -/
def pfxS (s : ByteArray) (c : UInt8) : ByteArray × Bool := (⟨(Lib.trimPrefix s.data.toList [c]).toArray⟩, Lib.hasPrefix s.data.toList [c])
theorem cutPrefix (s : ByteArray) (c : UInt8) (w : World) : Calls Tryz.prog 31 #[.string s, .string ⟨#[c]⟩] w fun e w' => e = .returned (.tuple #[.string (pfxS s c).1, .bool (pfxS s c).2]) ∧ w' = w := Go.Proofs.Tryz.strings_CutPrefix s ⟨#[c]⟩ w
/-- The rune that digits of a base tell; 0: none. -/
def digN (b : Nat) (t : ByteArray) : Int := if (getC b t).2 = 0 ∧ t.size ≤ 8 ∧ isCharS (wrap64 (getC b t).1) = true then wrap64 (getC b t).1 else 0
def digS (s : ByteArray) : Int := if (pfxS s 120).2 = true then digN 16 (pfxS s 120).1 else digN 10 s
set_option maxHeartbeats 2000000 in
theorem digits (s : ByteArray) (w : World) (hG : GW w) : Calls Tryz.prog 34 #[.string s] w fun e w' => e = .returned (.int .i64 (digS s)) ∧ Below w.heap.size w w' := by
  have hnot : ∀ (x : Bool) (w : World), (Op.unary .not (.bool x)).run Tryz.prog w = .ok (.bool (!x)) w := fun _ _ => rfl
  have HC := Lib.hid (cutPrefix s 120 w)
  obtain ⟨q, hq⟩ : ∃ q, pfxS s 120 = q := ⟨_, rfl⟩
  rw [hq] at HC
  obtain ⟨x, ok⟩ := q
  cases ok with
  | false =>
    have hS : digS s = digN 10 s := by unfold digS; rw [hq]; rfl
    have HN := Lib.hid (num_Get 10 (by omega) s w hG)
    obtain ⟨g, hg⟩ : ∃ g, getC 10 s = g := ⟨_, rfl⟩
    have hD : digS s = if g.2 = 0 ∧ (s).size ≤ 8 ∧ isCharS (wrap64 g.1) = true then wrap64 g.1 else 0 := by rw [hS]; unfold digN; rw [hg]
    rw [hg] at HN
    obtain ⟨n, e⟩ := g
    simp only [] at hD HN
    have HD := Lib.hid hD
    clear hS hD hg hq hG
    go_enter Tryz.func34, Tryz.ntmps34
    go_wp2_with fail
    refine HC.out.mono ?_
    rintro e0 w0 ⟨rfl, rfl⟩
    simp only []
    go_wp2_with fail
    refine HN.out.mono ?_
    rintro e1 w1 ⟨rfl, hb1⟩
    simp only []
    by_cases he : e = 0
    · subst he
      by_cases h8 : (s).size ≤ 8
      · have h8b : decide ((8 : Int) < ((s).size : Int)) = false := by rw [decide_eq_false_iff_not]; omega
        have HI := Lib.hid (isChar (wrap64 n) w1)
        go_wp2_with fail
        refine HI.out.mono ?_
        rintro e2 w2 ⟨rfl, hb2⟩
        cases hc : isCharS (wrap64 n) with
        | false =>
          have HK := Lib.hid hc
          clear hc
          go_wp2
          go_ret
          exact ⟨by rw [HD.out, HK.out, if_neg (fun h => by cases h.2.2)]; rfl, below_tr hb1 hb2⟩
        | true =>
          have HK := Lib.hid hc
          clear hc
          go_wp2
          go_ret
          exact ⟨by rw [HD.out, HK.out, if_pos ⟨by first | rfl | trivial, h8, rfl⟩]; rfl, below_tr hb1 hb2⟩
      · have h8b : decide ((8 : Int) < ((s).size : Int)) = true := by rw [decide_eq_true_iff]; omega
        go_wp2
        go_ret
        exact ⟨by rw [HD.out, if_neg (fun h => h8 h.2.1)]; rfl, hb1⟩
    · have heb : (e != 0) = true := by rw [bne_iff_ne]; exact he
      go_wp2
      go_ret
      exact ⟨by rw [HD.out, if_neg (fun h => he h.1)]; rfl, hb1⟩
  | true =>
    have hS : digS s = digN 16 x := by unfold digS; rw [hq]; rfl
    have HN := Lib.hid (num_Get 16 (by omega) x w hG)
    obtain ⟨g, hg⟩ : ∃ g, getC 16 x = g := ⟨_, rfl⟩
    have hD : digS s = if g.2 = 0 ∧ (x).size ≤ 8 ∧ isCharS (wrap64 g.1) = true then wrap64 g.1 else 0 := by rw [hS]; unfold digN; rw [hg]
    rw [hg] at HN
    obtain ⟨n, e⟩ := g
    simp only [] at hD HN
    have HD := Lib.hid hD
    clear hS hD hg hq hG
    go_enter Tryz.func34, Tryz.ntmps34
    go_wp2_with fail
    refine HC.out.mono ?_
    rintro e0 w0 ⟨rfl, rfl⟩
    simp only []
    go_wp2_with fail
    refine HN.out.mono ?_
    rintro e1 w1 ⟨rfl, hb1⟩
    simp only []
    by_cases he : e = 0
    · subst he
      by_cases h8 : (x).size ≤ 8
      · have h8b : decide ((8 : Int) < ((x).size : Int)) = false := by rw [decide_eq_false_iff_not]; omega
        have HI := Lib.hid (isChar (wrap64 n) w1)
        go_wp2_with fail
        refine HI.out.mono ?_
        rintro e2 w2 ⟨rfl, hb2⟩
        cases hc : isCharS (wrap64 n) with
        | false =>
          have HK := Lib.hid hc
          clear hc
          go_wp2
          go_ret
          exact ⟨by rw [HD.out, HK.out, if_neg (fun h => by cases h.2.2)]; rfl, below_tr hb1 hb2⟩
        | true =>
          have HK := Lib.hid hc
          clear hc
          go_wp2
          go_ret
          exact ⟨by rw [HD.out, HK.out, if_pos ⟨by first | rfl | trivial, h8, rfl⟩]; rfl, below_tr hb1 hb2⟩
      · have h8b : decide ((8 : Int) < ((x).size : Int)) = true := by rw [decide_eq_true_iff]; omega
        go_wp2
        go_ret
        exact ⟨by rw [HD.out, if_neg (fun h => h8 h.2.1)]; rfl, hb1⟩
    · have heb : (e != 0) = true := by rw [bne_iff_ne]; exact he
      go_wp2
      go_ret
      exact ⟨by rw [HD.out, if_neg (fun h => he h.1)]; rfl, hb1⟩
end Go.Proofs.YtbcjhmeeonhmaaaGreatDoor.H
end

/-
escape.Ref, walked.
-/
section
set_option linter.unusedVariables false
set_option maxRecDepth 100000
namespace Go.Proofs.YtbcjhmeeonhmaaaGreatDoor.H
open Go Go.RowKit Go.Proofs.YtbcjhmeeonhmaaaGreatDoorW.PrintWords Go.Proofs.YtbcjhmeeonhmaaaGreatDoorW.PrintMore Go.Proofs.YtbcjhmeeonhmaaaGreatDoor.M

def wordsL : List ByteArray := [⟨#[97, 109, 112]⟩, ⟨#[108, 116]⟩, ⟨#[103, 116]⟩, ⟨#[113, 117, 111, 116]⟩, ⟨#[97, 112, 111, 115]⟩]
def wordK (k : Nat) : ByteArray := wordsL.getD k ⟨#[]⟩
/-- The rune of a name, so far. -/
def nameR (body : ByteArray) (r0 : Int) : Nat → Int
  | 0 => r0
  | k + 1 => if wordK k = body then rsL.getD k 0 else nameR body r0 k
/-- The rune of a reference's body. -/
def bodyR (body : ByteArray) : Int := nameR body (if (pfxS body 35).2 = true then digS (pfxS body 35).1 else 0) 5
/-- What Ref says. -/
def refS (s : ByteArray) : Int × Int × Int :=
  if (pfxS s 38).2 = true ∧ 1 ≤ Lib.indexByte (pfxS s 38).1.data.toList 59 ∧ Lib.indexByte (pfxS s 38).1.data.toList 59 < 12 then
    (if bodyR ((pfxS s 38).1.extract 0 (Lib.indexByte (pfxS s 38).1.data.toList 59).toNat) = 0 then (0, 0, 40)
     else (bodyR ((pfxS s 38).1.extract 0 (Lib.indexByte (pfxS s 38).1.data.toList 59).toNat), Lib.indexByte (pfxS s 38).1.data.toList 59 + 2, 0))
  else (0, 0, 40)
theorem e2_hit : ∀ k : Nat, k < 5 → Instr.findNow (.int .i64) (.int .i64 (k : Int)) (e2 5).toList 0 = some (some (k, .int .i32 (rsL.getD k 0))) := by
  intro k hk
  have : k = 0 ∨ k = 1 ∨ k = 2 ∨ k = 3 ∨ k = 4 := by omega
  rcases this with rfl | rfl | rfl | rfl | rfl <;> rfl
theorem wordK_at {w : World} {c : Nat} (h : w.heap[c]? = some obW) : ∀ k : Nat, k < 5 → w.cell? ((⟨c, 0, none⟩ : Addr).add k) = some (.string (wordK k)) := by
  unfold obW at h
  intro k hk
  have : k = 0 ∨ k = 1 ∨ k = 2 ∨ k = 3 ∨ k = 4 := by omega
  rcases this with rfl | rfl | rfl | rfl | rfl <;> simp [World.cell?, h, Addr.add, wordK, wordsL]
theorem indexOf (s : ByteArray) (w : World) : Calls Tryz.prog 32 #[.string s, .int .u8 59] w fun e w' => e = .returned (.int .i64 (Lib.indexByte s.data.toList 59)) ∧ w' = w := Go.Proofs.Tryz.strings_IndexByte s 59 w
theorem indexByte_lt (l : List UInt8) (c : UInt8) : Lib.indexByte l c < l.length ∨ Lib.indexByte l c = -1 := by
  have hg := Lib.indexByte_ge l c
  by_cases h : Lib.indexByte l c = -1
  · exact .inr h
  · obtain ⟨o, ho⟩ := Int.eq_ofNat_of_zero_le (by omega : 0 ≤ Lib.indexByte l c)
    have := (List.getElem?_eq_some_iff.1 (Lib.indexByte_some ho).1).1
    left; omega
theorem pfxS_size (s : ByteArray) (c : UInt8) : (pfxS s c).1.size ≤ s.size := by
  have hz := size_data s
  have : (pfxS s c).1.size = (Lib.trimPrefix s.data.toList [c]).length := by
    rw [← size_data]; rfl
  rw [this, ← hz]
  unfold Lib.trimPrefix
  split
  · rw [List.length_drop]; omega
  · exact Nat.le_refl _
def RefPost (s : ByteArray) (w : World) (e : Ending) (w' : World) : Prop := e = .returned (.tuple #[.int .i64 (refS s).1, .int .i64 (refS s).2.1, .int .i64 (refS s).2.2]) ∧ Below w.heap.size w w'
set_option maxHeartbeats 4000000 in
theorem ref (s : ByteArray) (w : World) (hG : GW w) (hs : s.size ≤ 1073741824) : Calls Tryz.prog 14 #[.string s] w (RefPost s w) := by
  have hnot : ∀ (x : Bool) (w : World), (Op.unary .not (.bool x)).run Tryz.prog w = .ok (.bool (!x)) w := fun _ _ => rfl
  have HC := Lib.hid (cutPrefix s 38 w)
  obtain ⟨q, hq⟩ : ∃ q, pfxS s 38 = q := ⟨_, rfl⟩
  rw [hq] at HC
  obtain ⟨x, ok⟩ := q
  have hxs : x.size ≤ 1073741824 := by
    have h1 := pfxS_size s 38
    rw [hq] at h1
    simp only [] at h1
    omega
  have HI := Lib.hid (indexOf x w)
  have hlt := indexByte_lt x.data.toList 59
  rw [size_data] at hlt
  obtain ⟨i, hi⟩ : ∃ i, Lib.indexByte x.data.toList 59 = i := ⟨_, rfl⟩
  rw [hi] at HI hlt
  have hR : refS s = if ok = true ∧ 1 ≤ i ∧ i < 12 then (if bodyR (x.extract 0 i.toNat) = 0 then (0, 0, 40) else (bodyR (x.extract 0 i.toNat), i + 2, 0)) else (0, 0, 40) := by
    unfold refS; rw [hq]; simp only []; rw [hi]
  have HR := Lib.hid hR
  clear hR hq hi
  by_cases hok : ok = true ∧ 1 ≤ i ∧ i < 12
  · obtain ⟨rfl, hi1, hi2⟩ := hok
    obtain ⟨i, rfl⟩ := Int.eq_ofNat_of_zero_le (by omega : 0 ≤ i)
    have k1 : decide ((i : Int) < 1) = false := by rw [decide_eq_false_iff_not]; omega
    have k2 : decide ((13 : Int) ≤ (i : Int) + 1) = false := by rw [decide_eq_false_iff_not]; omega
    have HGo := Lib.hid hG
    have hil : (i : Int) ≤ (x.size : Int) := by omega
    go_enter Tryz.func14, Tryz.ntmps14
    go_wp2_with fail
    refine HC.out.mono ?_
    rintro e0 w0 ⟨rfl, rfl⟩
    simp only []
    go_wp2_with fail
    refine HI.out.mono ?_
    rintro e1 w1 ⟨rfl, rfl⟩
    go_wp2_with fail
    have HF := Lib.hid (table_fill w1.heap.size _ _ _ _ (w1.alloc (.cells #[.int .u32 0, .int .i32 0, .int .u32 0, .map none, .map none, .slice none 0 0] 81)) (heap_new _ _))
    refine HF.out.mono ?_
    rintro e2 w3 ⟨rfl, hTb, hg3⟩
    have hB3 : Below w1.heap.size w1 w3 := (below_one w1 _).grown hg3 (by simp) (fun k hk => by cases hk; exact Nat.le_refl _)
    obtain ⟨tb, htb⟩ : ∃ tb, w1.heap.size = tb := ⟨_, rfl⟩
    rw [htb] at hTb ⊢
    have hxi : x.extract 0 (i : Int).toNat = x.extract 0 i := by rw [Int.toNat_natCast]
    rw [hxi] at HR
    generalize hbody : x.extract 0 i = body at HR ⊢
    have HC2 := Lib.hid (cutPrefix body 35 w3)
    obtain ⟨q2, hq2⟩ : ∃ q2, pfxS body 35 = q2 := ⟨_, rfl⟩
    rw [hq2] at HC2
    obtain ⟨y, ok2⟩ := q2
    have G3 := hG.below hB3
    clear HF hg3 hG hbody hxi
    cases ok2 with
    | false =>
      obtain ⟨r0, hr0⟩ : ∃ r0 : Int, 0 = r0 := ⟨_, rfl⟩
      have HBR : Hid (bodyR body = nameR body r0 5) := Lib.hid (by unfold bodyR; rw [hq2, ← hr0]; rfl)
      go_wp2_with fail
      refine HC2.out.mono ?_
      rintro e4 w4 ⟨rfl, rfl⟩
      simp only []
      have T4 := hTb
      have B4 := hB3
      clear hTb hB3 hq2
      subst hr0
      obtain ⟨r0, hr0⟩ : ∃ r0 : Int, (0 : Int) = r0 := ⟨_, rfl⟩
      obtain ⟨M1, M2, c, sv, h1, h2, h3, h4⟩ := T4
      have l1 : w4.cell? ⟨tb, 5, none⟩ = some (.slice (some ⟨c, 0, none⟩) 5 5) := by simp [World.cell?, h1]
      have l2 : w4.cell? ⟨tb, 4, none⟩ = some (.map (some M2)) := by simp [World.cell?, h1]
      have hw := wordK_at h4
      have hl := fun (k : Nat) (hk : k < 5) => run_lookup_hit (P := Tryz.prog) (t := 78) Tryz.underlying78 Tryz.underlying3 (run_checkKey_int Tryz.underlying3 · (k : Int) ·) h3 (e2_hit k hk) false
      simp only [Bool.false_eq_true, if_false] at hl
      obtain ⟨A, hA⟩ : ∃ A : Addr, (⟨c, 0, none⟩ : Addr) = A := ⟨_, rfl⟩
      rw [hA] at l1 hw
      have HW := Lib.hid hw
      have HL := Lib.hid hl
      have HB := Lib.hid B4
      clear hw hl h1 h2 h3 h4 hA B4
      go_wp2
      go_loopw [9, 12, 13, 51] (fun v9 _ _ v51 wr => ∃ k : Nat, k ≤ 5 ∧ v51 = .int .i64 k ∧ v9 = .int .i64 (nameR body 0 k) ∧ wr = w4) (fun _ _ _ v51 _ => 5 - (intOf v51).toNat)
      case atStart => exact ⟨0, by omega, rfl, rfl, rfl⟩
      case round =>
        obtain ⟨k, hk, rfl, rfl, rfl⟩ := hrel
        by_cases h5 : k < 5
        · have c1 := HW.out k h5
          have hlk := HL.out k h5
          have hnx : nameR body 0 (k + 1) = if wordK k = body then rsL.getD k 0 else nameR body 0 k := rfl
          obtain ⟨wd, hwd⟩ : ∃ wd, wordK k = wd := ⟨_, rfl⟩
          obtain ⟨rr, hrr⟩ : ∃ rr, rsL.getD k 0 = rr := ⟨_, rfl⟩
          have hrb : -2147483648 ≤ rr ∧ rr ≤ 2147483647 := by
            rw [← hrr]
            have : k = 0 ∨ k = 1 ∨ k = 2 ∨ k = 3 ∨ k = 4 := by omega
            rcases this with rfl | rfl | rfl | rfl | rfl <;> decide
          rw [hwd] at c1 hnx
          rw [hrr] at hlk hnx
          have HNX := Lib.hid hnx
          clear hnx hwd hrr
          by_cases he : wd = body
          · have heb : (wd.toList == body.toList) = true := by rw [beq_iff_eq, he]
            have HX : Hid (nameR body 0 (k + 1) = rr) := Lib.hid (by rw [HNX.out, if_pos he])
            have hwr : wrap64 rr = rr := by unfold wrap64; omega
            clear he
            go_wp2
            go_roundw
            case rel => exact ⟨k + 1, by omega, by go_num, by rw [HX.out], by first | rfl | trivial⟩
            case measure => simp [intOf]; omega
          · have heb : (wd.toList == body.toList) = false := by
              rw [beq_eq_false_iff_ne]
              intro h
              exact he (ByteArray.ext (Array.toList_inj.1 (by rw [← toList_data, ← toList_data]; exact h)))
            have HX : Hid (nameR body 0 (k + 1) = nameR body 0 k) := Lib.hid (by rw [HNX.out, if_neg he])
            clear he
            go_wp2
            go_roundw
            case rel => exact ⟨k + 1, by omega, by go_num, by rw [HX.out], by first | rfl | trivial⟩
            case measure => simp [intOf]; omega
        · obtain rfl : k = 5 := by omega
          obtain ⟨rb, hrb⟩ : ∃ rb, nameR body 0 5 = rb := ⟨_, rfl⟩
          have HRB : Hid (bodyR body = rb) := Lib.hid (by rw [HBR.out]; exact hrb)
          rw [hrb]
          clear hrb
          by_cases hz : rb = 0
          · have hzb : (rb == 0) = true := by rw [beq_iff_eq]; exact hz
            go_wp2
            refine bodyPost_ret (v := .tuple #[.int .i64 0, .int .i64 0, .int .i64 40]) (by simp [results, Tryz.results14, go_sem]) rfl ⟨?_, HB.out⟩
            rw [HR.out, if_pos ⟨by trivial, by omega, by omega⟩, HRB.out, if_pos hz]
          · have hzb : (rb == 0) = false := by rw [beq_eq_false_iff_ne]; exact hz
            go_wp2
            refine bodyPost_ret (v := .tuple #[.int .i64 rb, .int .i64 ((i : Int) + 2), .int .i64 0]) (by simp [results, Tryz.results14, go_sem]) rfl ⟨?_, HB.out⟩
            rw [HR.out, if_pos ⟨by trivial, by omega, by omega⟩, HRB.out, if_neg hz]
    | true =>
      have HD := Lib.hid (digits y w3 G3)
      obtain ⟨r0, hr0⟩ : ∃ r0, digS y = r0 := ⟨_, rfl⟩
      have HBR : Hid (bodyR body = nameR body r0 5) := Lib.hid (by unfold bodyR; rw [hq2, ← hr0]; rfl)
      rw [hr0] at HD
      go_wp2_with fail
      refine HC2.out.mono ?_
      rintro e4 w3 ⟨rfl, rfl⟩
      simp only []
      go_wp2_with fail
      refine HD.out.mono ?_
      rintro e5 w4 ⟨rfl, hb4⟩
      have T4 := hTb.below hb4
      have B4 := below_tr hB3 hb4
      clear hTb hB3 hq2 hb4 hr0
      obtain ⟨M1, M2, c, sv, h1, h2, h3, h4⟩ := T4
      have l1 : w4.cell? ⟨tb, 5, none⟩ = some (.slice (some ⟨c, 0, none⟩) 5 5) := by simp [World.cell?, h1]
      have l2 : w4.cell? ⟨tb, 4, none⟩ = some (.map (some M2)) := by simp [World.cell?, h1]
      have hw := wordK_at h4
      have hl := fun (k : Nat) (hk : k < 5) => run_lookup_hit (P := Tryz.prog) (t := 78) Tryz.underlying78 Tryz.underlying3 (run_checkKey_int Tryz.underlying3 · (k : Int) ·) h3 (e2_hit k hk) false
      simp only [Bool.false_eq_true, if_false] at hl
      obtain ⟨A, hA⟩ : ∃ A : Addr, (⟨c, 0, none⟩ : Addr) = A := ⟨_, rfl⟩
      rw [hA] at l1 hw
      have HW := Lib.hid hw
      have HL := Lib.hid hl
      have HB := Lib.hid B4
      clear hw hl h1 h2 h3 h4 hA B4
      go_wp2
      go_loopw [9, 12, 13, 51] (fun v9 _ _ v51 wr => ∃ k : Nat, k ≤ 5 ∧ v51 = .int .i64 k ∧ v9 = .int .i64 (nameR body r0 k) ∧ wr = w4) (fun _ _ _ v51 _ => 5 - (intOf v51).toNat)
      case atStart => exact ⟨0, by omega, rfl, rfl, rfl⟩
      case round =>
        obtain ⟨k, hk, rfl, rfl, rfl⟩ := hrel
        by_cases h5 : k < 5
        · have c1 := HW.out k h5
          have hlk := HL.out k h5
          have hnx : nameR body r0 (k + 1) = if wordK k = body then rsL.getD k 0 else nameR body r0 k := rfl
          obtain ⟨wd, hwd⟩ : ∃ wd, wordK k = wd := ⟨_, rfl⟩
          obtain ⟨rr, hrr⟩ : ∃ rr, rsL.getD k 0 = rr := ⟨_, rfl⟩
          have hrb : -2147483648 ≤ rr ∧ rr ≤ 2147483647 := by
            rw [← hrr]
            have : k = 0 ∨ k = 1 ∨ k = 2 ∨ k = 3 ∨ k = 4 := by omega
            rcases this with rfl | rfl | rfl | rfl | rfl <;> decide
          rw [hwd] at c1 hnx
          rw [hrr] at hlk hnx
          have HNX := Lib.hid hnx
          clear hnx hwd hrr
          by_cases he : wd = body
          · have heb : (wd.toList == body.toList) = true := by rw [beq_iff_eq, he]
            have HX : Hid (nameR body r0 (k + 1) = rr) := Lib.hid (by rw [HNX.out, if_pos he])
            have hwr : wrap64 rr = rr := by unfold wrap64; omega
            clear he
            go_wp2
            go_roundw
            case rel => exact ⟨k + 1, by omega, by go_num, by rw [HX.out], by first | rfl | trivial⟩
            case measure => simp [intOf]; omega
          · have heb : (wd.toList == body.toList) = false := by
              rw [beq_eq_false_iff_ne]
              intro h
              exact he (ByteArray.ext (Array.toList_inj.1 (by rw [← toList_data, ← toList_data]; exact h)))
            have HX : Hid (nameR body r0 (k + 1) = nameR body r0 k) := Lib.hid (by rw [HNX.out, if_neg he])
            clear he
            go_wp2
            go_roundw
            case rel => exact ⟨k + 1, by omega, by go_num, by rw [HX.out], by first | rfl | trivial⟩
            case measure => simp [intOf]; omega
        · obtain rfl : k = 5 := by omega
          obtain ⟨rb, hrb⟩ : ∃ rb, nameR body r0 5 = rb := ⟨_, rfl⟩
          have HRB : Hid (bodyR body = rb) := Lib.hid (by rw [HBR.out]; exact hrb)
          rw [hrb]
          clear hrb
          by_cases hz : rb = 0
          · have hzb : (rb == 0) = true := by rw [beq_iff_eq]; exact hz
            go_wp2
            refine bodyPost_ret (v := .tuple #[.int .i64 0, .int .i64 0, .int .i64 40]) (by simp [results, Tryz.results14, go_sem]) rfl ⟨?_, HB.out⟩
            rw [HR.out, if_pos ⟨by trivial, by omega, by omega⟩, HRB.out, if_pos hz]
          · have hzb : (rb == 0) = false := by rw [beq_eq_false_iff_ne]; exact hz
            go_wp2
            refine bodyPost_ret (v := .tuple #[.int .i64 rb, .int .i64 ((i : Int) + 2), .int .i64 0]) (by simp [results, Tryz.results14, go_sem]) rfl ⟨?_, HB.out⟩
            rw [HR.out, if_pos ⟨by trivial, by omega, by omega⟩, HRB.out, if_neg hz]
  · have hE : refS s = (0, 0, 40) := by rw [HR.out, if_neg hok]
    have HE := Lib.hid hE
    clear hE HR
    cases ok with
    | false =>
      go_enter Tryz.func14, Tryz.ntmps14
      go_wp2_with fail
      refine HC.out.mono ?_
      rintro e0 w0 ⟨rfl, rfl⟩
      simp only []
      go_wp2_with fail
      refine HI.out.mono ?_
      rintro e1 w1 ⟨rfl, rfl⟩
      go_wp2
      exact bodyPost_ret (v := .tuple #[.int .i64 0, .int .i64 0, .int .i64 40]) (by simp [results, Tryz.results14, go_sem]) rfl ⟨by rw [HE.out], Below.refl _ _⟩
    | true =>
      by_cases hi1 : i < 1
      · have k1 : decide (i < 1) = true := by rw [decide_eq_true_iff]; exact hi1
        go_enter Tryz.func14, Tryz.ntmps14
        go_wp2_with fail
        refine HC.out.mono ?_
        rintro e0 w0 ⟨rfl, rfl⟩
        simp only []
        go_wp2_with fail
        refine HI.out.mono ?_
        rintro e1 w1 ⟨rfl, rfl⟩
        go_wp2
        exact bodyPost_ret (v := .tuple #[.int .i64 0, .int .i64 0, .int .i64 40]) (by simp [results, Tryz.results14, go_sem]) rfl ⟨by rw [HE.out], Below.refl _ _⟩
      · have hi2 : ¬ i < 12 := fun h => hok ⟨rfl, by omega, h⟩
        have k1 : decide (i < 1) = false := by rw [decide_eq_false_iff_not]; exact hi1
        obtain ⟨i, rfl⟩ := Int.eq_ofNat_of_zero_le (by omega : 0 ≤ i)
        have hib : (i : Int) ≤ 1073741824 := by
          have hx : x.size ≤ 1073741824 := hxs
          omega
        have k2 : decide ((13 : Int) ≤ (i : Int) + 1) = true := by rw [decide_eq_true_iff]; omega
        go_enter Tryz.func14, Tryz.ntmps14
        go_wp2_with fail
        refine HC.out.mono ?_
        rintro e0 w0 ⟨rfl, rfl⟩
        simp only []
        go_wp2_with fail
        refine HI.out.mono ?_
        rintro e1 w1 ⟨rfl, rfl⟩
        go_wp2
        exact bodyPost_ret (v := .tuple #[.int .i64 0, .int .i64 0, .int .i64 40]) (by simp [results, Tryz.results14, go_sem]) rfl ⟨by rw [HE.out], Below.refl _ _⟩
end Go.Proofs.YtbcjhmeeonhmaaaGreatDoor.H
end

/-
(*escape.reader).fail and rune, walked.
-/
section
set_option linter.unusedVariables false
set_option maxRecDepth 100000
namespace Go.Proofs.YtbcjhmeeonhmaaaGreatDoor.H
open Go Go.RowKit Go.Proofs.YtbcjhmeeonhmaaaGreatDoorW.PrintWords Go.Proofs.YtbcjhmeeonhmaaaGreatDoorW.PrintMore Go.Proofs.YtbcjhmeeonhmaaaGreatDoor.M

def RdE (R : Nat) (t : ByteArray) (sz : Nat) (ev : Value) (w : World) : Prop := w.heap[R]? = some (.cells #[.string t, .int .i64 sz, ev] 42 (0, 0))
theorem RdE.c0 {R : Nat} {t : ByteArray} {sz : Nat} {ev : Value} {w : World} (h : RdE R t sz ev w) : w.cell? ⟨R, 0, none⟩ = some (.string t) := by unfold RdE at h; simp [World.cell?, h]
theorem RdE.c1 {R : Nat} {t : ByteArray} {sz : Nat} {ev : Value} {w : World} (h : RdE R t sz ev w) : w.cell? ⟨R, 1, none⟩ = some (.int .i64 sz) := by unfold RdE at h; simp [World.cell?, h]
theorem RdE.c2 {R : Nat} {t : ByteArray} {sz : Nat} {ev : Value} {w : World} (h : RdE R t sz ev w) : w.cell? ⟨R, 2, none⟩ = some ev := by unfold RdE at h; simp [World.cell?, h]
theorem RdE.f {R : Nat} {t : ByteArray} {sz : Nat} {ev : Value} {w : World} (h : RdE R t sz ev w) (i : Nat) : w.frozen? ⟨R, i, none⟩ = false := by unfold RdE at h; simp [World.frozen?, h]
theorem RdE.below {R : Nat} {t : ByteArray} {sz : Nat} {ev : Value} {w w' : World} (h : RdE R t sz ev w) (k : Below w.heap.size w w') : RdE R t sz ev w' := heapB k (lt_of_heap h) h
theorem RdE.set {R : Nat} {t : ByteArray} {sz : Nat} {ev : Value} {w : World} (h : RdE R t sz ev w) (t' : ByteArray) : RdE R t' sz ev (w.setCell ⟨R, 0, none⟩ (.string t')) := (heap_set_eq h 0 _).trans rfl
theorem RdE.err {R : Nat} {t : ByteArray} {sz : Nat} {ev : Value} {w : World} (h : RdE R t sz ev w) (v : Value) : RdE R t sz v (w.setCell ⟨R, 2, none⟩ v) := (heap_set_eq h 2 _).trans rfl
/-- What is wrong, and where. -/
def wrongV (why : Int) (at_ : Int) : Value := .iface 101 (.agg #[.int .i64 why, .int .i64 at_])
set_option maxHeartbeats 1000000 in
theorem fail (R : Nat) (t : ByteArray) (sz : Nat) (ev : Value) (why : Int) (w : World) (h : RdE R t sz ev w) (hs : sz ≤ 1073741824) (ht : t.size ≤ sz) :
    Calls Tryz.prog 72 #[.pointer (some ⟨R, 0, none⟩), .int .i64 why] w fun e w' => e = .returned (.tuple #[]) ∧ RdE R t sz (wrongV why (sz - t.size)) w' ∧ w.grownBy w' (some R) := by
  have c0 := h.c0
  have c1 := h.c1
  have c2 := h.c2
  have f2 := h.f 2
  have hw : wrap64 ((sz : Int) - t.size) = sz - t.size := by
    have h1 : -9223372036854775808 ≤ (sz : Int) - t.size := by omega
    have h2 : (sz : Int) - t.size ≤ 9223372036854775807 := by omega
    exact w64 h1 h2
  have hE : RdE R t sz (wrongV why (sz - t.size)) (w.drew.setCell ⟨R, 2, none⟩ (wrongV why (sz - t.size))) ∧ w.grownBy (w.drew.setCell ⟨R, 2, none⟩ (wrongV why (sz - t.size))) (some R) :=
    ⟨RdE.err (show RdE R t sz ev w.drew from h) _, row_set (show w.grownBy w.drew (some R) from ⟨rfl, rfl, rfl, Nat.le_refl _, fun _ _ _ => rfl⟩) _ _⟩
  have HE := Lib.hid hE
  clear hE h
  unfold wrongV at HE ⊢
  go_enter Tryz.func72, Tryz.ntmps72
  go_wp2
  go_region
  all_goals go_wp2
  all_goals go_end0
  all_goals exact ⟨rfl, HE.out⟩
theorem encodeW (r : Int) (w : World) : Calls Tryz.prog 73 #[.int .i64 r] w fun e w' => e = .returned (.tuple #[.string (encS r).1, .int .i64 (encS r).2]) ∧ Below w.heap.size w w' := utf_Encode.calls 10 r _ _ w (encode_f r)
theorem hasPfx (t : ByteArray) (w : World) : Calls Tryz.prog 74 #[.string t, .string ⟨#[13, 10]⟩] w fun e w' => e = .returned (.bool (Lib.hasPrefix t.data.toList [13, 10])) ∧ w' = w := Go.Proofs.Tryz.strings_HasPrefix t ⟨#[13, 10]⟩ w
/-- What follows the switch: a rune q that k bytes stand for; out: the first rune's bytes. -/
def outE (t out : ByteArray) (q : Int) (k : Nat) : ByteArray × Nat :=
  if out = ⟨#[13]⟩ then (⟨#[10]⟩, if Lib.hasPrefix t.data.toList [13, 10] = true then 2 else k) else ((encS q).1, k)
/-- The next rune, or what is wrong. -/
def runeE (t : ByteArray) : Except Int (ByteArray × Nat) :=
  if (decR t).2.2 ≠ 0 then .error 20 else if (decR t).1 = 60 then .error 40 else if isCharS (decR t).1 = false then .error 40 else
  if (decR t).1 = 38 then (if (refS t).2.2 ≠ 0 then .error (refS t).2.2 else .ok (outE t (t.extract 0 (decR t).2.1.toNat) (refS t).1 (refS t).2.1.toNat))
  else .ok (outE t (t.extract 0 (decR t).2.1.toNat) (decR t).1 (decR t).2.1.toNat)
theorem refS_bd (t : ByteArray) : (refS t).2.2 = 0 → 0 ≤ (refS t).2.1 ∧ (refS t).2.1 ≤ t.size := by
  intro h
  unfold refS at h ⊢
  by_cases hc : (pfxS t 38).2 = true ∧ 1 ≤ Lib.indexByte (pfxS t 38).1.data.toList 59 ∧ Lib.indexByte (pfxS t 38).1.data.toList 59 < 12
  · rw [if_pos hc] at h ⊢
    have hl := indexByte_lt (pfxS t 38).1.data.toList 59
    have hp : (pfxS t 38).1.data.toList = t.data.toList.drop 1 := by
      have h1 : Lib.hasPrefix t.data.toList [38] = true := hc.1
      unfold pfxS Lib.trimPrefix
      simp [h1]
    rw [hp, List.length_drop, size_data] at hl
    rw [hp] at hc
    by_cases hz : bodyR ((pfxS t 38).1.extract 0 (Lib.indexByte (pfxS t 38).1.data.toList 59).toNat) = 0
    · rw [if_pos hz] at h; cases h
    · rw [if_neg hz, hp]
      simp only []
      omega
  · rw [if_neg hc] at h; cases h
theorem pfx2 {t : ByteArray} (h : Lib.hasPrefix t.data.toList [13, 10] = true) : 2 ≤ t.size := by
  rw [← size_data]
  match hl : t.data.toList with
  | [] => rw [hl] at h; simp [Lib.hasPrefix] at h
  | [a] => rw [hl] at h; simp [Lib.hasPrefix] at h
  | a :: b :: l => simp
def RunePost (R : Nat) (t : ByteArray) (sz : Nat) (w : World) (e : Ending) (w' : World) : Prop := w.grownBy w' (some R) ∧
  ((∃ out n, runeE t = .ok (out, n) ∧ e = .returned (.string out) ∧ RdE R (t.extract n t.size) sz .nilIface w') ∨
   (∃ why, runeE t = .error why ∧ e = .returned (.string ⟨#[]⟩) ∧ RdE R t sz (wrongV why (sz - t.size)) w'))
theorem row_tr {w W W' : World} {row : Option Nat} (h : w.grownBy W row) (k : Below W.heap.size W W') : w.grownBy W' row :=
  ⟨k.os.trans h.os, k.tape.trans h.tape, k.output.trans h.output, Nat.le_trans h.size k.size, fun i hi hr => (k.block i (Nat.lt_of_lt_of_le hi h.size)).trans (h.block i hi hr)⟩
theorem row_trr {w W W' : World} {row : Option Nat} (h : w.grownBy W row) (k : W.grownBy W' row) : w.grownBy W' row :=
  ⟨k.os.trans h.os, k.tape.trans h.tape, k.output.trans h.output, Nat.le_trans h.size k.size, fun i hi hr => (k.block i (Nat.lt_of_lt_of_le hi h.size) hr).trans (h.block i hi hr)⟩
set_option maxHeartbeats 4000000 in
theorem runeW (R : Nat) (t : ByteArray) (sz : Nat) (w : World) (hG : GW w) (h : RdE R t sz .nilIface w) (hs : sz ≤ 1073741824) (ht : t.size ≤ sz) :
    Calls Tryz.prog 47 #[.pointer (some ⟨R, 0, none⟩)] w (RunePost R t sz w) := by
  have hnot : ∀ (x : Bool) (w : World), (Op.unary .not (.bool x)).run Tryz.prog w = .ok (.bool (!x)) w := fun _ _ => rfl
  have c0 := h.c0
  have HD := Lib.hid (decode t w (by omega))
  obtain ⟨d, hd⟩ : ∃ d, decR t = d := ⟨_, rfl⟩
  rw [hd] at HD
  obtain ⟨r, n, e⟩ := d
  simp only [] at HD
  have hE : runeE t = if e ≠ 0 then .error 20 else if r = 60 then .error 40 else if isCharS r = false then .error 40 else
    if r = 38 then (if (refS t).2.2 ≠ 0 then .error (refS t).2.2 else .ok (outE t (t.extract 0 n.toNat) (refS t).1 (refS t).2.1.toNat)) else .ok (outE t (t.extract 0 n.toNat) r n.toNat) := by
    unfold runeE; rw [hd]
  have HE := Lib.hid hE
  clear hE
  by_cases he : e = 0
  · subst he
    have hn := decR_n hd
    obtain ⟨n, rfl⟩ := Int.eq_ofNat_of_zero_le (by omega : 0 ≤ n)
    clear hd
    have hns : n ≤ t.size := by omega
    obtain ⟨out, hout⟩ : ∃ out, t.extract 0 n = out := ⟨_, rfl⟩
    have hni : (n : Int).toNat = n := Int.toNat_natCast n
    rw [hni, hout] at HE
    rw [if_neg (by decide)] at HE
    go_enter Tryz.func47, Tryz.ntmps47
    go_wp2_with fail
    refine HD.out.mono ?_
    rintro e1 w1 ⟨rfl, hb1⟩
    have h1 := h.below hb1
    have c01 := h1.c0
    have hg1 : w.grownBy w1 (some R) := grown_below_row hb1 _
    have G1 := hG.below hb1
    clear h c0 hG HD hb1
    by_cases h60 : r = 60
    · have h60b : (r == 60) = true := by rw [beq_iff_eq]; exact h60
      have HF := Lib.hid (fail R t sz _ 40 w1 h1 hs ht)
      go_wp2_with fail
      refine HF.out.mono ?_
      rintro e2 w2 ⟨rfl, hr2, hg2⟩
      go_wp2
      go_ret
      exact ⟨row_trr hg1 hg2, .inr ⟨40, by rw [HE.out, if_pos h60], rfl, hr2⟩⟩
    · have h60b : (r == 60) = false := by rw [beq_eq_false_iff_ne]; exact h60
      rw [if_neg h60] at HE
      have HI := Lib.hid (isChar r w1)
      go_wp2_with fail
      refine HI.out.mono ?_
      rintro e2 w2 ⟨rfl, hb2⟩
      have h2 := h1.below hb2
      have c02 := h2.c0
      have hg2 := row_tr hg1 hb2
      have G2 := G1.below hb2
      clear h1 c01 hg1 G1 hb2 HI
      cases hc : isCharS r with
      | false =>
        have HF := Lib.hid (fail R t sz _ 40 w2 h2 hs ht)
        have HK := Lib.hid hc
        clear hc
        go_wp2_with fail
        refine HF.out.mono ?_
        rintro e3 w3 ⟨rfl, hr3, hg3⟩
        go_wp2
        go_ret
        exact ⟨row_trr hg2 hg3, .inr ⟨40, by rw [HE.out, if_pos HK.out], rfl, hr3⟩⟩
      | true =>
        rw [if_neg (by rw [hc]; decide)] at HE
        clear hc
        by_cases h38 : r = 38
        · have h38b : (r == 38) = true := by rw [beq_iff_eq]; exact h38
          rw [if_pos h38] at HE
          have HR := Lib.hid (ref t w2 G2 (by omega))
          unfold RefPost at HR
          have hbd := refS_bd t
          obtain ⟨q, hq⟩ : ∃ q, refS t = q := ⟨_, rfl⟩
          rw [hq] at HR hbd HE
          obtain ⟨qr, qk, qe⟩ := q
          simp only [] at HR hbd HE
          go_wp2_with fail
          refine HR.out.mono ?_
          rintro e3 w3 ⟨rfl, hb3⟩
          have h3 := h2.below hb3
          have c03 := h3.c0
          have f03 := h3.f 0
          have hg3 := row_tr hg2 hb3
          clear h2 c02 hg2 G2 hb3 HR
          by_cases hqe : qe = 0
          · subst hqe
            obtain ⟨hk0, hk1⟩ := hbd rfl
            obtain ⟨k, rfl⟩ := Int.eq_ofNat_of_zero_le hk0
            have hks : k ≤ t.size := by omega
            rw [if_neg (by decide), Int.toNat_natCast] at HE
            have hr := h3
            have hg := hg3
            clear h3 hg3
            by_cases ho : out = ⟨#[13]⟩
            · have hob : (out.toList == [13]) = true := by rw [ho, toList_data]; rfl
              have HX : Hid (outE t out qr k = (⟨#[10]⟩, if Lib.hasPrefix t.data.toList [13, 10] = true then 2 else k)) := Lib.hid (by unfold outE; rw [if_pos ho])
              have HP := Lib.hid (hasPfx t w3)
              clear ho
              go_wp2_with fail
              refine HP.out.mono ?_
              rintro e5 w5 ⟨rfl, rfl⟩
              cases hpf : Lib.hasPrefix t.data.toList [13, 10] with
              | true =>
                have h2 := pfx2 hpf
                rw [hpf] at HX
                clear hpf
                go_wp2
                go_ret
                exact ⟨row_set hg _ _, .inl ⟨_, _, by rw [HE.out]; (rw [HX.out]) <;> rfl, rfl, hr.set _⟩⟩
              | false =>
                rw [hpf] at HX
                clear hpf
                go_wp2
                go_ret
                exact ⟨row_set hg _ _, .inl ⟨_, _, by rw [HE.out]; (rw [HX.out]) <;> rfl, rfl, by first | exact hr.set _ | (have := hr.set (t.extract k t.size); simpa using this)⟩⟩
            · have hob : (out.toList == [13]) = false := by
                rw [beq_eq_false_iff_ne]
                intro hh
                exact ho (ByteArray.ext (Array.toList_inj.1 (by rw [← toList_data]; exact hh)))
              have HX : Hid (outE t out qr k = ((encS qr).1, k)) := Lib.hid (by unfold outE; rw [if_neg ho])
              have HN := Lib.hid (encodeW qr w3)
              clear ho
              go_wp2_with fail
              refine HN.out.mono ?_
              rintro e5 w5 ⟨rfl, hb5⟩
              have hr5 := hr.below hb5
              have hg5 := row_tr hg hb5
              have c05 := hr5.c0
              have f05 := hr5.f 0
              go_wp2
              go_ret
              exact ⟨row_set hg5 _ _, .inl ⟨_, _, by rw [HE.out]; (rw [HX.out]) <;> rfl, rfl, by first | exact hr5.set _ | (have := hr5.set (t.extract k t.size); simpa using this)⟩⟩
          · have hqb : (qe != 0) = true := by rw [bne_iff_ne]; exact hqe
            have HF := Lib.hid (fail R t sz _ qe w3 h3 hs ht)
            go_wp2_with fail
            refine HF.out.mono ?_
            rintro e4 w4 ⟨rfl, hr4, hg4⟩
            go_wp2
            go_ret
            exact ⟨row_trr hg3 hg4, .inr ⟨qe, by rw [HE.out, if_pos hqe], rfl, hr4⟩⟩
        · have h38b : (r == 38) = false := by rw [beq_eq_false_iff_ne]; exact h38
          rw [if_neg h38] at HE
          have f02 := h2.f 0
          have hr := h2
          have hg := hg2
          clear h2 hg2
          by_cases ho : out = ⟨#[13]⟩
          · have hob : (out.toList == [13]) = true := by rw [ho, toList_data]; rfl
            have HX : Hid (outE t out r n = (⟨#[10]⟩, if Lib.hasPrefix t.data.toList [13, 10] = true then 2 else n)) := Lib.hid (by unfold outE; rw [if_pos ho])
            have HP := Lib.hid (hasPfx t w2)
            clear ho
            go_wp2_with fail
            refine HP.out.mono ?_
            rintro e5 w5 ⟨rfl, rfl⟩
            cases hpf : Lib.hasPrefix t.data.toList [13, 10] with
            | true =>
              have h2 := pfx2 hpf
              rw [hpf] at HX
              clear hpf
              go_wp2
              go_ret
              exact ⟨row_set hg _ _, .inl ⟨_, _, by rw [HE.out]; (rw [HX.out]) <;> rfl, rfl, hr.set _⟩⟩
            | false =>
              rw [hpf] at HX
              clear hpf
              go_wp2
              go_ret
              exact ⟨row_set hg _ _, .inl ⟨_, _, by rw [HE.out]; (rw [HX.out]) <;> rfl, rfl, by first | exact hr.set _ | (have := hr.set (t.extract n t.size); simpa using this)⟩⟩
          · have hob : (out.toList == [13]) = false := by
              rw [beq_eq_false_iff_ne]
              intro hh
              exact ho (ByteArray.ext (Array.toList_inj.1 (by rw [← toList_data]; exact hh)))
            have HX : Hid (outE t out r n = ((encS r).1, n)) := Lib.hid (by unfold outE; rw [if_neg ho])
            have HN := Lib.hid (encodeW r w2)
            clear ho
            go_wp2_with fail
            refine HN.out.mono ?_
            rintro e5 w5 ⟨rfl, hb5⟩
            have hr5 := hr.below hb5
            have hg5 := row_tr hg hb5
            have c05 := hr5.c0
            have f05 := hr5.f 0
            go_wp2
            go_ret
            exact ⟨row_set hg5 _ _, .inl ⟨_, _, by rw [HE.out]; (rw [HX.out]) <;> rfl, rfl, by first | exact hr5.set _ | (have := hr5.set (t.extract n t.size); simpa using this)⟩⟩
  · have heb : (e != 0) = true := by rw [bne_iff_ne]; exact he
    clear hd
    go_enter Tryz.func47, Tryz.ntmps47
    go_wp2_with fail
    refine HD.out.mono ?_
    rintro e1 w1 ⟨rfl, hb1⟩
    have h1 := h.below hb1
    have HF := Lib.hid (fail R t sz _ 20 w1 h1 hs ht)
    go_wp2_with fail
    refine HF.out.mono ?_
    rintro e2 w2 ⟨rfl, hr2, hg2⟩
    go_wp2
    go_ret
    exact ⟨row_trr (grown_below_row hb1 _) hg2, .inr ⟨20, by rw [HE.out, if_pos he], rfl, hr2⟩⟩
end Go.Proofs.YtbcjhmeeonhmaaaGreatDoor.H
end

-- Laid by a program of this session for this claim.
section
namespace Go.Proofs.YtbcjhmeeonhmaaaGreatDoor.M
open Go.RowKit Go.Proofs.YtbcjhmeeonhmaaaGreatDoorW.PrintWords Go.Proofs.YtbcjhmeeonhmaaaGreatDoorW.PrintLast Go.Proofs.YtbcjhmeeonhmaaaGreatDoorW.PrintMore
attribute [local go_sem] max2_int min2_int max_two min_two max_three min_three max_four min_four   -- for this text's walks alone
set_option linter.unusedVariables false
set_option linter.unusedSimpArgs false

/-! ### pleacherref03_is: function 61 -/
def pleacherref03_is.f (a0 : Int) : Option (Bool) := if a0 = 8 then (some true) else (if a0 = 10 then (some true) else (some (a0 == 16)))
set_option maxHeartbeats 8000000 in
set_option maxRecDepth 100000 in
theorem pleacherref03_is.calls (a0 : Int) (r : Bool) (w : World) (h : pleacherref03_is.f a0 = some r) :
    Calls Tryz.prog 61 #[.int .i64 a0] w fun e w' => e = .returned (.bool r) ∧ Drawn0 w w' := by
  have H : (if a0 = 8 then (some true) else (if a0 = 10 then (some true) else (some (a0 == 16)))) = some r := h
  clear h
  by_cases c2 : a0 = 8
  · rw [if_pos c2] at H
    have c2b0 : (a0 == 8) = true := beq_iff_eq.mpr c2
    have c2b1 : (a0 != 8) = false := bne_eq_false_iff_eq.mpr c2
    clear c2
    obtain rfl := Option.some.inj H
    go_enter Tryz.func61, Tryz.ntmps61
    go_wp2
    go_ret
    exact ⟨by first | rfl | (simp; done) | (simp [*]; done), by repeat (first | exact Drawn0.refl _ | apply Drawn0.step)⟩
  · rw [if_neg c2] at H
    have c2b0 : (a0 == 8) = false := beq_eq_false_iff_ne.mpr c2
    have c2b1 : (a0 != 8) = true := bne_iff_ne.mpr c2
    by_cases c3 : a0 = 10
    · rw [if_pos c3] at H
      have c3b0 : (a0 == 10) = true := beq_iff_eq.mpr c3
      have c3b1 : (a0 != 10) = false := bne_eq_false_iff_eq.mpr c3
      clear c3
      obtain rfl := Option.some.inj H
      go_enter Tryz.func61, Tryz.ntmps61
      go_wp2
      go_ret
      exact ⟨by first | rfl | (simp; done) | (simp [*]; done), by repeat (first | exact Drawn0.refl _ | apply Drawn0.step)⟩
    · rw [if_neg c3] at H
      have c3b0 : (a0 == 10) = false := beq_eq_false_iff_ne.mpr c3
      have c3b1 : (a0 != 10) = true := bne_iff_ne.mpr c3
      obtain rfl := Option.some.inj H
      go_enter Tryz.func61, Tryz.ntmps61
      go_wp2
      go_ret
      exact ⟨by first | rfl | (simp; done) | (simp [*]; done), by repeat (first | exact Drawn0.refl _ | apply Drawn0.step)⟩

end Go.Proofs.YtbcjhmeeonhmaaaGreatDoor.M
end

-- Laid by a program of this session for this claim.
section
namespace Go.Proofs.YtbcjhmeeonhmaaaGreatDoor.M
open Go.RowKit Go.Proofs.YtbcjhmeeonhmaaaGreatDoorW.PrintWords Go.Proofs.YtbcjhmeeonhmaaaGreatDoorW.PrintLast Go.Proofs.YtbcjhmeeonhmaaaGreatDoorW.PrintMore
attribute [local go_sem] max2_int min2_int max_two min_two max_three min_three max_four min_four   -- for this text's walks alone
set_option linter.unusedVariables false
set_option linter.unusedSimpArgs false

/-! ### pleacherref03_digit: function 87 -/
end Go.Proofs.YtbcjhmeeonhmaaaGreatDoor.M
end

-- Laid by a program of this session for this claim.
section
namespace Go.Proofs.YtbcjhmeeonhmaaaGreatDoor.M
open Go.RowKit Go.Proofs.YtbcjhmeeonhmaaaGreatDoorW.PrintWords Go.Proofs.YtbcjhmeeonhmaaaGreatDoorW.PrintLast Go.Proofs.YtbcjhmeeonhmaaaGreatDoorW.PrintMore
attribute [local go_sem] max2_int min2_int max_two min_two max_three min_three max_four min_four   -- for this text's walks alone
set_option linter.unusedVariables false
set_option linter.unusedSimpArgs false

/-! ### pleacherref03_Get: function 59 -/
end Go.Proofs.YtbcjhmeeonhmaaaGreatDoor.M
end

-- Laid by a program of this session for this claim.
section
namespace Go.Proofs.YtbcjhmeeonhmaaaGreatDoor.M
open Go.RowKit Go.Proofs.YtbcjhmeeonhmaaaGreatDoorW.PrintWords Go.Proofs.YtbcjhmeeonhmaaaGreatDoorW.PrintLast Go.Proofs.YtbcjhmeeonhmaaaGreatDoorW.PrintMore
attribute [local go_sem] max2_int min2_int max_two min_two max_three min_three max_four min_four   -- for this text's walks alone
set_option linter.unusedVariables false
set_option linter.unusedSimpArgs false

/-! ### pleacherref03_Put: function 38 -/
def pleacherref03_Put.f : Nat → Int → Int → Option (ByteArray)
  | 0, _, _ => none
  | k + 1, a0, a1 => (pleacherref03_is.f a0).bind fun t188 => (if t188 = true then (if (IntKind.u64.wrap (a0)) = 0 then (none) else (if 0 ≤ (Int.tmod a1 (IntKind.u64.wrap (a0))) then (if (Int.tmod a1 (IntKind.u64.wrap (a0))) ≤ (IntKind.u64.wrap ((Int.tmod a1 (IntKind.u64.wrap (a0))) + 1)) then (if (IntKind.u64.wrap ((Int.tmod a1 (IntKind.u64.wrap (a0))) + 1)) ≤ 16 then (if a1 < (IntKind.u64.wrap (a0)) then (some ((⟨#[48, 49, 50, 51, 52, 53, 54, 55, 56, 57, 97, 98, 99, 100, 101, 102]⟩ : ByteArray).extract ((Int.tmod a1 (IntKind.u64.wrap (a0))) : Int).toNat ((IntKind.u64.wrap ((Int.tmod a1 (IntKind.u64.wrap (a0))) + 1)) : Int).toNat)) else ((pleacherref03_Put.f k a0 (IntKind.u64.wrap (Int.tdiv a1 (IntKind.u64.wrap (a0))))).bind fun t189 => (if t189.size + ((⟨#[48, 49, 50, 51, 52, 53, 54, 55, 56, 57, 97, 98, 99, 100, 101, 102]⟩ : ByteArray).extract ((Int.tmod a1 (IntKind.u64.wrap (a0))) : Int).toNat ((IntKind.u64.wrap ((Int.tmod a1 (IntKind.u64.wrap (a0))) + 1)) : Int).toNat).size ≤ 9223372036854775807 then (some (t189 ++ ((⟨#[48, 49, 50, 51, 52, 53, 54, 55, 56, 57, 97, 98, 99, 100, 101, 102]⟩ : ByteArray).extract ((Int.tmod a1 (IntKind.u64.wrap (a0))) : Int).toNat ((IntKind.u64.wrap ((Int.tmod a1 (IntKind.u64.wrap (a0))) + 1)) : Int).toNat))) else (none)))) else (none)) else (none)) else (none))) else (some (⟨#[]⟩ : ByteArray)))
set_option maxHeartbeats 8000000 in
set_option maxRecDepth 100000 in
theorem pleacherref03_Put.calls (k : Nat) : ∀ (a0 : Int) (a1 : Int) (r : ByteArray) (w : World) (h : pleacherref03_Put.f k a0 a1 = some r),
    Calls Tryz.prog 38 #[.int .i64 a0, .int .u64 a1] w fun e w' => e = .returned (.string r) ∧ Drawn0 w w' := by
  induction k using Nat.strongRecOn with
  | _ k ih =>
  intro a0 a1 r w h
  cases k with
  | zero => exact absurd h (by simp [pleacherref03_Put.f])
  | succ k =>
  simp only [pleacherref03_Put.f] at h
  have H : ((pleacherref03_is.f a0).bind fun t188 => (if t188 = true then (if (IntKind.u64.wrap (a0)) = 0 then (none) else (if 0 ≤ (Int.tmod a1 (IntKind.u64.wrap (a0))) then (if (Int.tmod a1 (IntKind.u64.wrap (a0))) ≤ (IntKind.u64.wrap ((Int.tmod a1 (IntKind.u64.wrap (a0))) + 1)) then (if (IntKind.u64.wrap ((Int.tmod a1 (IntKind.u64.wrap (a0))) + 1)) ≤ 16 then (if a1 < (IntKind.u64.wrap (a0)) then (some ((⟨#[48, 49, 50, 51, 52, 53, 54, 55, 56, 57, 97, 98, 99, 100, 101, 102]⟩ : ByteArray).extract ((Int.tmod a1 (IntKind.u64.wrap (a0))) : Int).toNat ((IntKind.u64.wrap ((Int.tmod a1 (IntKind.u64.wrap (a0))) + 1)) : Int).toNat)) else ((pleacherref03_Put.f k a0 (IntKind.u64.wrap (Int.tdiv a1 (IntKind.u64.wrap (a0))))).bind fun t189 => (if t189.size + ((⟨#[48, 49, 50, 51, 52, 53, 54, 55, 56, 57, 97, 98, 99, 100, 101, 102]⟩ : ByteArray).extract ((Int.tmod a1 (IntKind.u64.wrap (a0))) : Int).toNat ((IntKind.u64.wrap ((Int.tmod a1 (IntKind.u64.wrap (a0))) + 1)) : Int).toNat).size ≤ 9223372036854775807 then (some (t189 ++ ((⟨#[48, 49, 50, 51, 52, 53, 54, 55, 56, 57, 97, 98, 99, 100, 101, 102]⟩ : ByteArray).extract ((Int.tmod a1 (IntKind.u64.wrap (a0))) : Int).toNat ((IntKind.u64.wrap ((Int.tmod a1 (IntKind.u64.wrap (a0))) + 1)) : Int).toNat))) else (none)))) else (none)) else (none)) else (none))) else (some (⟨#[]⟩ : ByteArray)))) = some r := h
  clear h
  replace H := Option.bind_eq_some_iff.mp H
  obtain ⟨t188, A30, H⟩ := H
  replace H : (if t188 = true then (if (IntKind.u64.wrap (a0)) = 0 then (none) else (if 0 ≤ (Int.tmod a1 (IntKind.u64.wrap (a0))) then (if (Int.tmod a1 (IntKind.u64.wrap (a0))) ≤ (IntKind.u64.wrap ((Int.tmod a1 (IntKind.u64.wrap (a0))) + 1)) then (if (IntKind.u64.wrap ((Int.tmod a1 (IntKind.u64.wrap (a0))) + 1)) ≤ 16 then (if a1 < (IntKind.u64.wrap (a0)) then (some ((⟨#[48, 49, 50, 51, 52, 53, 54, 55, 56, 57, 97, 98, 99, 100, 101, 102]⟩ : ByteArray).extract ((Int.tmod a1 (IntKind.u64.wrap (a0))) : Int).toNat ((IntKind.u64.wrap ((Int.tmod a1 (IntKind.u64.wrap (a0))) + 1)) : Int).toNat)) else ((pleacherref03_Put.f k a0 (IntKind.u64.wrap (Int.tdiv a1 (IntKind.u64.wrap (a0))))).bind fun t189 => (if t189.size + ((⟨#[48, 49, 50, 51, 52, 53, 54, 55, 56, 57, 97, 98, 99, 100, 101, 102]⟩ : ByteArray).extract ((Int.tmod a1 (IntKind.u64.wrap (a0))) : Int).toNat ((IntKind.u64.wrap ((Int.tmod a1 (IntKind.u64.wrap (a0))) + 1)) : Int).toNat).size ≤ 9223372036854775807 then (some (t189 ++ ((⟨#[48, 49, 50, 51, 52, 53, 54, 55, 56, 57, 97, 98, 99, 100, 101, 102]⟩ : ByteArray).extract ((Int.tmod a1 (IntKind.u64.wrap (a0))) : Int).toNat ((IntKind.u64.wrap ((Int.tmod a1 (IntKind.u64.wrap (a0))) + 1)) : Int).toNat))) else (none)))) else (none)) else (none)) else (none))) else (some (⟨#[]⟩ : ByteArray))) = some r := H
  have A3 := Aside0.mk A30
  clear A30
  by_cases c4 : t188 = true
  · subst c4
    have H1 : (if (IntKind.u64.wrap (a0)) = 0 then (none) else (if 0 ≤ (Int.tmod a1 (IntKind.u64.wrap (a0))) then (if (Int.tmod a1 (IntKind.u64.wrap (a0))) ≤ (IntKind.u64.wrap ((Int.tmod a1 (IntKind.u64.wrap (a0))) + 1)) then (if (IntKind.u64.wrap ((Int.tmod a1 (IntKind.u64.wrap (a0))) + 1)) ≤ 16 then (if a1 < (IntKind.u64.wrap (a0)) then (some ((⟨#[48, 49, 50, 51, 52, 53, 54, 55, 56, 57, 97, 98, 99, 100, 101, 102]⟩ : ByteArray).extract ((Int.tmod a1 (IntKind.u64.wrap (a0))) : Int).toNat ((IntKind.u64.wrap ((Int.tmod a1 (IntKind.u64.wrap (a0))) + 1)) : Int).toNat)) else ((pleacherref03_Put.f k a0 (IntKind.u64.wrap (Int.tdiv a1 (IntKind.u64.wrap (a0))))).bind fun t189 => (if t189.size + ((⟨#[48, 49, 50, 51, 52, 53, 54, 55, 56, 57, 97, 98, 99, 100, 101, 102]⟩ : ByteArray).extract ((Int.tmod a1 (IntKind.u64.wrap (a0))) : Int).toNat ((IntKind.u64.wrap ((Int.tmod a1 (IntKind.u64.wrap (a0))) + 1)) : Int).toNat).size ≤ 9223372036854775807 then (some (t189 ++ ((⟨#[48, 49, 50, 51, 52, 53, 54, 55, 56, 57, 97, 98, 99, 100, 101, 102]⟩ : ByteArray).extract ((Int.tmod a1 (IntKind.u64.wrap (a0))) : Int).toNat ((IntKind.u64.wrap ((Int.tmod a1 (IntKind.u64.wrap (a0))) + 1)) : Int).toNat))) else (none)))) else (none)) else (none)) else (none))) = some r := by rw [if_pos rfl] at H; exact H
    clear H
    have H := H1
    clear H1
    by_cases c5 : (IntKind.u64.wrap (a0)) = 0
    · rw [if_pos c5] at H
      exact absurd H (by simp)
    · rw [if_neg c5] at H
      have c5b0 : ((IntKind.u64.wrap (a0)) == 0) = false := beq_eq_false_iff_ne.mpr c5
      have c5b1 : ((IntKind.u64.wrap (a0)) != 0) = true := bne_iff_ne.mpr c5
      obtain ⟨ji6, hji6⟩ : ∃ j_ : Int, (Int.tmod a1 (IntKind.u64.wrap (a0))) = j_ := ⟨_, rfl⟩
      replace H : (if 0 ≤ (ji6) then (if (ji6) ≤ (IntKind.u64.wrap ((ji6) + 1)) then (if (IntKind.u64.wrap ((ji6) + 1)) ≤ 16 then (if a1 < (IntKind.u64.wrap (a0)) then (some ((⟨#[48, 49, 50, 51, 52, 53, 54, 55, 56, 57, 97, 98, 99, 100, 101, 102]⟩ : ByteArray).extract ((ji6) : Int).toNat ((IntKind.u64.wrap ((ji6) + 1)) : Int).toNat)) else ((pleacherref03_Put.f k a0 (IntKind.u64.wrap (Int.tdiv a1 (IntKind.u64.wrap (a0))))).bind fun t189 => (if t189.size + ((⟨#[48, 49, 50, 51, 52, 53, 54, 55, 56, 57, 97, 98, 99, 100, 101, 102]⟩ : ByteArray).extract ((ji6) : Int).toNat ((IntKind.u64.wrap ((ji6) + 1)) : Int).toNat).size ≤ 9223372036854775807 then (some (t189 ++ ((⟨#[48, 49, 50, 51, 52, 53, 54, 55, 56, 57, 97, 98, 99, 100, 101, 102]⟩ : ByteArray).extract ((ji6) : Int).toNat ((IntKind.u64.wrap ((ji6) + 1)) : Int).toNat))) else (none)))) else (none)) else (none)) else (none)) = some r := by first | (rw [hji6] at H; exact H) | (simp only [hji6] at H ⊢; exact H)
      (try rw [hji6] at A3)
      by_cases c7 : 0 ≤ (ji6)
      · rw [if_pos c7] at H
        have c7b0 := eq_true c7
        have c7b1 : decide (0 ≤ (ji6)) = true := decide_eq_true c7
        clear c7
        by_cases c8 : (ji6) ≤ (IntKind.u64.wrap ((ji6) + 1))
        · rw [if_pos c8] at H
          have c8b0 := eq_true c8
          have c8b1 : decide ((ji6) ≤ (IntKind.u64.wrap ((ji6) + 1))) = true := decide_eq_true c8
          by_cases c9 : (IntKind.u64.wrap ((ji6) + 1)) ≤ 16
          · rw [if_pos c9] at H
            have c9b0 := eq_true c9
            have c9b1 : decide ((IntKind.u64.wrap ((ji6) + 1)) ≤ 16) = true := decide_eq_true c9
            by_cases c10 : a1 < (IntKind.u64.wrap (a0))
            · rw [if_pos c10] at H
              have c10b0 : decide (a1 < (IntKind.u64.wrap (a0))) = true := decide_eq_true c10
              clear c10
              obtain rfl := Option.some.inj H
              go_enter Tryz.func38, Tryz.ntmps38
              go_wp2_with (first | (go_at_call 61; (with_reducible refine (pleacherref03_is.calls a0 true _ A3.out).mono ?_); rintro e w' ⟨rfl, ⟨nd, rfl⟩⟩; (try first | exact ⟨rfl, _, World.drewN_drewN _ _ _⟩ | exact ⟨rfl, _, Eq.trans (World.drewN_drewN _ _ _) (congrArg (World.drewN _) (Nat.add_assoc _ _ _))⟩)))
              repeat (go_quiet (first | (go_at_call 61; (with_reducible refine (pleacherref03_is.calls a0 true _ A3.out).mono ?_); rintro e w' ⟨rfl, ⟨nd, rfl⟩⟩; (try first | exact ⟨rfl, _, World.drewN_drewN _ _ _⟩ | exact ⟨rfl, _, Eq.trans (World.drewN_drewN _ _ _) (congrArg (World.drewN _) (Nat.add_assoc _ _ _))⟩))); try go_wp2_with (first | (go_at_call 61; (with_reducible refine (pleacherref03_is.calls a0 true _ A3.out).mono ?_); rintro e w' ⟨rfl, ⟨nd, rfl⟩⟩; (try first | exact ⟨rfl, _, World.drewN_drewN _ _ _⟩ | exact ⟨rfl, _, Eq.trans (World.drewN_drewN _ _ _) (congrArg (World.drewN _) (Nat.add_assoc _ _ _))⟩))))
              go_ret
              exact ⟨by first | rfl | (simp; done) | (simp only [← hji6] <;> (first | rfl | simp)) | (simp [*]; done), by repeat (first | exact Drawn0.refl _ | apply Drawn0.step)⟩
            · rw [if_neg c10] at H
              have c10b0 : decide (a1 < (IntKind.u64.wrap (a0))) = false := decide_eq_false c10
              clear c10
              replace H := Option.bind_eq_some_iff.mp H
              obtain ⟨t189, A110, H⟩ := H
              replace H : (if t189.size + ((⟨#[48, 49, 50, 51, 52, 53, 54, 55, 56, 57, 97, 98, 99, 100, 101, 102]⟩ : ByteArray).extract ((ji6) : Int).toNat ((IntKind.u64.wrap ((ji6) + 1)) : Int).toNat).size ≤ 9223372036854775807 then (some (t189 ++ ((⟨#[48, 49, 50, 51, 52, 53, 54, 55, 56, 57, 97, 98, 99, 100, 101, 102]⟩ : ByteArray).extract ((ji6) : Int).toNat ((IntKind.u64.wrap ((ji6) + 1)) : Int).toNat))) else (none)) = some r := H
              have A11 := Aside0.mk A110
              clear A110
              by_cases c12 : t189.size + ((⟨#[48, 49, 50, 51, 52, 53, 54, 55, 56, 57, 97, 98, 99, 100, 101, 102]⟩ : ByteArray).extract ((ji6) : Int).toNat ((IntKind.u64.wrap ((ji6) + 1)) : Int).toNat).size ≤ 9223372036854775807
              · rw [if_pos c12] at H
                have c12b0 := eq_true c12
                have c12b1 : decide (t189.size + ((⟨#[48, 49, 50, 51, 52, 53, 54, 55, 56, 57, 97, 98, 99, 100, 101, 102]⟩ : ByteArray).extract ((ji6) : Int).toNat ((IntKind.u64.wrap ((ji6) + 1)) : Int).toNat).size ≤ 9223372036854775807) = true := decide_eq_true c12
                try have c12b2 : (9223372036854775807 < t189.size + ((⟨#[48, 49, 50, 51, 52, 53, 54, 55, 56, 57, 97, 98, 99, 100, 101, 102]⟩ : ByteArray).extract ((ji6) : Int).toNat ((IntKind.u64.wrap ((ji6) + 1)) : Int).toNat).size) = False := eq_false (Nat.not_lt.2 c12)
                obtain rfl := Option.some.inj H
                go_enter Tryz.func38, Tryz.ntmps38
                go_wp2_with (first | (go_at_call 61; (with_reducible refine (pleacherref03_is.calls a0 true _ A3.out).mono ?_); rintro e w' ⟨rfl, ⟨nd, rfl⟩⟩; (try first | exact ⟨rfl, _, World.drewN_drewN _ _ _⟩ | exact ⟨rfl, _, Eq.trans (World.drewN_drewN _ _ _) (congrArg (World.drewN _) (Nat.add_assoc _ _ _))⟩)) | (go_at_call 38; (with_reducible refine (ih k (by omega) a0 (IntKind.u64.wrap (Int.tdiv a1 (IntKind.u64.wrap (a0)))) t189 _ A11.out).mono ?_); rintro e w' ⟨rfl, ⟨nd, rfl⟩⟩; (try first | exact ⟨rfl, _, World.drewN_drewN _ _ _⟩ | exact ⟨rfl, _, Eq.trans (World.drewN_drewN _ _ _) (congrArg (World.drewN _) (Nat.add_assoc _ _ _))⟩)))
                repeat (go_quiet (first | (go_at_call 61; (with_reducible refine (pleacherref03_is.calls a0 true _ A3.out).mono ?_); rintro e w' ⟨rfl, ⟨nd, rfl⟩⟩; (try first | exact ⟨rfl, _, World.drewN_drewN _ _ _⟩ | exact ⟨rfl, _, Eq.trans (World.drewN_drewN _ _ _) (congrArg (World.drewN _) (Nat.add_assoc _ _ _))⟩)) | (go_at_call 38; (with_reducible refine (ih k (by omega) a0 (IntKind.u64.wrap (Int.tdiv a1 (IntKind.u64.wrap (a0)))) t189 _ A11.out).mono ?_); rintro e w' ⟨rfl, ⟨nd, rfl⟩⟩; (try first | exact ⟨rfl, _, World.drewN_drewN _ _ _⟩ | exact ⟨rfl, _, Eq.trans (World.drewN_drewN _ _ _) (congrArg (World.drewN _) (Nat.add_assoc _ _ _))⟩))); try go_wp2_with (first | (go_at_call 61; (with_reducible refine (pleacherref03_is.calls a0 true _ A3.out).mono ?_); rintro e w' ⟨rfl, ⟨nd, rfl⟩⟩; (try first | exact ⟨rfl, _, World.drewN_drewN _ _ _⟩ | exact ⟨rfl, _, Eq.trans (World.drewN_drewN _ _ _) (congrArg (World.drewN _) (Nat.add_assoc _ _ _))⟩)) | (go_at_call 38; (with_reducible refine (ih k (by omega) a0 (IntKind.u64.wrap (Int.tdiv a1 (IntKind.u64.wrap (a0)))) t189 _ A11.out).mono ?_); rintro e w' ⟨rfl, ⟨nd, rfl⟩⟩; (try first | exact ⟨rfl, _, World.drewN_drewN _ _ _⟩ | exact ⟨rfl, _, Eq.trans (World.drewN_drewN _ _ _) (congrArg (World.drewN _) (Nat.add_assoc _ _ _))⟩))))
                go_ret
                exact ⟨by first | rfl | (simp; done) | (simp only [← hji6] <;> (first | rfl | simp)) | (simp [*]; done), by repeat (first | exact Drawn0.refl _ | apply Drawn0.step)⟩
              · rw [if_neg c12] at H
                exact absurd H (by simp)
          · rw [if_neg c9] at H
            exact absurd H (by simp)
        · rw [if_neg c8] at H
          exact absurd H (by simp)
      · rw [if_neg c7] at H
        exact absurd H (by simp)
  · replace c4 := Bool.eq_false_iff.mpr c4
    subst c4
    have H1 : (some (⟨#[]⟩ : ByteArray)) = some r := by rw [if_neg (show ¬ (false = true) by decide)] at H; exact H
    clear H
    have H := H1
    clear H1
    obtain rfl := Option.some.inj H
    go_enter Tryz.func38, Tryz.ntmps38
    go_wp2_with (first | (go_at_call 61; (with_reducible refine (pleacherref03_is.calls a0 false _ A3.out).mono ?_); rintro e w' ⟨rfl, ⟨nd, rfl⟩⟩; (try first | exact ⟨rfl, _, World.drewN_drewN _ _ _⟩ | exact ⟨rfl, _, Eq.trans (World.drewN_drewN _ _ _) (congrArg (World.drewN _) (Nat.add_assoc _ _ _))⟩)))
    repeat (go_quiet (first | (go_at_call 61; (with_reducible refine (pleacherref03_is.calls a0 false _ A3.out).mono ?_); rintro e w' ⟨rfl, ⟨nd, rfl⟩⟩; (try first | exact ⟨rfl, _, World.drewN_drewN _ _ _⟩ | exact ⟨rfl, _, Eq.trans (World.drewN_drewN _ _ _) (congrArg (World.drewN _) (Nat.add_assoc _ _ _))⟩))); try go_wp2_with (first | (go_at_call 61; (with_reducible refine (pleacherref03_is.calls a0 false _ A3.out).mono ?_); rintro e w' ⟨rfl, ⟨nd, rfl⟩⟩; (try first | exact ⟨rfl, _, World.drewN_drewN _ _ _⟩ | exact ⟨rfl, _, Eq.trans (World.drewN_drewN _ _ _) (congrArg (World.drewN _) (Nat.add_assoc _ _ _))⟩))))
    go_ret
    exact ⟨by first | rfl | (simp; done) | (simp [*]; done), by repeat (first | exact Drawn0.refl _ | apply Drawn0.step)⟩

end Go.Proofs.YtbcjhmeeonhmaaaGreatDoor.M
end

/-
The document's numbers (pleacherref03) and the program's say the same.
-/
section
set_option linter.unusedVariables false
set_option maxRecDepth 100000
namespace Go.Proofs.YtbcjhmeeonhmaaaGreatDoor.H
open Go Go.RowKit Go.Proofs.YtbcjhmeeonhmaaaGreatDoorW.PrintWords Go.Proofs.YtbcjhmeeonhmaaaGreatDoorW.PrintMore Go.Proofs.YtbcjhmeeonhmaaaGreatDoor.M

theorem ref03_is (b : Nat) (hb : b = 8 ∨ b = 10 ∨ b = 16) : pleacherref03_is.f b = some true := by
  rcases hb with rfl | rfl | rfl <;> rfl
theorem dig_one : ∀ d : Nat, d < 16 → dig16.extract d (d + 1) = strOfNums [chr d] := by
  intro d hd
  have : d = 0 ∨ d = 1 ∨ d = 2 ∨ d = 3 ∨ d = 4 ∨ d = 5 ∨ d = 6 ∨ d = 7 ∨ d = 8 ∨ d = 9 ∨ d = 10 ∨ d = 11 ∨ d = 12 ∨ d = 13 ∨ d = 14 ∨ d = 15 := by omega
  rcases this with rfl | rfl | rfl | rfl | rfl | rfl | rfl | rfl | rfl | rfl | rfl | rfl | rfl | rfl | rfl | rfl <;> rfl
theorem strOf_append (a b : List Int) : strOfNums (a ++ b) = strOfNums a ++ strOfNums b := by
  unfold strOfNums
  rw [List.map_append]
  apply ByteArray.ext
  simp
theorem putS_more {b n : Nat} (hb : 2 ≤ b) (h : n / b ≠ 0) : putS b n = putS b (n / b) ++ strOfNums [chr (n % b)] := by
  unfold putS
  rw [dgc_more hb h, List.reverse_cons, strOf_append]
theorem putS_stop {b n : Nat} (h : n / b = 0) : putS b n = strOfNums [chr (n % b)] := by
  unfold putS
  rw [dgc_stop h]; rfl
theorem ref03_put_step (b : Nat) (hb : b = 8 ∨ b = 10 ∨ b = 16) (k n : Nat) (h2 : n < 18446744073709551616) : pleacherref03_Put.f (k + 1) b n =
    if n < b then some (strOfNums [chr (n % b)]) else (pleacherref03_Put.f k b ((n / b : Nat) : Int)).bind fun t => if t.size + 1 ≤ 9223372036854775807 then some (t ++ strOfNums [chr (n % b)]) else none := by
  have hb2 : 2 ≤ b := by omega
  have hm : n % b < b := Nat.mod_lt _ (by omega)
  have hmi : Int.tmod (n : Int) (b : Int) = ((n % b : Nat) : Int) := (Int.ofNat_tmod n b).symm
  have hdi : Int.tdiv (n : Int) (b : Int) = ((n / b : Nat) : Int) := (Int.ofNat_tdiv n b).symm
  have hle : n / b ≤ n := Nat.div_le_self _ _
  obtain ⟨q, hq⟩ : ∃ q, n / b = q := ⟨_, rfl⟩
  obtain ⟨m, hmm⟩ : ∃ m, n % b = m := ⟨_, rfl⟩
  rw [hq] at hdi hle
  rw [hmm] at hmi hm
  rw [pleacherref03_Put.f, ref03_is b hb]
  simp only [Option.bind_some, if_true]
  rw [wrap_u64 (b : Int) (by omega) (by omega), hmi, hdi, if_neg (by omega), if_pos (by omega), wrap_u64 ((m : Int) + 1) (by omega) (by omega), if_pos (by omega), if_pos (by omega), wrap_u64 (q : Int) (by omega) (by omega)]
  rw [show (((m : Int) + 1)).toNat = m + 1 from by omega, Int.toNat_natCast, hq, hmm]
  have hd := dig_one m (by omega)
  unfold dig16 at hd
  rw [hd]
  by_cases hlt : n < b
  · rw [if_pos (by omega), if_pos hlt]
  · rw [if_neg (by omega), if_neg hlt]
    rfl
theorem ref03_put (b : Nat) (hb : b = 8 ∨ b = 10 ∨ b = 16) : ∀ (k n : Nat), n < 2 ^ k → n < 18446744073709551616 → pleacherref03_Put.f (k + 1) b n = some (putS b n) := by
  intro k
  induction k with
  | zero =>
    intro n h1 h2
    obtain rfl : n = 0 := by omega
    rw [ref03_put_step b hb _ _ h2, if_pos (by omega), putS_stop (by simp)]
  | succ k ih =>
    intro n h1 h2
    have hb2 : 2 ≤ b := by omega
    rw [ref03_put_step b hb _ _ h2]
    by_cases hlt : n < b
    · rw [if_pos hlt, putS_stop (Nat.div_eq_of_lt hlt)]
    · have hne : n / b ≠ 0 := by
        have := Nat.div_pos (Nat.le_of_not_lt hlt) (by omega : 0 < b)
        omega
      have hle : n / b ≤ n / 2 := Nat.div_le_div_left hb2 (by omega)
      have hp : 2 ^ (k + 1) = 2 * 2 ^ k := by rw [Nat.pow_succ]; omega
      rw [if_neg hlt, ih (n / b) (by omega) (by omega)]
      simp only [Option.bind_some]
      have hsz : (putS b (n / b)).size ≤ 65 := by
        unfold putS; rw [strOfNums_size, List.length_reverse]
        exact dgc_len b hb2 64 (n / b) (by omega)
      rw [if_pos (by omega), putS_more hb2 hne]
theorem ref03_putI (b : Nat) (hb : b = 8 ∨ b = 10 ∨ b = 16) (k : Nat) (hk : 65 ≤ k) (n : Int) (h0 : 0 ≤ n) (h : n < 18446744073709551616) : pleacherref03_Put.f k b n = some (putS b n.toNat) := by
  obtain ⟨m, rfl⟩ := Int.eq_ofNat_of_zero_le h0
  obtain ⟨j, rfl⟩ : ∃ j, k = (64 + j) + 1 := ⟨k - 65, by omega⟩
  refine ref03_put b hb (64 + j) m ?_ (by omega)
  have : 2 ^ 64 ≤ 2 ^ (64 + j) := Nat.pow_le_pow_right (by decide) (by omega)
  omega

theorem nil_iff (s : ByteArray) : s.toList = [] ↔ s.size = 0 := by
  rw [toList_data]
  constructor
  · intro e; rw [← size_data, e]; rfl
  · intro h; exact List.eq_nil_of_length_eq_zero (by rw [size_data]; exact h)
end Go.Proofs.YtbcjhmeeonhmaaaGreatDoor.H
end

/-
A range over a function, where the round's variable has a block of its own (it is captured, or its address is taken): one law for the caller, out of the iterator's contract. Over any program. By this session.
-/
section
set_option linter.unusedVariables false
namespace Go.Proofs.YtbcjhmeeonhmaaaGreatDoor.H
open Go Go.RowKit

end Go.Proofs.YtbcjhmeeonhmaaaGreatDoor.H
end

/-
What reflectlite answers where errors.As is asked for an error of escape's.
-/
section
set_option linter.unusedVariables false
set_option maxRecDepth 100000
namespace Go.Proofs.YtbcjhmeeonhmaaaGreatDoor.H
open Go Go.RowKit Go.Extern

/-! What reflectlite answers at these two types. -/
theorem as_unpackP (b : Addr) (w : World) : (ReflectliteValue.unpack (.iface 103 (.pointer (some b)))).run Tryz.prog w = .ok (.agg #[.pointer (some ⟨6, 103, none⟩), .pointer (some ⟨w.heap.size, 0, none⟩), .int .u64 150]) (w.alloc (.cells #[.pointer (some b)] 103)) := by kernel_rfl
theorem as_unpackE (y n : Int) (w : World) : (ReflectliteValue.unpack (.iface 101 (.agg #[.int .i64 y, .int .i64 n]))).run Tryz.prog w = .ok (.agg #[.pointer (some ⟨6, 101, none⟩), .pointer (some ⟨w.heap.size, 0, none⟩), .int .u64 153]) (w.alloc (.cells #[.int .i64 y, .int .i64 n] 101)) := by kernel_rfl
def asVF : Array Value → Sem Value := fun args => ReflectliteValue.unpack (args.getD 0 (.tuple #[]))
theorem as_vP (b : Addr) (w : World) : (asVF #[.iface 103 (.pointer (some b))]).run Tryz.prog w = .ok (.agg #[.pointer (some ⟨6, 103, none⟩), .pointer (some ⟨w.heap.size, 0, none⟩), .int .u64 150]) (w.alloc (.cells #[.pointer (some b)] 103)) := as_unpackP b w
theorem as_vE (y n : Int) (w : World) : (asVF #[.iface 101 (.agg #[.int .i64 y, .int .i64 n])]).run Tryz.prog w = .ok (.agg #[.pointer (some ⟨6, 101, none⟩), .pointer (some ⟨w.heap.size, 0, none⟩), .int .u64 153]) (w.alloc (.cells #[.int .i64 y, .int .i64 n] 101)) := as_unpackE y n w
def asTyF : Array Value → Sem Value := ReflectliteValue.methodAny (ReflectliteValue.valueError "reflectlite.Value.Type" 0) fun t _ _ _ => ReflectliteType.toType t
theorem as_ty (p : Addr) (w : World) : (asTyF #[.agg #[.pointer (some ⟨6, 103, none⟩), .pointer (some p), .int .u64 150]]).run Tryz.prog w = .ok (.iface 162 (.agg #[.pointer (some ⟨6, 103, none⟩)])) w := by kernel_rfl
def asImF : Array Value → Sem Value := ReflectliteType.relation "Implements" ReflectliteType.implements_
theorem as_im (w : World) : (asImF #[.agg #[.pointer (some ⟨6, 101, none⟩)], .iface 162 (.agg #[.pointer (some ⟨6, 40, none⟩)])]).run Tryz.prog w = .ok (.bool true) w := by kernel_rfl
def asAsF : Array Value → Sem Value := ReflectliteType.relation "AssignableTo" ReflectliteType.assignableTo
theorem as_as (w : World) : (asAsF #[.agg #[.pointer (some ⟨6, 101, none⟩)], .iface 162 (.agg #[.pointer (some ⟨6, 101, none⟩)])]).run Tryz.prog w = .ok (.bool true) w := by kernel_rfl
def asElF : Array Value → Sem Value := ReflectliteType.method ReflectliteType.elem
theorem as_el (w : World) : (asElF #[.agg #[.pointer (some ⟨6, 103, none⟩)]]).run Tryz.prog w = .ok (.iface 162 (.agg #[.pointer (some ⟨6, 101, none⟩)])) w := by kernel_rfl
def asKiF : Array Value → Sem Value := ReflectliteType.abiMethod fun t => do pure (.int .u8 (← Rtype.kind t))
theorem as_kiP (w : World) : (asKiF #[.pointer (some ⟨6, 103, none⟩)]).run Tryz.prog w = .ok (.int .u8 22) w := by kernel_rfl
theorem as_kiE (w : World) : (asKiF #[.pointer (some ⟨6, 101, none⟩)]).run Tryz.prog w = .ok (.int .u8 25) w := by kernel_rfl
theorem as_mKind (h : Addr) (w : World) : (Go.method 350 162 (.agg #[.pointer (some h)]) "Kind").run Tryz.prog w = .ok (159, .pointer (some h)) w := by kernel_rfl
theorem as_mElem (v : Value) (w : World) : (Go.method 350 162 v "Elem").run Tryz.prog w = .ok (170, v) w := by kernel_rfl
theorem as_mImpl (v : Value) (w : World) : (Go.method 350 162 v "Implements").run Tryz.prog w = .ok (171, v) w := by kernel_rfl
theorem as_mAss (v : Value) (w : World) : (Go.method 350 162 v "AssignableTo").run Tryz.prog w = .ok (168, v) w := by kernel_rfl
theorem as_typeOf (v : Value) (w : World) : (ReflectliteType.typeOf #[.iface 101 v]).run Tryz.prog w = .ok (.iface 162 (.agg #[.pointer (some ⟨6, 101, none⟩)])) w := by kernel_rfl
def asNilF : Array Value → Sem Value := ReflectliteValue.method (ReflectliteValue.valueError "reflectlite.Value.IsNil" 0) ReflectliteValue.isNil
def asEF : Array Value → Sem Value := ReflectliteValue.method (ReflectliteValue.valueError "reflectlite.Value.Elem" 0) ReflectliteValue.elem
theorem as_partsP (p : Addr) (w : World) : (ReflectliteValue.parts (.agg #[.pointer (some ⟨6, 103, none⟩), .pointer (some p), .int .u64 150])).run Tryz.prog w = .ok (some (103, p, 150)) w := by kernel_rfl
theorem as_partsE (p : Addr) (w : World) : (ReflectliteValue.parts (.agg #[.pointer (some ⟨6, 101, none⟩), .pointer (some p), .int .u64 153])).run Tryz.prog w = .ok (some (101, p, 153)) w := by kernel_rfl
theorem as_partsD (p : Addr) (w : World) : (ReflectliteValue.parts (.agg #[.pointer (some ⟨6, 101, none⟩), .pointer (some p), .int .u64 409])).run Tryz.prog w = .ok (some (101, p, 409)) w := by kernel_rfl
theorem as_aggP (w : World) : (isAgg 103).run Tryz.prog w = .ok false w := by kernel_rfl
theorem as_aggE (w : World) : (isAgg 101).run Tryz.prog w = .ok true w := by kernel_rfl
theorem as_szE (w : World) : (sizeOf 101).run Tryz.prog w = .ok 2 w := by kernel_rfl
theorem as_load (a : Addr) (v : Value) (w : World) (hc : w.cell? a = some v) : (loadVar 103 a).run Tryz.prog w = .ok v w := by
  simp [loadVar, as_aggP, Result.andThen, hc]
theorem as_isNil (a b : Addr) (w : World) (hc : w.cell? a = some (.pointer (some b))) : (asNilF #[.agg #[.pointer (some ⟨6, 103, none⟩), .pointer (some a), .int .u64 150]]).run Tryz.prog w = .ok (.bool false) w := by
  change Sem.run Tryz.prog (do
    match ← ReflectliteValue.parts (.agg #[.pointer (some ⟨6, 103, none⟩), .pointer (some a), .int .u64 150]) with
    | none => ReflectliteValue.valueError "reflectlite.Value.IsNil" 0
    | some (t, a, fl) => ReflectliteValue.isNil t a fl (fl % 32)) w = _
  rw [Sem.run_bind, as_partsP]
  change Sem.run Tryz.prog (ReflectliteValue.isNil 103 a 150 22) w = _
  change Sem.run Tryz.prog (do
    match ← loadVar 103 a with
    | .chan none | .nilFunc | .nilIface | .map none | .pointer none | .slice none _ _ => (pure (Value.bool true) : Sem Value)
    | _ => (pure (Value.bool false) : Sem Value)) w = _
  rw [Sem.run_bind, as_load a _ w hc]
  rfl
theorem as_elemT (w : World) : (Rtype.elem? 103).run Tryz.prog w = .ok (some 101) w := by kernel_rfl
theorem as_mk (b : Addr) (w : World) : (ReflectliteValue.mk 101 b ReflectliteValue.flagAddr).run Tryz.prog w = .ok (.agg #[.pointer (some ⟨6, 101, none⟩), .pointer (some b), .int .u64 409]) w := by kernel_rfl
theorem as_vElem (a b : Addr) (w : World) (hc : w.cell? a = some (.pointer (some b))) : (asEF #[.agg #[.pointer (some ⟨6, 103, none⟩), .pointer (some a), .int .u64 150]]).run Tryz.prog w = .ok (.agg #[.pointer (some ⟨6, 101, none⟩), .pointer (some b), .int .u64 409]) w := by
  change Sem.run Tryz.prog (do
    match ← ReflectliteValue.parts (.agg #[.pointer (some ⟨6, 103, none⟩), .pointer (some a), .int .u64 150]) with
    | none => ReflectliteValue.valueError "reflectlite.Value.Elem" 0
    | some (t, a, fl) => ReflectliteValue.elem t a fl (fl % 32)) w = _
  rw [Sem.run_bind, as_partsP]
  change Sem.run Tryz.prog (ReflectliteValue.elem 103 a 150 22) w = _
  change Sem.run Tryz.prog (do
    let x ← loadVar 103 a
    let y ← Rtype.elem? 103
    match (22 : Nat), x, y with
    | 20, i, _ => ReflectliteValue.unpack i
    | 22, .pointer none, _ => pure ReflectliteValue.zeroV
    | 22, .pointer (some p), some e => ReflectliteValue.mk e p ReflectliteValue.flagAddr
    | _, _, _ => ReflectliteValue.valueError "reflectlite.Value.Elem" 22) w = _
  rw [Sem.run_bind, as_load a _ w hc]
  change Sem.run Tryz.prog (do
    let y ← Rtype.elem? 103
    match (22 : Nat), Value.pointer (some b), y with
    | 20, i, _ => ReflectliteValue.unpack i
    | 22, .pointer none, _ => pure ReflectliteValue.zeroV
    | 22, .pointer (some p), some e => ReflectliteValue.mk e p ReflectliteValue.flagAddr
    | _, _, _ => ReflectliteValue.valueError "reflectlite.Value.Elem" 22) w = _
  rw [Sem.run_bind, as_elemT]
  exact as_mk b w
theorem as_dir (w : World) : (Rtype.directlyAssignable 101 101).run Tryz.prog w = .ok true w := by kernel_rfl
theorem as_loadE (a : Nat) (v u : Value) (w : World) (hc : w.cell? ⟨a, 0, none⟩ = some v) (hc1 : w.cell? ⟨a, 1, none⟩ = some u) : (loadVar 101 ⟨a, 0, none⟩).run Tryz.prog w = .ok (.agg #[v, u]) w := by
  have h0 : ((⟨a, 0, none⟩ : Addr).add 0) = ⟨a, 0, none⟩ := rfl
  have h1 : ((⟨a, 0, none⟩ : Addr).add 1) = ⟨a, 1, none⟩ := rfl
  simp [loadVar, as_aggE, as_szE, Result.andThen, loadCells, loadCellsFrom, h0, h1, hc, hc1]
theorem as_storeE (a : Nat) (y n : Int) (v u : Value) (w : World) (hc : w.cell? ⟨a, 0, none⟩ = some v) (hc1 : w.cell? ⟨a, 1, none⟩ = some u) (hf : w.frozen? ⟨a, 0, none⟩ = false) (hf1 : w.frozen? ⟨a, 1, none⟩ = false) :
    (storeVar 101 ⟨a, 0, none⟩ (.agg #[.int .i64 y, .int .i64 n])).run Tryz.prog w = .ok () ((w.setCell ⟨a, 0, none⟩ (.int .i64 y)).setCell ⟨a, 1, none⟩ (.int .i64 n)) := by
  have h0 : ((⟨a, 0, none⟩ : Addr).add 0) = ⟨a, 0, none⟩ := rfl
  have h1 : ((⟨a, 0, none⟩ : Addr).add 1) = ⟨a, 1, none⟩ := rfl
  have hst := run_store Tryz.prog w ⟨a, 0, none⟩ (.int .i64 y) .plain rfl
  have hst1 := run_store Tryz.prog (w.setCell ⟨a, 0, none⟩ (.int .i64 y)) ⟨a, 1, none⟩ (.int .i64 n) .plain rfl
  simp [storeVar, as_szE, Result.andThen, storeCells, Value.cells, h0, h1]
  rw [hst]
  have hcS : (w.setCell ⟨a, 0, none⟩ (.int .i64 y)).cell? ⟨a, 1, none⟩ = some u := (World.cell?_setCell_other _ _ _ _ (by simp)).trans hc1
  simp [hc, hf, hst1, hf1]
  rw [hcS]
theorem as_set (p q : Nat) (y n : Int) (v u : Value) (w : World) (hp : w.cell? ⟨p, 0, none⟩ = some v) (hp1 : w.cell? ⟨p, 1, none⟩ = some u) (hf : w.frozen? ⟨p, 0, none⟩ = false) (hf1 : w.frozen? ⟨p, 1, none⟩ = false) (hq : w.cell? ⟨q, 0, none⟩ = some (.int .i64 y)) (hq1 : w.cell? ⟨q, 1, none⟩ = some (.int .i64 n)) :
    (ReflectliteValue.set #[.agg #[.pointer (some ⟨6, 101, none⟩), .pointer (some ⟨p, 0, none⟩), .int .u64 409], .agg #[.pointer (some ⟨6, 101, none⟩), .pointer (some ⟨q, 0, none⟩), .int .u64 153]]).run Tryz.prog w = .ok (.tuple #[]) ((w.setCell ⟨p, 0, none⟩ (.int .i64 y)).setCell ⟨p, 1, none⟩ (.int .i64 n)) := by
  change Sem.run Tryz.prog (do
    let (some (dst, a, fl), some (src, b, _)) := (← ReflectliteValue.parts (.agg #[.pointer (some ⟨6, 101, none⟩), .pointer (some ⟨p, 0, none⟩), .int .u64 409]), ← ReflectliteValue.parts (.agg #[.pointer (some ⟨6, 101, none⟩), .pointer (some ⟨q, 0, none⟩), .int .u64 153]))
      | unsupported (.noEntry "extern/(internal/reflectlite.Value).Set.zeroValue")
    if fl / ReflectliteValue.flagAddr % 2 == 0 then unsupported (.noEntry "extern/(internal/reflectlite.Value).Set.unaddressable")
    let val ← loadVar src b
    if ← Rtype.directlyAssignable dst src then storeVar dst a val
    else if ← Rtype.implements dst src then
      if (← Rtype.kind src) == 20 then
        match val with
        | .nilIface => unsupported (.noEntry "extern/reflectlite: a nil value of one interface type handed on as a value of another")
        | _ => storeVar dst a val
      else storeVar dst a (.iface src val)
    else panicString ("reflectlite.Set: value of type " ++ (← Rtype.spelt src) ++ " is not assignable to type " ++ (← Rtype.spelt dst))
    pure (Value.tuple #[])) w = _
  rw [Sem.run_bind, as_partsD]
  simp only [Result.andThen]
  rw [Sem.run_bind, as_partsE]
  simp only [Result.andThen]
  rw [if_neg (by decide), Sem.run_bind, as_loadE q _ _ w hq hq1]
  simp only [Result.andThen]
  rw [Sem.run_bind, as_dir]
  simp only [Result.andThen]
  rw [if_pos trivial, Sem.run_bind, as_storeE p y n v u w hp hp1 hf hf1]
  rfl
theorem ex_valueOf (args : Array Value) (w : World) : (callFunc 77 args).run Tryz.prog w = (((asVF) args).run Tryz.prog w).andThen fun v w' => .ok (.value v) w' := @run_callFunc_extern Tryz.prog 77 _ (asVF) Tryz.func77 (by kernel_rfl) (by kernel_rfl) (by kernel_rfl) (by kernel_rfl) args w
theorem ex_type (args : Array Value) (w : World) : (callFunc 78 args).run Tryz.prog w = (((asTyF) args).run Tryz.prog w).andThen fun v w' => .ok (.value v) w' := @run_callFunc_extern Tryz.prog 78 _ (asTyF) Tryz.func78 (by kernel_rfl) (by kernel_rfl) (by kernel_rfl) (by kernel_rfl) args w
theorem ex_isNil (args : Array Value) (w : World) : (callFunc 79 args).run Tryz.prog w = (((asNilF) args).run Tryz.prog w).andThen fun v w' => .ok (.value v) w' := @run_callFunc_extern Tryz.prog 79 _ (asNilF) Tryz.func79 (by kernel_rfl) (by kernel_rfl) (by kernel_rfl) (by kernel_rfl) args w
theorem ex_vElem (args : Array Value) (w : World) : (callFunc 101 args).run Tryz.prog w = (((asEF) args).run Tryz.prog w).andThen fun v w' => .ok (.value v) w' := @run_callFunc_extern Tryz.prog 101 _ (asEF) Tryz.func101 (by kernel_rfl) (by kernel_rfl) (by kernel_rfl) (by kernel_rfl) args w
theorem ex_set (args : Array Value) (w : World) : (callFunc 102 args).run Tryz.prog w = (((ReflectliteValue.set) args).run Tryz.prog w).andThen fun v w' => .ok (.value v) w' := @run_callFunc_extern Tryz.prog 102 _ (ReflectliteValue.set) Tryz.func102 (by kernel_rfl) (by kernel_rfl) (by kernel_rfl) (by kernel_rfl) args w
theorem ex_typeOf (args : Array Value) (w : World) : (callFunc 100 args).run Tryz.prog w = (((ReflectliteType.typeOf) args).run Tryz.prog w).andThen fun v w' => .ok (.value v) w' := @run_callFunc_extern Tryz.prog 100 _ (ReflectliteType.typeOf) Tryz.func100 (by kernel_rfl) (by kernel_rfl) (by kernel_rfl) (by kernel_rfl) args w
theorem ex_impl (args : Array Value) (w : World) : (callFunc 171 args).run Tryz.prog w = (((asImF) args).run Tryz.prog w).andThen fun v w' => .ok (.value v) w' := @run_callFunc_extern Tryz.prog 171 _ (asImF) Tryz.func171 (by kernel_rfl) (by kernel_rfl) (by kernel_rfl) (by kernel_rfl) args w
theorem ex_ass (args : Array Value) (w : World) : (callFunc 168 args).run Tryz.prog w = (((asAsF) args).run Tryz.prog w).andThen fun v w' => .ok (.value v) w' := @run_callFunc_extern Tryz.prog 168 _ (asAsF) Tryz.func168 (by kernel_rfl) (by kernel_rfl) (by kernel_rfl) (by kernel_rfl) args w
theorem ex_elem (args : Array Value) (w : World) : (callFunc 170 args).run Tryz.prog w = (((asElF) args).run Tryz.prog w).andThen fun v w' => .ok (.value v) w' := @run_callFunc_extern Tryz.prog 170 _ (asElF) Tryz.func170 (by kernel_rfl) (by kernel_rfl) (by kernel_rfl) (by kernel_rfl) args w
theorem ex_kind (args : Array Value) (w : World) : (callFunc 159 args).run Tryz.prog w = (((asKiF) args).run Tryz.prog w).andThen fun v w' => .ok (.value v) w' := @run_callFunc_extern Tryz.prog 159 _ (asKiF) Tryz.func159 (by kernel_rfl) (by kernel_rfl) (by kernel_rfl) (by kernel_rfl) args w

end Go.Proofs.YtbcjhmeeonhmaaaGreatDoor.H
end

/-
escape.told: errors.As at an error of escape's.
-/
section
set_option linter.unusedVariables false
set_option maxRecDepth 100000
namespace Go.Proofs.YtbcjhmeeonhmaaaGreatDoor.H
open Go Go.RowKit Go.Extern

set_option maxHeartbeats 4000000 in
theorem as_ (y n : Int) (b a : Nat) (w : World) (hb : w.heap[b]? = some (.cells #[.int .i64 0, .int .i64 0] 101)) (ha : w.cell? ⟨a, 0, none⟩ = some (.pointer (some ⟨b, 0, none⟩))) :
    Calls Tryz.prog 80 #[wrongV y n, .iface 103 (.pointer (some ⟨b, 0, none⟩)), .agg #[.pointer (some ⟨6, 103, none⟩), .pointer (some ⟨a, 0, none⟩), .int .u64 150], .iface 162 (.agg #[.pointer (some ⟨6, 101, none⟩)])] w fun e w' =>
      e = .returned (.bool true) ∧ w.grownBy w' (some b) ∧ w'.heap[b]? = some (.cells #[.int .i64 y, .int .i64 n] 101) := by
  have hbl := lt_of_heap hb
  have hal := World.block_lt_of_cell? w _ ha
  have e1 := ex_typeOf
  have e2 := as_typeOf
  have e3 := ex_ass
  have e4 := as_as
  have e5 := as_mAss
  have e6 := ex_vElem
  have e8 := ex_valueOf
  have e9 := as_vE
  have e10 := ex_set
  obtain ⟨W1, hW1⟩ : ∃ W1, w.alloc (.cells #[.pointer (some ⟨6, 103, none⟩), .pointer (some ⟨a, 0, none⟩), .int .u64 150] 128) = W1 := ⟨_, rfl⟩
  have hB1 : Below w.heap.size w W1 := by rw [← hW1]; exact below_one _ _
  have hc0 : W1.cell? ⟨w.heap.size, 0, none⟩ = some (.pointer (some ⟨6, 103, none⟩)) := by rw [← hW1]; exact cel_new w _ _ 0 rfl
  have hc1 : W1.cell? ⟨w.heap.size, 1, none⟩ = some (.pointer (some ⟨a, 0, none⟩)) := by rw [← hW1]; exact cel_new w _ _ 1 rfl
  have hc2 : W1.cell? ⟨w.heap.size, 2, none⟩ = some (.int .u64 150) := by rw [← hW1]; exact cel_new w _ _ 2 rfl
  have f1 := as_vElem ⟨a, 0, none⟩ ⟨b, 0, none⟩ W1 (celB hB1 ha)
  obtain ⟨W2, hW2⟩ : ∃ W2, W1.alloc (.cells #[.int .i64 y, .int .i64 n] 101) = W2 := ⟨_, rfl⟩
  have hB2 : Below w.heap.size w W2 := by rw [← hW2]; exact below_al hB1 _
  have hb2 : W2.heap[b]? = some (.cells #[.int .i64 0, .int .i64 0] 101) := (hB2.block b hbl).trans hb
  have hq : W2.cell? ⟨W1.heap.size, 0, none⟩ = some (.int .i64 y) := by rw [← hW2]; exact cel_new W1 _ _ 0 rfl
  have hq1 : W2.cell? ⟨W1.heap.size, 1, none⟩ = some (.int .i64 n) := by rw [← hW2]; exact cel_new W1 _ _ 1 rfl
  have f2 := as_set b W1.heap.size y n (.int .i64 0) (.int .i64 0) W2 (by simp [World.cell?, hb2]) (by simp [World.cell?, hb2]) (by simp [World.frozen?, hb2]) (by simp [World.frozen?, hb2]) hq hq1
  have hg : w.grownBy ((W2.setCell ⟨b, 0, none⟩ (.int .i64 y)).setCell ⟨b, 1, none⟩ (.int .i64 n)) (some b) := row_set (row_set (grown_below_row hB2 _) _ _) _ _
  have hd : ((W2.setCell ⟨b, 0, none⟩ (.int .i64 y)).setCell ⟨b, 1, none⟩ (.int .i64 n)).heap[b]? = some (.cells #[.int .i64 y, .int .i64 n] 101) := (heap_set_eq (heap_set_eq hb2 0 _) 1 _).trans rfl
  unfold wrongV
  go_enter Tryz.func80, Tryz.ntmps80
  go_wp2
  refine wp_loop_rounds 1 ?_
  rw [rounds_succ]
  go_wp2
  go_ret
  exact ⟨rfl, hg, hd⟩

set_option maxHeartbeats 4000000 in
theorem As_ (y n : Int) (b : Nat) (w : World) (hG : GW w) (hb : w.heap[b]? = some (.cells #[.int .i64 0, .int .i64 0] 101)) :
    Calls Tryz.prog 50 #[wrongV y n, .iface 103 (.pointer (some ⟨b, 0, none⟩))] w fun e w' =>
      e = .returned (.bool true) ∧ w.grownBy w' (some b) ∧ w'.heap[b]? = some (.cells #[.int .i64 y, .int .i64 n] 101) := by
  have hbl := lt_of_heap hb
  obtain ⟨_, _, _, _, _, _, _, _, _, _, _, g6⟩ := id hG
  have e8 := ex_valueOf
  have e9 := as_vP
  have e10 := ex_type
  have e11 := as_ty
  have e12 := ex_kind
  have e13 := as_kiP
  have e14 := as_kiE
  have e15 := as_mKind
  have e16 := ex_isNil
  have e17 := ex_elem
  have e18 := as_el
  have e19 := as_mElem
  have e20 := ex_impl
  have e21 := as_im
  have e22 := as_mImpl
  obtain ⟨W1, hW1⟩ : ∃ W1, w.alloc (.cells #[.pointer (some ⟨b, 0, none⟩)] 103) = W1 := ⟨_, rfl⟩
  have hB1 : Below w.heap.size w W1 := by rw [← hW1]; exact below_one _ _
  have hz1 : W1.heap.size = w.heap.size + 1 := by rw [← hW1]; simp
  have hx1 : W1.cell? ⟨w.heap.size, 0, none⟩ = some (.pointer (some ⟨b, 0, none⟩)) := by rw [← hW1]; exact cel_new w _ _ 0 rfl
  obtain ⟨W2, hW2⟩ : ∃ W2, W1.alloc (.cells #[.pointer (some ⟨6, 103, none⟩), .pointer (some ⟨w.heap.size, 0, none⟩), .int .u64 150] 128) = W2 := ⟨_, rfl⟩
  have hB2 : Below w.heap.size w W2 := by rw [← hW2]; exact below_al hB1 _
  have hc0 : W2.cell? ⟨w.heap.size + 1, 0, none⟩ = some (.pointer (some ⟨6, 103, none⟩)) := by rw [← hW2, ← hz1]; exact cel_new W1 _ _ 0 rfl
  have hc1 : W2.cell? ⟨w.heap.size + 1, 1, none⟩ = some (.pointer (some ⟨w.heap.size, 0, none⟩)) := by rw [← hW2, ← hz1]; exact cel_new W1 _ _ 1 rfl
  have hc2 : W2.cell? ⟨w.heap.size + 1, 2, none⟩ = some (.int .u64 150) := by rw [← hW2, ← hz1]; exact cel_new W1 _ _ 2 rfl
  have hx2 : W2.cell? ⟨w.heap.size, 0, none⟩ = some (.pointer (some ⟨b, 0, none⟩)) := by rw [← hW2]; exact cel_al hx1 _
  have f1 := as_isNil ⟨w.heap.size, 0, none⟩ ⟨b, 0, none⟩ W2 hx2
  have hb2 : W2.heap[b]? = some (.cells #[.int .i64 0, .int .i64 0] 101) := (hB2.block b hbl).trans hb
  have g62 := celB hB2 g6
  have HA := as_ y n b w.heap.size W2 hb2 hx2
  unfold wrongV at HA ⊢
  have HA := Lib.hid HA
  go_enter Tryz.func50, Tryz.ntmps50
  go_wp2_with fail
  refine HA.out.mono ?_
  rintro e W3 ⟨rfl, hg3, hd3⟩
  go_wp2
  go_ret
  exact ⟨rfl, ⟨hg3.os.trans hB2.os, hg3.tape.trans hB2.tape, hg3.output.trans hB2.output, Nat.le_trans hB2.size hg3.size, fun i hi hr => (hg3.block i (Nat.lt_of_lt_of_le hi hB2.size) hr).trans (hB2.block i hi)⟩, hd3⟩

set_option maxHeartbeats 4000000 in
theorem eTold (y n : Int) (w : World) (hG : GW w) :
    Calls Tryz.prog 26 #[wrongV y n] w fun e w' => e = .returned (.tuple #[.int .i64 n, .int .i64 y]) ∧ Below w.heap.size w w' := by
  have hA := As_ y n w.heap.size (w.alloc (.cells #[.int .i64 0, .int .i64 0] 101)) (hG.below (below_one _ _)) (heap_new _ _)
  have HA := Lib.hid hA
  clear hA
  go_enter Tryz.func26, Tryz.ntmps26
  go_wp2_with fail
  refine HA.out.mono ?_
  rintro e W1 ⟨rfl, hg, hd⟩
  have c0 : W1.cell? ⟨w.heap.size, 0, none⟩ = some (.int .i64 y) := by simp [World.cell?, hd]
  have c1 : W1.cell? ⟨w.heap.size, 1, none⟩ = some (.int .i64 n) := by simp [World.cell?, hd]
  have HB : Hid (Below w.heap.size w W1) := Lib.hid ((below_one w (.cells #[.int .i64 0, .int .i64 0] 101)).grown hg (by simp) (fun k hk => by cases hk; exact Nat.le_refl _))
  go_wp2
  go_region
  all_goals go_wp2
  all_goals exact bodyPost_ret (v := .tuple #[.int .i64 n, .int .i64 y]) (by simp [results, Tryz.results26, go_sem]) rfl ⟨rfl, Below.drew HB.out⟩
end Go.Proofs.YtbcjhmeeonhmaaaGreatDoor.H
end
