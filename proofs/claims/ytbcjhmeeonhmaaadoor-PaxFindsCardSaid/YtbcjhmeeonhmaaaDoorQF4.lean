/-
The statement about PaxFinds, as a card: for every argument the law's answer is 'true'. There is no condition.
-/
import Derived.Test.YtbcjhmeeonhmaaaDoorQF3
import Derived.Test.YtbcjhmeeonhmaaaDoorCards
import Derived.Test.YtbcjhmeeonhmaaaDoorTie
import Derived.ProofKit
import Derived.OpenShut
import Derived.Deep.DeepHandedRow
import Derived.Deep.SlicePairs
import Derived.Stop.LaidTwo
import Derived.LaidMore
import Derived.LaidHandle
import Derived.Carry
import Derived.ChangeMaps5
import Derived.Deep.DeepWitnessRowRef
/-
Lists of records: what the law's helpers, pax.Find and the document's Find and Put say.
-/
section
set_option linter.unusedVariables false
set_option maxRecDepth 100000
namespace Go.Proofs.YtbcjhmeeonhmaaaDoor.H
open Go Go.RowKit Go.Proofs.YtbcjhmeeonhmaaaDoorW.PrintWords Go.Proofs.YtbcjhmeeonhmaaaDoorW.PrintMore Go.Proofs.YtbcjhmeeonhmaaaDoor.M

abbrev At := S31
theorem rd_at (l : List At) (i : Nat) (h : i < l.length) : rd_T31 l (i : Int) = l[i] := by
  unfold rd_T31
  rw [Int.toNat_natCast, List.getD_eq_getElem?_getD, List.getElem?_eq_getElem h]; rfl
theorem mn_le (x : Int) (k : Int) : mn x k ≤ k ∧ mn x k ≤ x ∧ (mn x k = x ∨ mn x k = k) := by unfold mn; split <;> omega
/-- A record, cut. -/
def cutA (x : At) : At := ⟨x.f0.extract 0 (min x.f0.size 410), x.f1.extract 0 (min x.f1.size 410)⟩
theorem one_f (x : At) : pleacherlaw09_one.f x.f0 x.f1 = some ((cutA x).f0, (cutA x).f1) := by
  unfold pleacherlaw09_one.f cutA
  have h0 := mn_le (x.f0.size : Int) 410
  have h1 := mn_le (x.f1.size : Int) 410
  rw [if_pos (by omega), if_pos (by omega), if_pos (by omega), if_pos (by omega)]
  have e0 : (mn (x.f0.size : Int) 410).toNat = min x.f0.size 410 := by omega
  have e1 : (mn (x.f1.size : Int) 410).toNat = min x.f1.size 410 := by omega
  rw [e0, e1]
def few (l : List At) : List At := (l.take 32).map cutA
theorem few_len (l : List At) : (few l).length ≤ 32 := by unfold few; rw [List.length_map, List.length_take]; omega
theorem few_small (l : List At) : ∀ x ∈ few l, x.f0.size ≤ 410 ∧ x.f1.size ≤ 410 := by
  intro x hx
  unfold few at hx
  obtain ⟨y, _, rfl⟩ := List.mem_map.1 hx
  unfold cutA
  simp only [ByteArray.size_extract]
  omega
theorem few_l (l : List At) : ∀ (k i : Nat), i ≤ 32 → i ≤ l.length → 32 - i ≤ k → pleacherlaw09_Few.l0 (k + 1) l ((l.take i).map cutA) i = some (few l) := by
  intro k
  induction k with
  | zero =>
    intro i h1 h2 h3
    obtain rfl : i = 32 := by omega
    rw [pleacherlaw09_Few.l0]
    by_cases h : (32 : Int) < (l.length : Int)
    · rw [if_pos (by omega), if_neg (by omega)]; rfl
    · rw [if_neg (by omega)]; rfl
  | succ k ih =>
    intro i h1 h2 h3
    by_cases h : i < l.length
    · by_cases h32 : i < 32
      · rw [pleacherlaw09_Few.l0, if_pos (by omega), if_pos (by omega), if_pos (by omega), rd_at l i h, one_f, Option.bind_some]
        simp only []
        rw [if_pos (by rw [List.length_map, List.length_take]; omega), w64 (by omega) (by omega), show (i : Int) + 1 = ((i + 1 : Nat) : Int) from by omega]
        have e : (l.take i).map cutA ++ [(⟨(cutA l[i]).f0, (cutA l[i]).f1⟩ : At)] = (l.take (i + 1)).map cutA := by
          rw [List.take_add_one, List.getElem?_eq_getElem h, List.map_append]; rfl
        rw [e]
        exact ih (i + 1) (by omega) (by omega) (by omega)
      · obtain rfl : i = 32 := by omega
        rw [pleacherlaw09_Few.l0, if_pos (by omega), if_neg (by omega)]; rfl
    · rw [pleacherlaw09_Few.l0, if_neg (by omega)]
      unfold few
      rw [List.take_of_length_le (by omega), List.take_of_length_le (by omega)]
theorem few_f (l : List At) (k : Nat) (hk : 40 ≤ k) : pleacherlaw09_Few.f k l = some (few l) := by
  obtain ⟨j, rfl⟩ : ∃ j, k = j + 1 := ⟨k - 1, by omega⟩
  exact few_l l j 0 (by omega) (by omega) (by omega)

/-- A name's value. -/
def findS : List At → ByteArray → ByteArray × Bool
  | [], _ => (⟨#[]⟩, false)
  | x :: t, n => if x.f0 = n then (x.f1, true) else findS t n
theorem find_l (l : List At) (n : ByteArray) (hl : l.length ≤ 1073741824) : ∀ (k i m : Nat), i + m = l.length → m ≤ k → pax_Find.l0 (k + 1) n l l.length i = some (findS (l.drop i) n) := by
  intro k
  induction k with
  | zero =>
    intro i m h1 h2
    rw [pax_Find.l0, if_neg (by omega), List.drop_of_length_le (by omega)]; rfl
  | succ k ih =>
    intro i m h1 h2
    by_cases h : i < l.length
    · rw [pax_Find.l0, if_pos (by omega), if_pos (by omega), if_pos (by omega), rd_at l i h, List.drop_eq_getElem_cons h, findS]
      by_cases hn : l[i].f0 = n
      · rw [if_pos (toList_inj.2 hn), if_pos hn]
      · rw [if_neg (fun e => hn (toList_inj.1 e)), if_neg hn, w64 (by omega) (by omega), show (i : Int) + 1 = ((i + 1 : Nat) : Int) from by omega]
        exact ih (i + 1) (m - 1) (by omega) (by omega)
    · rw [pax_Find.l0, if_neg (by omega), List.drop_of_length_le (by omega)]; rfl
theorem find_f (l : List At) (n : ByteArray) (hl : l.length ≤ 1073741824) (k : Nat) (hk : l.length + 1 ≤ k) : pax_Find.f k l n = some (findS l n) := by
  obtain ⟨j, rfl⟩ : ∃ j, k = j + 1 := ⟨k - 1, by omega⟩
  have := find_l l n hl j 0 l.length (by omega) (by omega)
  rw [List.drop_zero] at this
  exact this
theorem rfind_l (l : List At) (n : ByteArray) (hl : l.length ≤ 1073741824) : ∀ (k i m : Nat), i + m = l.length → m ≤ k → pleacherref09_Find.l0 (k + 1) l n i = some (findS (l.drop i) n) := by
  intro k
  induction k with
  | zero =>
    intro i m h1 h2
    rw [pleacherref09_Find.l0, if_neg (by omega), List.drop_of_length_le (by omega)]; rfl
  | succ k ih =>
    intro i m h1 h2
    by_cases h : i < l.length
    · rw [pleacherref09_Find.l0, if_pos (by omega), if_pos (by omega), rd_at l i h, List.drop_eq_getElem_cons h, findS]
      by_cases hn : l[i].f0 = n
      · rw [if_pos (toList_inj.2 hn), if_pos hn]
      · rw [if_neg (fun e => hn (toList_inj.1 e)), if_neg hn, w64 (by omega) (by omega), show (i : Int) + 1 = ((i + 1 : Nat) : Int) from by omega]
        exact ih (i + 1) (m - 1) (by omega) (by omega)
    · rw [pleacherref09_Find.l0, if_neg (by omega), List.drop_of_length_le (by omega)]; rfl
theorem rfind_f (l : List At) (n : ByteArray) (hl : l.length ≤ 1073741824) (k : Nat) (hk : l.length + 1 ≤ k) : pleacherref09_Find.f k l n = some (findS l n) := by
  obtain ⟨j, rfl⟩ : ∃ j, k = j + 1 := ⟨k - 1, by omega⟩
  have := rfind_l l n hl j 0 l.length (by omega) (by omega)
  rw [List.drop_zero] at this
  exact this
theorem findS_iff (l : List At) (n : ByteArray) : (findS l n).2 = true ↔ n ∈ l.map (·.f0) := by
  induction l with
  | nil => simp [findS]
  | cons x t ih =>
    unfold findS
    by_cases h : x.f0 = n
    · rw [if_pos h]; simp [h]
    · rw [if_neg h, ih]; simp; intro e; exact absurd e.symm h

/-! Put -/
theorem putR_long : ∀ (l : List At) (ns : List ByteArray) (acc : ByteArray), 30 < ns.length + l.length → l ≠ [] → putR ns acc l = (⟨#[]⟩, 90)
  | [], _, _, _, h => absurd rfl h
  | x :: t, ns, acc, h, _ => by
    rw [putR_step]
    by_cases h1 : (oneS x.f0 x.f1).2 = 0
    · rw [if_pos h1]
      by_cases h2 : (decide (ns.length + 1 ≤ 30) && decide (x.f0 ∉ ns)) = true
      · rw [if_pos h2]
        have h3 : ns.length + 1 ≤ 30 := by rw [Bool.and_eq_true] at h2; simpa using h2.1
        refine putR_long t _ _ (by simp at h ⊢; omega) ?_
        rintro rfl
        simp at h
        omega
      · rw [if_neg h2]
    · rw [if_neg h1]
theorem rput_l (l : List At) (hl : l.length ≤ 1000) (hs : ∀ x ∈ l, x.f0.size ≤ 1000 ∧ x.f1.size ≤ 1000) : ∀ (k i m : Nat) (acc : ByteArray), i + m = l.length → m ≤ k → acc.size ≤ 810 * i → (l.length ≤ 30 ∨ i = 0) →
    pleacherref09_Put.l0 (k + 1 + l.length) l acc i = some (putR ((l.take i).map (·.f0)) acc (l.drop i)) := by
  intro k
  induction k with
  | zero =>
    intro i m acc h1 h2 _ _
    rw [show 0 + 1 + l.length = l.length + 1 from by omega, pleacherref09_Put.l0, if_neg (by omega), List.drop_of_length_le (by omega)]; rfl
  | succ k ih =>
    intro i m acc h1 h2 ha h30
    by_cases h : i < l.length
    · have hx := hs l[i] (List.getElem_mem _)
      rw [show k + 1 + 1 + l.length = (k + 1 + l.length) + 1 from by omega, pleacherref09_Put.l0, if_pos (by omega), if_pos (by omega), rd_at l i h]
      unfold pleacherref09_One.f
      rw [if_pos ⟨by omega, by omega⟩, Option.bind_some, if_pos (by omega), Int.toNat_natCast, rfind_f _ _ (by rw [List.length_take]; omega) _ (by rw [List.length_take]; omega), Option.bind_some, List.drop_eq_getElem_cons h, putR_step]
      by_cases h0 : (oneS l[i].f0 l[i].f1).2 = 0
      · rw [if_pos h0, if_pos h0]
        have hlen : ((l.take i).map (·.f0)).length = i := by rw [List.length_map, List.length_take]; omega
        by_cases htw : (findS (l.take i) l[i].f0).2 = true
        · have := (findS_iff _ _).1 htw
          rw [if_pos htw, if_neg (by rw [Bool.and_eq_true, decide_eq_true_iff, decide_eq_true_iff]; exact fun e => e.2 this)]
        · have hni : l[i].f0 ∉ (l.take i).map (·.f0) := fun e => htw ((findS_iff _ _).2 e)
          rw [if_neg htw]
          by_cases hlong : 30 < l.length
          · obtain rfl : i = 0 := by omega
            rw [if_pos (by omega)]
            have hp : putR [] acc (l.drop 0) = (⟨#[]⟩, 90) := putR_long _ _ _ (by simp; omega) (by rw [List.drop_zero]; rintro rfl; simp at h)
            rw [List.drop_eq_getElem_cons h, putR_step, if_pos h0] at hp
            rw [← hp]; rfl
          · have hc := oneS_cases l[i].f0 l[i].f1
            have hz : (oneS l[i].f0 l[i].f1).1.size ≤ 810 := by
              rcases hc with hc | hc
              · exact hc.2
              · rw [hc] at h0; cases h0
            rw [if_neg (by omega), if_pos (by omega), w64 (by omega) (by omega), show (i : Int) + 1 = ((i + 1 : Nat) : Int) from by omega,
              ih (i + 1) (m - 1) _ (by omega) (by omega) (by simp only [ByteArray.size_append]; omega) (by omega)]
            have e : (l.take i).map (·.f0) ++ [l[i].f0] = (l.take (i + 1)).map (·.f0) := by
              rw [List.take_add_one, List.getElem?_eq_getElem h, List.map_append]; rfl
            rw [e, if_pos (by rw [Bool.and_eq_true, decide_eq_true_iff, decide_eq_true_iff]; exact ⟨by omega, hni⟩)]
      · rw [if_neg h0, if_neg h0]
    · rw [show k + 1 + 1 + l.length = (k + 1 + l.length) + 1 from by omega, pleacherref09_Put.l0, if_neg (by omega), List.drop_of_length_le (by omega)]; rfl
theorem rput_f (l : List At) (hl : l.length ≤ 1000) (hs : ∀ x ∈ l, x.f0.size ≤ 1000 ∧ x.f1.size ≤ 1000) (k : Nat) (hk : 2001 ≤ k) : pleacherref09_Put.f k l = some (putsS l) := by
  obtain ⟨j, rfl⟩ : ∃ j, k = j + 1 + l.length := ⟨k - 1 - l.length, by omega⟩
  have := rput_l l hl hs j 0 l.length ⟨#[]⟩ (by omega) (by omega) (by decide) (.inr rfl)
  rw [List.drop_zero] at this
  exact this
theorem put_f (l : List At) (hl : l.length ≤ 1073741824) : pax_Put.f l = some (putsS l) := by unfold pax_Put.f; rw [if_pos hl]
end Go.Proofs.YtbcjhmeeonhmaaaDoor.H
end

/-
What the rows of this seat share: what 'laid' gives a walk, the witness' world, arguments opened.
-/
section
set_option linter.unusedVariables false
set_option maxRecDepth 100000
namespace Go.Proofs.YtbcjhmeeonhmaaaDoor.H
open Go Go.ChangeShapes Go.WideShapes Go.ChangeAt Go.RowKit Go.Proofs.YtbcjhmeeonhmaaaDoorW.PrintWords Go.Proofs.YtbcjhmeeonhmaaaDoorW.PrintMore Go.Proofs.YtbcjhmeeonhmaaaDoor.M

theorem own : ownKnob Tryd.prog.godebug = none := by kernel_rfl
theorem gType : Tryd.prog.globalNamed "errors.errorType" = some 0 := by kernel_rfl
theorem gBase : Tryd.prog.globalNamed "pleacher/num.errBase" = some 1 := by kernel_rfl
theorem gNum : Tryd.prog.globalNamed "pleacher/num.errNum" = some 2 := by kernel_rfl
theorem gBaseT : (Tryd.prog.globals[1]?).map (·.type) = some 45 := by kernel_rfl
theorem gNumT : (Tryd.prog.globals[2]?).map (·.type) = some 45 := by kernel_rfl
theorem rtT : (Tryd.prog.cutTypes.find? (·.1 == "internal/reflectlite.rtype")).map (·.2) = some 124 := by kernel_rfl
theorem sizeT : Tryd.prog.types.size = 211 := by kernel_rfl
theorem oneErr : ((List.range 211).filter fun t => Tryd.prog.rowNamed t [101, 114, 114, 111, 114]) = [45] := by kernel_rfl
theorem laidTwo {W : World} (h : laidMetH Tryd.prog Rows.paxPutsRow.laid W) : laidMet Tryd.prog [("pleacher/num.errBase", Rows.laid_pleacher_num_errBase), ("pleacher/num.errNum", Rows.laid_pleacher_num_errNum)] W ∧ handlesMet Tryd.prog [("errors.errorType", Rows.laid_errors_errorType)] W := h

theorem cellsE : Tryd.prog.cellsOf 199 = 1 := by kernel_rfl
theorem cellsS : Tryd.prog.cellsOf 9 = 1 := by kernel_rfl
theorem starE : "*" ++ "errors.errorString" = "*errors.errorString" := by decide
theorem rowE (u : TypeId) (h : Tryd.prog.typeName? 3 u = some "*errors.errorString") : u = 179 :=
  typeName_ptr_named (nm := "errors.errorString") (by rw [starE]; kernel_rfl) (by kernel_rfl) (by decide) u (by rw [starE]; exact h)
/-- WHAT 'laid' GIVES: the two sentinels, and the type's handle. -/
theorem gw_of_laid {W : World} (h : laidMetH Tryd.prog Rows.paxPutsRow.laid W) : GW W := by
  obtain ⟨h1, h2⟩ := laidTwo h
  obtain ⟨a0, a1, s0, s1, c0, c1, t0, t1, v0, v1, _, _, _, _, _, _, hne, b0, b1⟩ := Go.laid_sentinels2 h1 gBase gBaseT gNum gNumT Tryd.underlying45 rowE Tryd.underlying179 Tryd.underlying199 rfl rfl Tryd.underlying9 cellsE cellsS
  obtain ⟨name, u, ty, e1, e2, e3, e4, e5⟩ := h2 _ (List.mem_singleton.2 rfl)
  have en : name = [101, 114, 114, 111, 114] := (Option.some.inj e1).symm
  subst en
  obtain rfl := Option.some.inj (rtT.symm.trans e2)
  have hm : ty ∈ (List.range 211).filter fun t => Tryd.prog.rowNamed t [101, 114, 114, 111, 114] := List.mem_filter.2 ⟨List.mem_range.2 (by rw [← sizeT]; exact e3), e4⟩
  rw [oneErr] at hm
  obtain rfl := List.mem_singleton.1 hm
  have hh : typeHandle Tryd.prog 45 = .pointer (some ⟨4, 45, none⟩) := by kernel_rfl
  rw [hh] at e5
  exact ⟨a0, a1, c0, c1, t0, t1, by simpa using World.var?_cell gBase v0 0, by simpa using World.var?_cell gNum v1 0, hne, b0, b1, by simpa using World.var?_cell gType e5 0⟩
/-- A WORLD FOR THE WITNESS: as the program's own start lays the three. -/
theorem door_met (os : Os) (args : Array Value) : laidMetH Tryd.prog Rows.paxPutsRow.laid ((World.doorLaid Tryd.prog 54 os).forCall (fun _ _ => 0) ⟨#[], args, []⟩).memory :=
  laidMetH_of_parts (laidMet_of_run' 8 (by kernel_rfl) (by kernel_rfl)) (by kernel_rfl)

theorem cellsA31 : Tryd.prog.cellsOf 31 = 2 := by kernel_rfl
theorem laidOutA : laidOutB Tryd.prog = true := by kernel_rfl
instance : Inhabited At := ⟨z31⟩
/-- AN ARGUMENT OF RECORDS: what a walk reads. -/
theorem open_attrs {H : Type} {enc : TypeId × Value → H} {w : World} {v : Value} {d : DataW H} {ps : List MemPlace} {b0 : Nat} {r : Reach} (hv : Value.okWide Tryd.prog w r b0 23 v) (h : DataW.Trod enc Tryd.prog w 0 (fun _ => true) true 23 v d ps) :
    ∃ (A : Option Addr) (c : Nat) (l : List At), v = .slice A l.length c ∧ l.length ≤ c ∧ Kd.C k31 w A l.length l := by
  obtain ⟨a, len, cap, rfl⟩ := okWide_slice Tryd.underlying23 hv
  obtain ⟨n, hn⟩ := h
  rcases Go.Deep.open_slice_pairs Tryd.underlying23 Tryd.underlying31 cellsA31 rfl rfl cellsS cellsS hn with ⟨hc, hx⟩ | ⟨a', len', cap', m, k, V0, V1, D0, D1, P0, P1, hc, _, hl, hm, hmm, hx, hall⟩
  · injection hc with hc _
    injection hc with h1 h2 h3
    subst h1 h2 h3
    exact ⟨none, 0, [], rfl, Nat.le_refl _, rfl, by decide, fun h => by cases h⟩
  · injection hc with hc _
    injection hc with h1 h2 h3
    subst h1 h2 h3
    have hlm : len ≤ m := by rw [hmm]; split <;> omega
    have each : ∀ i, i < len → ∃ q : At, w.cell? (a'.add (i * 2)) = some (.string q.f0) ∧ w.cell? (a'.add (i * 2 + 1)) = some (.string q.f1) := by
      intro i hi
      obtain ⟨g0, g1, t0, t1⟩ := hall i (by omega)
      obtain ⟨s0, e0, _⟩ := DataW.trod_string Tryd.underlying9 t0
      obtain ⟨s1, e1, _⟩ := DataW.trod_string Tryd.underlying9 t1
      injection e0 with e0 _
      injection e1 with e1 _
      exact ⟨⟨s0, s1⟩, by rw [g0, e0], by rw [g1, e1]⟩
    obtain ⟨q, hq⟩ := Go.Deep.choose_lt each
    have hlen : ((List.range len).map q).length = len := by simp
    refine ⟨some a', cap, (List.range len).map q, by rw [hlen], by rw [hlen]; exact hl, ?_⟩
    rw [hlen]
    refine ⟨hlen, by have : maxLen ≤ 9223372036854775807 := by { unfold maxLen; decide }
                     omega, fun _ => ⟨a', rfl, fun j p hj => ?_⟩⟩
    have hjl : j < len := by
      have := (List.getElem?_eq_some_iff.1 hj).1
      omega
    have hp : q j = p := by
      rw [List.getElem?_map, List.getElem?_range hjl] at hj
      exact Option.some.inj hj
    obtain ⟨g0, g1⟩ := hq j hjl
    rw [hp] at g0 g1
    refine ⟨[.string p.f0, .string p.f1], rfl, k31_mk w p, fun i u hu => ?_⟩
    match i, hu with
    | 0, hu => simp at hu; subst hu; exact g0
    | 1, hu => simp at hu; subst hu; exact g1
    | i + 2, hu => simp at hu
/-- POST where nothing below the old heap's end has turned, and 'true' is handed back. -/
theorem post_true {H : Type} {enc : TypeId × Value → H} {f : Func} {s : ChangeSpec} {apart fresh handsOn : Bool} {W W' : World} {args : Array Value} {ds gs : List (DataW H)} {before pa : List MemPlace}
    (hW : DataW.Whole enc Tryd.prog f.params.toList s.vars apart W args.toList ds gs before) (hvars : s.vars = []) (hr : f.resultTypes = #[4])
    (hfn : (s.fn H (ds ++ gs)).results = [.lit (.bool true)] ∧ (s.fn H (ds ++ gs)).args = ds ∧ (s.fn H (ds ++ gs)).vars = [])
    (hargs : DataW.TrodAll enc Tryd.prog W' 0 (fun b => decide (b < W.heap.size)) true f.params.toList args.toList ds pa) (hb : Below W.heap.size W W') (hpa : before = pa) :
    s.post enc Tryd.prog f apart fresh handsOn false W args (.bool true) W' := by
  refine ⟨ds, gs, before, [], pa, [], hW, ?_, ?_, ?_, hb.frame _, fun h => by cases h⟩
  · rw [hr, hfn.1]
    exact trodAll_cons_mk (shut_bool Tryd.underlying4 _) trodAll_mk0
  · rw [hfn.2.1]; exact hargs
  · rw [hvars, hfn.2.2]; rfl

theorem readA : Tryd.prog.readableRec 23 = true := by kernel_rfl
theorem readS : Tryd.prog.readableRec 9 = true := by kernel_rfl
theorem rowsA : 23 < Tryd.prog.types.size := by rw [sizeT]; decide
theorem rowsS : 9 < Tryd.prog.types.size := by rw [sizeT]; decide
/-- The witness' arguments: records, and a text. -/
def wargs : Array Value := #[.slice none 0 0, .string ⟨#[]⟩]
end Go.Proofs.YtbcjhmeeonhmaaaDoor.H
end

/-
Put, told in plain words.
-/
section
set_option linter.unusedVariables false
set_option maxRecDepth 100000
namespace Go.Proofs.YtbcjhmeeonhmaaaDoor.H
open Go Go.RowKit Go.Proofs.YtbcjhmeeonhmaaaDoorW.PrintWords Go.Proofs.YtbcjhmeeonhmaaaDoorW.PrintMore Go.Proofs.YtbcjhmeeonhmaaaDoor.M
theorem putR_err : ∀ (l : List At) (ns : List ByteArray) (acc : ByteArray), (putR ns acc l).2 = 0 ∨ putR ns acc l = (⟨#[]⟩, 90)
  | [], _, _ => .inl rfl
  | x :: t, ns, acc => by
    rw [putR_step]
    by_cases h1 : (oneS x.f0 x.f1).2 = 0
    · rw [if_pos h1]
      by_cases h2 : (decide (ns.length + 1 ≤ 30) && decide (x.f0 ∉ ns)) = true
      · rw [if_pos h2]; exact putR_err t _ _
      · rw [if_neg h2]; right; rfl
    · rw [if_neg h1]; right; rfl
/-- Where Put is well, the names are apart and few, and each is a record; and its bytes are theirs. -/
theorem putR_iff : ∀ (l : List At) (ns : List ByteArray) (acc : ByteArray), (putR ns acc l).2 = 0 ↔ (∀ x ∈ l, (oneS x.f0 x.f1).2 = 0) ∧ (l = [] ∨ ns.length + l.length ≤ 30) ∧ (l.map (·.f0)).Nodup ∧ (∀ x ∈ l, x.f0 ∉ ns)
  | [], ns, acc => by simp [putR]
  | x :: t, ns, acc => by
    rw [putR_step]
    by_cases h1 : (oneS x.f0 x.f1).2 = 0
    · rw [if_pos h1]
      by_cases h2 : (decide (ns.length + 1 ≤ 30) && decide (x.f0 ∉ ns)) = true
      · rw [if_pos h2, putR_iff t]
        rw [Bool.and_eq_true, decide_eq_true_iff, decide_eq_true_iff] at h2
        constructor
        · rintro ⟨a, b, c, d⟩
          refine ⟨fun y hy => ?_, .inr ?_, ?_, fun y hy => ?_⟩
          · rcases List.mem_cons.1 hy with rfl | hy
            · exact h1
            · exact a y hy
          · rcases b with rfl | b
            · simp; omega
            · simp at b ⊢; omega
          · simp only [List.map_cons, List.nodup_cons]
            refine ⟨fun e => ?_, c⟩
            obtain ⟨y, hy, e⟩ := List.mem_map.1 e
            exact d y hy (by rw [e]; simp)
          · rcases List.mem_cons.1 hy with rfl | hy
            · exact h2.2
            · exact fun e => d y hy (List.mem_append_left _ e)
        · rintro ⟨a, b, c, d⟩
          simp only [List.map_cons, List.nodup_cons] at c
          refine ⟨fun y hy => a y (List.mem_cons_of_mem _ hy), ?_, c.2, fun y hy e => ?_⟩
          · rcases b with b | b
            · cases b
            · right; simp at b ⊢; omega
          · rcases List.mem_append.1 e with e | e
            · exact d y (List.mem_cons_of_mem _ hy) e
            · exact c.1 (List.mem_map.2 ⟨y, hy, List.mem_singleton.1 e⟩)
      · rw [if_neg h2]
        rw [Bool.and_eq_true, decide_eq_true_iff, decide_eq_true_iff] at h2
        constructor
        · intro e; cases e
        · rintro ⟨a, b, c, d⟩
          exact absurd ⟨by rcases b with b | b; cases b; simp at b; omega, d x (List.mem_cons_self ..)⟩ h2
    · rw [if_neg h1]
      constructor
      · intro e; cases e
      · rintro ⟨a, _⟩; exact absurd (a x (List.mem_cons_self ..)) h1
theorem findS_nodup (l : List At) (h : (l.map (·.f0)).Nodup) : ∀ x ∈ l, findS l x.f0 = (x.f1, true) := by
  induction l with
  | nil => intro x hx; cases hx
  | cons y t ih =>
    simp only [List.map_cons, List.nodup_cons] at h
    intro x hx
    unfold findS
    rcases List.mem_cons.1 hx with rfl | hx
    · rw [if_pos rfl]
    · by_cases e : y.f0 = x.f0
      · exact absurd (List.mem_map.2 ⟨x, hx, e.symm⟩) h.1
      · rw [if_neg e]; exact ih h.2 x hx
theorem findS_no (l : List At) (n : ByteArray) (h : (findS l n).2 = false) : (findS l n).1 = ⟨#[]⟩ := by
  induction l with
  | nil => rfl
  | cons y t ih =>
    unfold findS at h ⊢
    by_cases e : y.f0 = n
    · rw [if_pos e] at h; cases h
    · rw [if_neg e] at h ⊢; exact ih h
theorem putR_app : ∀ (l m : List At) (ns : List ByteArray) (acc : ByteArray), (putR ns acc l).2 = 0 → putR ns acc (l ++ m) = putR (ns ++ l.map (·.f0)) (putR ns acc l).1 m
  | [], m, ns, acc, _ => by simp [putR]
  | x :: t, m, ns, acc, h => by
    rw [putR_step] at h
    rw [List.cons_append, putR_step, putR_step]
    by_cases h1 : (oneS x.f0 x.f1).2 = 0
    · rw [if_pos h1] at h
      rw [if_pos h1, if_pos h1]
      by_cases h2 : (decide (ns.length + 1 ≤ 30) && decide (x.f0 ∉ ns)) = true
      · rw [if_pos h2] at h
        rw [if_pos h2, if_pos h2, putR_app t m _ _ h, List.map_cons, List.append_assoc]; rfl
      · rw [if_neg h2] at h; cases h
    · rw [if_neg h1] at h; cases h
theorem putR_acc : ∀ (l : List At) (ns ns' : List ByteArray) (acc : ByteArray), (putR ns acc l).2 = 0 → (putR ns' ⟨#[]⟩ l).2 = 0 → (putR ns acc l).1 = acc ++ (putR ns' ⟨#[]⟩ l).1 := by
  have gen : ∀ (l : List At) (ns ns' : List ByteArray) (acc acc' : ByteArray), (putR ns acc l).2 = 0 → (putR ns' acc' l).2 = 0 → ∃ u, (putR ns acc l).1 = acc ++ u ∧ (putR ns' acc' l).1 = acc' ++ u := by
    intro l
    induction l with
    | nil => intro ns ns' acc acc' _ _; exact ⟨⟨#[]⟩, (ByteArray.append_empty (b := acc)).symm, (ByteArray.append_empty (b := acc')).symm⟩
    | cons x t ih =>
      intro ns ns' acc acc' h h'
      rw [putR_step] at h h' ⊢
      rw [putR_step]
      by_cases h1 : (oneS x.f0 x.f1).2 = 0
      · rw [if_pos h1] at h h' ⊢
        rw [if_pos h1]
        by_cases h2 : (decide (ns.length + 1 ≤ 30) && decide (x.f0 ∉ ns)) = true
        · rw [if_pos h2] at h ⊢
          by_cases h3 : (decide (ns'.length + 1 ≤ 30) && decide (x.f0 ∉ ns')) = true
          · rw [if_pos h3] at h' ⊢
            obtain ⟨u, e1, e2⟩ := ih _ _ _ _ h h'
            exact ⟨(oneS x.f0 x.f1).1 ++ u, by rw [e1, ByteArray.append_assoc], by rw [e2, ByteArray.append_assoc]⟩
          · rw [if_neg h3] at h'; cases h'
        · rw [if_neg h2] at h; cases h
      · rw [if_neg h1] at h; cases h
  intro l ns ns' acc h h'
  obtain ⟨u, e1, e2⟩ := gen l ns ns' acc ⟨#[]⟩ h h'
  rw [e1, e2, show (⟨#[]⟩ : ByteArray) ++ u = u from ByteArray.empty_append]
theorem nil_toList : (⟨#[]⟩ : ByteArray).toList = [] := (nil_iff _).2 rfl
theorem puts_size : ∀ (l : List At) (ns : List ByteArray) (acc : ByteArray), (putR ns acc l).1.size ≤ acc.size + 810 * l.length
  | [], _, acc => by simp [putR]
  | x :: t, ns, acc => by
    rw [putR_step]
    have e0 : (⟨#[]⟩ : ByteArray).size = 0 := rfl
    by_cases h1 : (oneS x.f0 x.f1).2 = 0
    · rw [if_pos h1]
      by_cases h2 : (decide (ns.length + 1 ≤ 30) && decide (x.f0 ∉ ns)) = true
      · rw [if_pos h2]
        have := puts_size t (ns ++ [x.f0]) (acc ++ (oneS x.f0 x.f1).1)
        have hc := oneS_cases x.f0 x.f1
        have hz : (oneS x.f0 x.f1).1.size ≤ 810 := by
          rcases hc with hc | hc
          · exact hc.2
          · rw [hc] at h1; cases h1
        simp only [ByteArray.size_append, List.length_cons] at this ⊢
        omega
      · rw [if_neg h2]; simp only [e0]; omega
    · rw [if_neg h1]; simp only [e0]; omega
end Go.Proofs.YtbcjhmeeonhmaaaDoor.H
end

-- Laid by a program of this session for this claim.
section
namespace Go.Proofs.YtbcjhmeeonhmaaaDoor.M
open Go.RowKit Go.Proofs.YtbcjhmeeonhmaaaDoorW.PrintWords Go.Proofs.YtbcjhmeeonhmaaaDoorW.PrintLast Go.Proofs.YtbcjhmeeonhmaaaDoorW.PrintMore
attribute [local go_sem] max2_int min2_int max_two min_two max_three min_three max_four min_four   -- for this text's walks alone
set_option linter.unusedVariables false
set_option linter.unusedSimpArgs false

/-! ### pleacherlaw09_PaxFinds: function 8 -/
def pleacherlaw09_PaxFinds.l0 : Nat → List (S31) → ByteArray → Bool → Int → Bool → Int → Option (Bool)
  | 0, _, _, _, _, _, _ => none
  | k + 1, x0, x1, x5, x7, x8, x9 => if x9 < (x0.length : Int) then (if 0 ≤ x9 then ((pax_Find.f k x0 ((rd_T31 x0 x9).f0)).bind fun bt336 => (if x7 = 0 then (if bt336.2 = true then (if bt336.1.toList = ((rd_T31 x0 x9).f1).toList then (if x8 = true then (pleacherlaw09_PaxFinds.l0 k x0 x1 x5 x7 true (wrap64 (x9 + 1))) else (pleacherlaw09_PaxFinds.l0 k x0 x1 x5 x7 (((rd_T31 x0 x9).f0).toList == x1.toList) (wrap64 (x9 + 1)))) else (some false)) else (some false)) else (if x8 = true then (pleacherlaw09_PaxFinds.l0 k x0 x1 x5 x7 true (wrap64 (x9 + 1))) else (pleacherlaw09_PaxFinds.l0 k x0 x1 x5 x7 (((rd_T31 x0 x9).f0).toList == x1.toList) (wrap64 (x9 + 1)))))) else (none)) else ((pax_Find.f k x0 x1).bind fun bt341 => (if x5 = true then (if (bt341.2 == x8) = true then (if bt341.2 = true then (some true) else (some (bt341.1.toList == ([] : List UInt8)))) else (some false)) else (some false)))
def pleacherlaw09_PaxFinds.f (k : Nat) (l0 : List (S31)) (a1 : ByteArray) : Option (Bool) := (pleacherlaw09_shown.f).bind fun t329 => ((pleacherlaw09_Few.f k l0).bind fun t330 => ((pax_Put.f t330).bind fun bt333 => (pleacherlaw09_PaxFinds.l0 k t330 a1 t329 bt333.2 false 0)))
theorem pleacherlaw09_PaxFinds.mono_l : ∀ k, (∀ y0 y1 y2 y3 y4 y5, LeO (pleacherlaw09_PaxFinds.l0 k y0 y1 y2 y3 y4 y5) (pleacherlaw09_PaxFinds.l0 (k + 1) y0 y1 y2 y3 y4 y5))
  | 0 => fun _ _ _ _ _ _ r h => by simp [pleacherlaw09_PaxFinds.l0] at h
  | k + 1 => by
    have ih0 := pleacherlaw09_PaxFinds.mono_l k
    · intro y0 y1 y2 y3 y4 y5
      unfold pleacherlaw09_PaxFinds.l0
      repeat' first
      | (with_reducible exact ih0 _ _ _ _ _ _)
      | (with_reducible exact pax_Find.mono _ _ _)
      | (with_reducible exact pleacherlaw09_Few.mono _ _)
      | (with_reducible exact LeO.refl _)
      | (with_reducible exact LeO.none _)
      | (with_reducible refine LeO.ite ?_ ?_)
      | (with_reducible refine LeO.bind ?_ (fun _ => ?_))
      | exact ih0 _ _ _ _ _ _
      | exact pax_Find.mono _ _ _
      | exact pleacherlaw09_Few.mono _ _
      | exact LeO.none _
      | refine LeO.ite ?_ ?_
      | refine LeO.bind ?_ (fun _ => ?_)
theorem pleacherlaw09_PaxFinds.mono : ∀ a0 a1 k, LeO (pleacherlaw09_PaxFinds.f k a0 a1) (pleacherlaw09_PaxFinds.f (k + 1) a0 a1) := by
  intro a0 a1 k
  have ih0 := pleacherlaw09_PaxFinds.mono_l k
  unfold pleacherlaw09_PaxFinds.f
  repeat' first
      | (with_reducible exact ih0 _ _ _ _ _ _)
      | (with_reducible exact pax_Find.mono _ _ _)
      | (with_reducible exact pleacherlaw09_Few.mono _ _)
      | (with_reducible exact LeO.refl _)
      | (with_reducible exact LeO.none _)
      | (with_reducible refine LeO.ite ?_ ?_)
      | (with_reducible refine LeO.bind ?_ (fun _ => ?_))
      | exact ih0 _ _ _ _ _ _
      | exact pax_Find.mono _ _ _
      | exact pleacherlaw09_Few.mono _ _
      | exact LeO.none _
      | refine LeO.ite ?_ ?_
      | refine LeO.bind ?_ (fun _ => ?_)
set_option maxHeartbeats 8000000 in
set_option maxRecDepth 100000 in
theorem pleacherlaw09_PaxFinds.calls (k : Nat) (A0 : Option Addr) (c0 : Nat) (l0 : List (S31)) (a1 : ByteArray) (r : Bool) (w : World) (hr0 : Kd.C k31 w A0 l0.length l0) (hc0 : l0.length ≤ c0) (hG : GW w) (h : pleacherlaw09_PaxFinds.f k l0 a1 = some r) :
    Calls Tryd.prog 8 #[.slice A0 l0.length c0, .string a1] w fun e w' => e = .returned (.bool r) ∧ Below w.heap.size w w' := by
  have HG := Aside0.mk hG
  clear hG
  have HR0 := Aside0.mk hr0
  have HC0 := Aside0.mk hc0
  clear hr0 hc0
  have HB := Aside0.mk (Below.refl w.heap.size w)
  have H : ((pleacherlaw09_shown.f).bind fun t329 => ((pleacherlaw09_Few.f k l0).bind fun t330 => ((pax_Put.f t330).bind fun bt333 => (pleacherlaw09_PaxFinds.l0 k t330 a1 t329 bt333.2 false 0)))) = some r := h
  clear h
  replace H := Option.bind_eq_some_iff.mp H
  obtain ⟨t329, A30, H⟩ := H
  replace H : ((pleacherlaw09_Few.f k l0).bind fun t330 => ((pax_Put.f t330).bind fun bt333 => (pleacherlaw09_PaxFinds.l0 k t330 a1 t329 bt333.2 false 0))) = some r := H
  have A3 := Aside0.mk A30
  clear A30
  replace H := Option.bind_eq_some_iff.mp H
  obtain ⟨t330, A40, H⟩ := H
  replace H : ((pax_Put.f t330).bind fun bt333 => (pleacherlaw09_PaxFinds.l0 k t330 a1 t329 bt333.2 false 0)) = some r := H
  have A4 := Aside0.mk A40
  clear A40
  replace H := Option.bind_eq_some_iff.mp H
  obtain ⟨⟨t333, t334⟩, A50, H⟩ := H
  replace H : (pleacherlaw09_PaxFinds.l0 k t330 a1 t329 t334 false 0) = some r := H
  have A5 := Aside0.mk A50
  clear A50
  have H' := Aside0.mk H
  clear H
  go_enter Tryd.func8, Tryd.ntmps8
  go_wp2_with (first | ((with_reducible refine gate_callee (f := 9) rfl ?_); refine goesL_ (some 14) rfl rfl Tryd.func9 (by kernel_rfl) rfl #[] rfl (by (try simp only [List.map_toArray, List.map_cons, List.map_nil]); first | done | rfl | (simp only [List.length_drop, List.length_take]; rfl)) ?_; (with_reducible refine (pleacherlaw09_shown.calls  t329 _ ?side1 A3.out).mono ?_); (case side1 => exact GW.below HG.out (by repeat (first | (with_reducible first | exact HB.out | apply below_alloc | apply pw_below_drewN | apply below_drew1) | exact HB.out))); rintro e w6 ⟨rfl, hb⟩; refine ⟨_, rfl, ?_⟩; have n0_ := Aside0.mk (below_step (by repeat (first | (with_reducible first | exact HB.out | apply below_alloc | apply pw_below_drewN | apply below_drew1) | exact HB.out)) hb); clear HB; have HB := n0_; clear n0_; (try clear hb); (try clear hb2); (try clear hk); (try clear hi)) | ((with_reducible refine gate_callee (f := 16) rfl ?_); refine goesL_ (some 16) rfl rfl Tryd.func16 (by kernel_rfl) rfl #[.slice A0 l0.length c0] rfl (by (try simp only [List.map_toArray, List.map_cons, List.map_nil]); first | done | rfl | (simp only [List.length_drop, List.length_take]; rfl)) ?_; (with_reducible refine (pleacherlaw09_Few.calls k _ _ l0 t330 _ ?side1 ?side2 A4.out).mono ?_); (case side1 => repeat (first | exact (Kd.C_below HR0.out HB.out) | (with_reducible refine Kd.C_alloc ?_ _) | (with_reducible refine Kd.C_drewN ?_ _) | (with_reducible refine Kd.C_drew ?_))); (case side2 => exact HC0.out); rintro e w7 ⟨v331, rfl, ho0, hb⟩; refine ⟨_, rfl, ?_⟩; have n0_ := Aside0.mk (Kd.R_lower ho0 (below_size (by repeat (first | (with_reducible first | exact HB.out | apply below_alloc | apply pw_below_drewN | apply below_drew1) | exact HB.out)))); have n1_ := Aside0.mk (below_step (by repeat (first | (with_reducible first | exact HB.out | apply below_alloc | apply pw_below_drewN | apply below_drew1) | exact HB.out)) hb); clear HB; have HO332 := n0_; have HB := n1_; clear n0_ n1_; (try clear hb); (try clear hb2); (try clear hk); (try clear hi); (try clear ho0); obtain ⟨Ao8, co8, eo8⟩ := Kd.R_slice HO332.out; subst eo8) | ((with_reducible refine gate_callee (f := 17) rfl ?_); refine goesL_ (some 19) rfl rfl Tryd.func17 (by kernel_rfl) rfl #[.slice Ao8 t330.length co8] rfl (by (try simp only [List.map_toArray, List.map_cons, List.map_nil]); first | done | rfl | (simp only [List.length_drop, List.length_take]; rfl)) ?_; (with_reducible refine (pax_Put.calls _ _ t330 t333 t334 _ ?side1 ?side2 A5.out).mono ?_); (case side1 => repeat (first | exact (Kd.R_reads' HO332.out).2.2 | (with_reducible refine Kd.C_alloc ?_ _) | (with_reducible refine Kd.C_drewN ?_ _) | (with_reducible refine Kd.C_drew ?_))); (case side2 => exact (Kd.R_reads' HO332.out).2.1); rintro e w9 ⟨rfl, hb⟩; refine ⟨_, rfl, ?_⟩; have n0_ := Aside0.mk (Kd.R_below (by (with_reducible repeat (first | apply Kd.R_alloc | apply Kd.R_drewN | apply Kd.R_drew)); exact HO332.out) hb); have n1_ := Aside0.mk (below_step (by repeat (first | (with_reducible first | exact HB.out | apply below_alloc | apply pw_below_drewN | apply below_drew1) | exact HB.out)) hb); clear HO332; clear HB; have HO332 := n0_; have HB := n1_; clear n0_ n1_; (try clear hb); (try clear hb2); (try clear hk); (try clear hi)))
  go_loopg [8, 9] k (fun kq v8 v9 w' => ∃ (x8_1 : Bool) (x9_1 : Int), v8 = .bool x8_1 ∧ v9 = .int .i64 x9_1 ∧ Aside0 (pleacherlaw09_PaxFinds.l0 kq t330 a1 t329 t334 x8_1 x9_1 = some r) ∧ Aside0 (kq ≤ k) ∧ Aside0 (Kd.R k31 31 w' w.heap.size (fun _ => True) (.slice Ao8 t330.length co8) t330) ∧ Aside0 (Below w.heap.size w w'))
  case atStart => exact ⟨(false), (0), (by first | rfl | (simp; done) | (simp [*]; done)), (by first | rfl | (simp; done) | (simp [*]; done)), H', ⟨Nat.le_refl _⟩, ⟨by (with_reducible repeat (first | apply Kd.R_alloc | apply Kd.R_drewN | apply Kd.R_drew)); exact HO332.out⟩, ⟨by repeat (first | (with_reducible first | exact HB.out | apply below_alloc | apply pw_below_drewN | apply below_drew1) | exact HB.out)⟩⟩
  case round =>
    clear H'
    try clear c1
    try clear p2
    try clear c8
    try clear c9
    obtain ⟨x8_1, x9_1, rfl, rfl, HA, HK1, HO_0, HB⟩ := hrel
    cases gk with
    | zero => exact absurd HA.out (by simp [pleacherlaw09_PaxFinds.l0])
    | succ k1 =>
      have H := HA.out
      clear HA
      simp only [pleacherlaw09_PaxFinds.l0] at H
      by_cases c10 : x9_1 < (t330.length : Int)
      · rw [if_pos c10] at H
        have c10b0 : decide (x9_1 < (t330.length : Int)) = true := decide_eq_true c10
        clear c10
        by_cases c11 : 0 ≤ x9_1
        · rw [if_pos c11] at H
          have c11b0 : decide (0 ≤ x9_1) = true := decide_eq_true c11
          clear c11
          replace H := Option.bind_eq_some_iff.mp H
          obtain ⟨⟨t336, t337⟩, A120, H⟩ := H
          replace H : (if t334 = 0 then (if t337 = true then (if t336.toList = ((rd_T31 t330 x9_1).f1).toList then (if x8_1 = true then (pleacherlaw09_PaxFinds.l0 k1 t330 a1 t329 t334 true (wrap64 (x9_1 + 1))) else (pleacherlaw09_PaxFinds.l0 k1 t330 a1 t329 t334 (((rd_T31 t330 x9_1).f0).toList == a1.toList) (wrap64 (x9_1 + 1)))) else (some false)) else (some false)) else (if x8_1 = true then (pleacherlaw09_PaxFinds.l0 k1 t330 a1 t329 t334 true (wrap64 (x9_1 + 1))) else (pleacherlaw09_PaxFinds.l0 k1 t330 a1 t329 t334 (((rd_T31 t330 x9_1).f0).toList == a1.toList) (wrap64 (x9_1 + 1))))) = some r := H
          have A12 := Aside0.mk A120
          clear A120
          by_cases c13 : t334 = 0
          · rw [if_pos c13] at H
            have c13b0 : (t334 == 0) = true := beq_iff_eq.mpr c13
            have c13b1 : (t334 != 0) = false := bne_eq_false_iff_eq.mpr c13
            clear c13
            by_cases c14 : t337 = true
            · subst c14
              have H1 : (if t336.toList = ((rd_T31 t330 x9_1).f1).toList then (if x8_1 = true then (pleacherlaw09_PaxFinds.l0 k1 t330 a1 t329 t334 true (wrap64 (x9_1 + 1))) else (pleacherlaw09_PaxFinds.l0 k1 t330 a1 t329 t334 (((rd_T31 t330 x9_1).f0).toList == a1.toList) (wrap64 (x9_1 + 1)))) else (some false)) = some r := by rw [if_pos rfl] at H; exact H
              clear H
              have H := H1
              clear H1
              by_cases c15 : t336.toList = ((rd_T31 t330 x9_1).f1).toList
              · rw [if_pos c15] at H
                have c15b0 : (t336.toList == ((rd_T31 t330 x9_1).f1).toList) = true := beq_iff_eq.mpr c15
                have c15b1 : (t336.toList != ((rd_T31 t330 x9_1).f1).toList) = false := bne_eq_false_iff_eq.mpr c15
                clear c15
                by_cases c16 : x8_1 = true
                · subst c16
                  have H1 : (pleacherlaw09_PaxFinds.l0 k1 t330 a1 t329 t334 true (wrap64 (x9_1 + 1))) = some r := by rw [if_pos rfl] at H; exact H
                  clear H
                  have H := H1
                  clear H1
                  have H' := Aside0.mk H
                  clear H
                  have p335 : 0 ≤ (x9_1 : Int) := of_decide_eq_true (by first | (with_reducible assumption) | assumption)
                  have q335 : x9_1 < (t330.length : Int) := of_decide_eq_true (by first | (with_reducible assumption) | assumption)
                  obtain ⟨ad335, e335, hx335_0, hx335_1⟩ := at_T31 (Kd.R_reads' HO_0.out).2.2 x9_1 p335 q335
                  cases e335
                  replace p335 := eq_true p335
                  replace q335 := eq_true q335
                  go_wp2_with (first | ((with_reducible refine gate_callee (f := 20) rfl ?_); refine goesL_ (some 35) rfl rfl Tryd.func20 (by kernel_rfl) rfl #[.slice (some ad335) t330.length co8, .string ((rd_T31 t330 x9_1).f0)] rfl (by (try simp only [List.map_toArray, List.map_cons, List.map_nil]); first | done | rfl | (simp only [List.length_drop, List.length_take]; rfl)) ?_; (with_reducible refine (pax_Find.calls k1 _ _ t330 ((rd_T31 t330 x9_1).f0) t336 true _ ?side1 ?side2 A12.out).mono ?_); (case side1 => repeat (first | exact (Kd.R_reads' HO_0.out).2.2 | (with_reducible refine Kd.C_alloc ?_ _) | (with_reducible refine Kd.C_drewN ?_ _) | (with_reducible refine Kd.C_drew ?_))); (case side2 => exact (Kd.R_reads' HO_0.out).2.1); rintro e w17 ⟨rfl, hb⟩; refine ⟨_, rfl, ?_⟩; have n0_ := Aside0.mk (Kd.R_below (by (with_reducible repeat (first | apply Kd.R_alloc | apply Kd.R_drewN | apply Kd.R_drew)); exact HO_0.out) hb); have n1_ := Aside0.mk (below_step (by repeat (first | (with_reducible first | exact HB.out | apply below_alloc | apply pw_below_drewN | apply below_drew1) | exact HB.out)) hb); clear HO_0; clear HB; have HO_0 := n0_; have HB := n1_; clear n0_ n1_; (try clear hb); (try clear hb2); (try clear hk); (try clear hi); have p338 : 0 ≤ (x9_1 : Int) := of_decide_eq_true (by first | (with_reducible assumption) | assumption); have q338 : x9_1 < (t330.length : Int) := of_decide_eq_true (by first | (with_reducible assumption) | assumption); obtain ⟨ad338, e338, hx338_0, hx338_1⟩ := at_T31 (Kd.R_reads' HO_0.out).2.2 x9_1 p338 q338; obtain rfl : ad335 = ad338 := (by injection e338); replace p338 := eq_true p338; replace q338 := eq_true q338))
                  go_roundg k1
                  case measure => have := HK1.out; omega
                  case rel => exact ⟨(true), (wrap64 (x9_1 + 1)), (by first | rfl | (simp; done) | (simp [*]; done)), (by first | rfl | (simp; done) | (simp [*]; done)), H', ⟨by have := HK1.out; omega⟩, ⟨by (with_reducible repeat (first | apply Kd.R_alloc | apply Kd.R_drewN | apply Kd.R_drew)); exact HO_0.out⟩, ⟨by repeat (first | (with_reducible first | exact HB.out | apply below_alloc | apply pw_below_drewN | apply below_drew1) | exact HB.out)⟩⟩
                · replace c16 := Bool.eq_false_iff.mpr c16
                  subst c16
                  have H1 : (pleacherlaw09_PaxFinds.l0 k1 t330 a1 t329 t334 (((rd_T31 t330 x9_1).f0).toList == a1.toList) (wrap64 (x9_1 + 1))) = some r := by rw [if_neg (show ¬ (false = true) by decide)] at H; exact H
                  clear H
                  have H := H1
                  clear H1
                  have H' := Aside0.mk H
                  clear H
                  have p335 : 0 ≤ (x9_1 : Int) := of_decide_eq_true (by first | (with_reducible assumption) | assumption)
                  have q335 : x9_1 < (t330.length : Int) := of_decide_eq_true (by first | (with_reducible assumption) | assumption)
                  obtain ⟨ad335, e335, hx335_0, hx335_1⟩ := at_T31 (Kd.R_reads' HO_0.out).2.2 x9_1 p335 q335
                  cases e335
                  replace p335 := eq_true p335
                  replace q335 := eq_true q335
                  go_wp2_with (first | ((with_reducible refine gate_callee (f := 20) rfl ?_); refine goesL_ (some 35) rfl rfl Tryd.func20 (by kernel_rfl) rfl #[.slice (some ad335) t330.length co8, .string ((rd_T31 t330 x9_1).f0)] rfl (by (try simp only [List.map_toArray, List.map_cons, List.map_nil]); first | done | rfl | (simp only [List.length_drop, List.length_take]; rfl)) ?_; (with_reducible refine (pax_Find.calls k1 _ _ t330 ((rd_T31 t330 x9_1).f0) t336 true _ ?side1 ?side2 A12.out).mono ?_); (case side1 => repeat (first | exact (Kd.R_reads' HO_0.out).2.2 | (with_reducible refine Kd.C_alloc ?_ _) | (with_reducible refine Kd.C_drewN ?_ _) | (with_reducible refine Kd.C_drew ?_))); (case side2 => exact (Kd.R_reads' HO_0.out).2.1); rintro e w18 ⟨rfl, hb⟩; refine ⟨_, rfl, ?_⟩; have n0_ := Aside0.mk (Kd.R_below (by (with_reducible repeat (first | apply Kd.R_alloc | apply Kd.R_drewN | apply Kd.R_drew)); exact HO_0.out) hb); have n1_ := Aside0.mk (below_step (by repeat (first | (with_reducible first | exact HB.out | apply below_alloc | apply pw_below_drewN | apply below_drew1) | exact HB.out)) hb); clear HO_0; clear HB; have HO_0 := n0_; have HB := n1_; clear n0_ n1_; (try clear hb); (try clear hb2); (try clear hk); (try clear hi); have p338 : 0 ≤ (x9_1 : Int) := of_decide_eq_true (by first | (with_reducible assumption) | assumption); have q338 : x9_1 < (t330.length : Int) := of_decide_eq_true (by first | (with_reducible assumption) | assumption); obtain ⟨ad338, e338, hx338_0, hx338_1⟩ := at_T31 (Kd.R_reads' HO_0.out).2.2 x9_1 p338 q338; obtain rfl : ad335 = ad338 := (by injection e338); replace p338 := eq_true p338; replace q338 := eq_true q338; have p339 : 0 ≤ (x9_1 : Int) := of_decide_eq_true (by first | (with_reducible assumption) | assumption); have q339 : x9_1 < (t330.length : Int) := of_decide_eq_true (by first | (with_reducible assumption) | assumption); obtain ⟨ad339, e339, hx339_0, hx339_1⟩ := at_T31 (Kd.R_reads' HO_0.out).2.2 x9_1 p339 q339; obtain rfl : ad335 = ad339 := (by injection e339); replace p339 := eq_true p339; replace q339 := eq_true q339))
                  go_roundg k1
                  case measure => have := HK1.out; omega
                  case rel => exact ⟨((((rd_T31 t330 x9_1).f0).toList == a1.toList)), (wrap64 (x9_1 + 1)), (by first | rfl | (simp; done) | (simp [*]; done)), (by first | rfl | (simp; done) | (simp [*]; done)), H', ⟨by have := HK1.out; omega⟩, ⟨by (with_reducible repeat (first | apply Kd.R_alloc | apply Kd.R_drewN | apply Kd.R_drew)); exact HO_0.out⟩, ⟨by repeat (first | (with_reducible first | exact HB.out | apply below_alloc | apply pw_below_drewN | apply below_drew1) | exact HB.out)⟩⟩
              · rw [if_neg c15] at H
                have c15b0 : (t336.toList == ((rd_T31 t330 x9_1).f1).toList) = false := beq_eq_false_iff_ne.mpr c15
                have c15b1 : (t336.toList != ((rd_T31 t330 x9_1).f1).toList) = true := bne_iff_ne.mpr c15
                obtain rfl := Option.some.inj H
                have p335 : 0 ≤ (x9_1 : Int) := of_decide_eq_true (by first | (with_reducible assumption) | assumption)
                have q335 : x9_1 < (t330.length : Int) := of_decide_eq_true (by first | (with_reducible assumption) | assumption)
                obtain ⟨ad335, e335, hx335_0, hx335_1⟩ := at_T31 (Kd.R_reads' HO_0.out).2.2 x9_1 p335 q335
                cases e335
                replace p335 := eq_true p335
                replace q335 := eq_true q335
                go_wp2_with (first | ((with_reducible refine gate_callee (f := 20) rfl ?_); refine goesL_ (some 35) rfl rfl Tryd.func20 (by kernel_rfl) rfl #[.slice (some ad335) t330.length co8, .string ((rd_T31 t330 x9_1).f0)] rfl (by (try simp only [List.map_toArray, List.map_cons, List.map_nil]); first | done | rfl | (simp only [List.length_drop, List.length_take]; rfl)) ?_; (with_reducible refine (pax_Find.calls k1 _ _ t330 ((rd_T31 t330 x9_1).f0) t336 true _ ?side1 ?side2 A12.out).mono ?_); (case side1 => repeat (first | exact (Kd.R_reads' HO_0.out).2.2 | (with_reducible refine Kd.C_alloc ?_ _) | (with_reducible refine Kd.C_drewN ?_ _) | (with_reducible refine Kd.C_drew ?_))); (case side2 => exact (Kd.R_reads' HO_0.out).2.1); rintro e w19 ⟨rfl, hb⟩; refine ⟨_, rfl, ?_⟩; have n0_ := Aside0.mk (Kd.R_below (by (with_reducible repeat (first | apply Kd.R_alloc | apply Kd.R_drewN | apply Kd.R_drew)); exact HO_0.out) hb); have n1_ := Aside0.mk (below_step (by repeat (first | (with_reducible first | exact HB.out | apply below_alloc | apply pw_below_drewN | apply below_drew1) | exact HB.out)) hb); clear HO_0; clear HB; have HO_0 := n0_; have HB := n1_; clear n0_ n1_; (try clear hb); (try clear hb2); (try clear hk); (try clear hi); have p338 : 0 ≤ (x9_1 : Int) := of_decide_eq_true (by first | (with_reducible assumption) | assumption); have q338 : x9_1 < (t330.length : Int) := of_decide_eq_true (by first | (with_reducible assumption) | assumption); obtain ⟨ad338, e338, hx338_0, hx338_1⟩ := at_T31 (Kd.R_reads' HO_0.out).2.2 x9_1 p338 q338; obtain rfl : ad335 = ad338 := (by injection e338); replace p338 := eq_true p338; replace q338 := eq_true q338))
                go_ret
                exact ⟨by first | rfl | (simp [errW_none, errW_some] <;> rfl) | (simp [*, errW_none, errW_some] <;> rfl), by repeat (first | (with_reducible first | exact HB.out | apply below_alloc | apply pw_below_drewN | apply below_drew1) | exact HB.out)⟩
            · replace c14 := Bool.eq_false_iff.mpr c14
              subst c14
              have H1 : (some false) = some r := by rw [if_neg (show ¬ (false = true) by decide)] at H; exact H
              clear H
              have H := H1
              clear H1
              obtain rfl := Option.some.inj H
              have p335 : 0 ≤ (x9_1 : Int) := of_decide_eq_true (by first | (with_reducible assumption) | assumption)
              have q335 : x9_1 < (t330.length : Int) := of_decide_eq_true (by first | (with_reducible assumption) | assumption)
              obtain ⟨ad335, e335, hx335_0, hx335_1⟩ := at_T31 (Kd.R_reads' HO_0.out).2.2 x9_1 p335 q335
              cases e335
              replace p335 := eq_true p335
              replace q335 := eq_true q335
              go_wp2_with (first | ((with_reducible refine gate_callee (f := 20) rfl ?_); refine goesL_ (some 35) rfl rfl Tryd.func20 (by kernel_rfl) rfl #[.slice (some ad335) t330.length co8, .string ((rd_T31 t330 x9_1).f0)] rfl (by (try simp only [List.map_toArray, List.map_cons, List.map_nil]); first | done | rfl | (simp only [List.length_drop, List.length_take]; rfl)) ?_; (with_reducible refine (pax_Find.calls k1 _ _ t330 ((rd_T31 t330 x9_1).f0) t336 false _ ?side1 ?side2 A12.out).mono ?_); (case side1 => repeat (first | exact (Kd.R_reads' HO_0.out).2.2 | (with_reducible refine Kd.C_alloc ?_ _) | (with_reducible refine Kd.C_drewN ?_ _) | (with_reducible refine Kd.C_drew ?_))); (case side2 => exact (Kd.R_reads' HO_0.out).2.1); rintro e w20 ⟨rfl, hb⟩; refine ⟨_, rfl, ?_⟩; have n0_ := Aside0.mk (Kd.R_below (by (with_reducible repeat (first | apply Kd.R_alloc | apply Kd.R_drewN | apply Kd.R_drew)); exact HO_0.out) hb); have n1_ := Aside0.mk (below_step (by repeat (first | (with_reducible first | exact HB.out | apply below_alloc | apply pw_below_drewN | apply below_drew1) | exact HB.out)) hb); clear HO_0; clear HB; have HO_0 := n0_; have HB := n1_; clear n0_ n1_; (try clear hb); (try clear hb2); (try clear hk); (try clear hi)))
              go_ret
              exact ⟨by first | rfl | (simp [errW_none, errW_some] <;> rfl) | (simp [*, errW_none, errW_some] <;> rfl), by repeat (first | (with_reducible first | exact HB.out | apply below_alloc | apply pw_below_drewN | apply below_drew1) | exact HB.out)⟩
          · rw [if_neg c13] at H
            have c13b0 : (t334 == 0) = false := beq_eq_false_iff_ne.mpr c13
            have c13b1 : (t334 != 0) = true := bne_iff_ne.mpr c13
            by_cases c21 : x8_1 = true
            · subst c21
              have H1 : (pleacherlaw09_PaxFinds.l0 k1 t330 a1 t329 t334 true (wrap64 (x9_1 + 1))) = some r := by rw [if_pos rfl] at H; exact H
              clear H
              have H := H1
              clear H1
              have H' := Aside0.mk H
              clear H
              have p335 : 0 ≤ (x9_1 : Int) := of_decide_eq_true (by first | (with_reducible assumption) | assumption)
              have q335 : x9_1 < (t330.length : Int) := of_decide_eq_true (by first | (with_reducible assumption) | assumption)
              obtain ⟨ad335, e335, hx335_0, hx335_1⟩ := at_T31 (Kd.R_reads' HO_0.out).2.2 x9_1 p335 q335
              cases e335
              replace p335 := eq_true p335
              replace q335 := eq_true q335
              go_wp2_with (first | ((with_reducible refine gate_callee (f := 20) rfl ?_); refine goesL_ (some 35) rfl rfl Tryd.func20 (by kernel_rfl) rfl #[.slice (some ad335) t330.length co8, .string ((rd_T31 t330 x9_1).f0)] rfl (by (try simp only [List.map_toArray, List.map_cons, List.map_nil]); first | done | rfl | (simp only [List.length_drop, List.length_take]; rfl)) ?_; (with_reducible refine (pax_Find.calls k1 _ _ t330 ((rd_T31 t330 x9_1).f0) t336 t337 _ ?side1 ?side2 A12.out).mono ?_); (case side1 => repeat (first | exact (Kd.R_reads' HO_0.out).2.2 | (with_reducible refine Kd.C_alloc ?_ _) | (with_reducible refine Kd.C_drewN ?_ _) | (with_reducible refine Kd.C_drew ?_))); (case side2 => exact (Kd.R_reads' HO_0.out).2.1); rintro e w22 ⟨rfl, hb⟩; refine ⟨_, rfl, ?_⟩; have n0_ := Aside0.mk (Kd.R_below (by (with_reducible repeat (first | apply Kd.R_alloc | apply Kd.R_drewN | apply Kd.R_drew)); exact HO_0.out) hb); have n1_ := Aside0.mk (below_step (by repeat (first | (with_reducible first | exact HB.out | apply below_alloc | apply pw_below_drewN | apply below_drew1) | exact HB.out)) hb); clear HO_0; clear HB; have HO_0 := n0_; have HB := n1_; clear n0_ n1_; (try clear hb); (try clear hb2); (try clear hk); (try clear hi)))
              go_roundg k1
              case measure => have := HK1.out; omega
              case rel => exact ⟨(true), (wrap64 (x9_1 + 1)), (by first | rfl | (simp; done) | (simp [*]; done)), (by first | rfl | (simp; done) | (simp [*]; done)), H', ⟨by have := HK1.out; omega⟩, ⟨by (with_reducible repeat (first | apply Kd.R_alloc | apply Kd.R_drewN | apply Kd.R_drew)); exact HO_0.out⟩, ⟨by repeat (first | (with_reducible first | exact HB.out | apply below_alloc | apply pw_below_drewN | apply below_drew1) | exact HB.out)⟩⟩
            · replace c21 := Bool.eq_false_iff.mpr c21
              subst c21
              have H1 : (pleacherlaw09_PaxFinds.l0 k1 t330 a1 t329 t334 (((rd_T31 t330 x9_1).f0).toList == a1.toList) (wrap64 (x9_1 + 1))) = some r := by rw [if_neg (show ¬ (false = true) by decide)] at H; exact H
              clear H
              have H := H1
              clear H1
              have H' := Aside0.mk H
              clear H
              have p335 : 0 ≤ (x9_1 : Int) := of_decide_eq_true (by first | (with_reducible assumption) | assumption)
              have q335 : x9_1 < (t330.length : Int) := of_decide_eq_true (by first | (with_reducible assumption) | assumption)
              obtain ⟨ad335, e335, hx335_0, hx335_1⟩ := at_T31 (Kd.R_reads' HO_0.out).2.2 x9_1 p335 q335
              cases e335
              replace p335 := eq_true p335
              replace q335 := eq_true q335
              go_wp2_with (first | ((with_reducible refine gate_callee (f := 20) rfl ?_); refine goesL_ (some 35) rfl rfl Tryd.func20 (by kernel_rfl) rfl #[.slice (some ad335) t330.length co8, .string ((rd_T31 t330 x9_1).f0)] rfl (by (try simp only [List.map_toArray, List.map_cons, List.map_nil]); first | done | rfl | (simp only [List.length_drop, List.length_take]; rfl)) ?_; (with_reducible refine (pax_Find.calls k1 _ _ t330 ((rd_T31 t330 x9_1).f0) t336 t337 _ ?side1 ?side2 A12.out).mono ?_); (case side1 => repeat (first | exact (Kd.R_reads' HO_0.out).2.2 | (with_reducible refine Kd.C_alloc ?_ _) | (with_reducible refine Kd.C_drewN ?_ _) | (with_reducible refine Kd.C_drew ?_))); (case side2 => exact (Kd.R_reads' HO_0.out).2.1); rintro e w23 ⟨rfl, hb⟩; refine ⟨_, rfl, ?_⟩; have n0_ := Aside0.mk (Kd.R_below (by (with_reducible repeat (first | apply Kd.R_alloc | apply Kd.R_drewN | apply Kd.R_drew)); exact HO_0.out) hb); have n1_ := Aside0.mk (below_step (by repeat (first | (with_reducible first | exact HB.out | apply below_alloc | apply pw_below_drewN | apply below_drew1) | exact HB.out)) hb); clear HO_0; clear HB; have HO_0 := n0_; have HB := n1_; clear n0_ n1_; (try clear hb); (try clear hb2); (try clear hk); (try clear hi); have p340 : 0 ≤ (x9_1 : Int) := of_decide_eq_true (by first | (with_reducible assumption) | assumption); have q340 : x9_1 < (t330.length : Int) := of_decide_eq_true (by first | (with_reducible assumption) | assumption); obtain ⟨ad340, e340, hx340_0, hx340_1⟩ := at_T31 (Kd.R_reads' HO_0.out).2.2 x9_1 p340 q340; obtain rfl : ad335 = ad340 := (by injection e340); replace p340 := eq_true p340; replace q340 := eq_true q340))
              go_roundg k1
              case measure => have := HK1.out; omega
              case rel => exact ⟨((((rd_T31 t330 x9_1).f0).toList == a1.toList)), (wrap64 (x9_1 + 1)), (by first | rfl | (simp; done) | (simp [*]; done)), (by first | rfl | (simp; done) | (simp [*]; done)), H', ⟨by have := HK1.out; omega⟩, ⟨by (with_reducible repeat (first | apply Kd.R_alloc | apply Kd.R_drewN | apply Kd.R_drew)); exact HO_0.out⟩, ⟨by repeat (first | (with_reducible first | exact HB.out | apply below_alloc | apply pw_below_drewN | apply below_drew1) | exact HB.out)⟩⟩
        · rw [if_neg c11] at H
          exact absurd H (by simp)
      · rw [if_neg c10] at H
        have c10b0 : decide (x9_1 < (t330.length : Int)) = false := decide_eq_false c10
        clear c10
        replace H := Option.bind_eq_some_iff.mp H
        obtain ⟨⟨t341, t342⟩, A240, H⟩ := H
        replace H : (if t329 = true then (if (t342 == x8_1) = true then (if t342 = true then (some true) else (some (t341.toList == ([] : List UInt8)))) else (some false)) else (some false)) = some r := H
        have A24 := Aside0.mk A240
        clear A240
        by_cases c25 : t329 = true
        · subst c25
          have H1 : (if (t342 == x8_1) = true then (if t342 = true then (some true) else (some (t341.toList == ([] : List UInt8)))) else (some false)) = some r := by rw [if_pos rfl] at H; exact H
          clear H
          have H := H1
          clear H1
          by_cases c26 : (t342 == x8_1) = true
          · rw [if_pos c26] at H
            have c26b0 : (t342 == x8_1) = true := c26
            (try (have c26b1 : decide (t342 = x8_1) = true := by simpa using c26))
            (try (have c26b2 : (t342 == x8_1) = true := by simpa using c26))
            clear c26
            by_cases c27 : t342 = true
            · subst c27
              have H1 : (some true) = some r := by rw [if_pos rfl] at H; exact H
              clear H
              have H := H1
              clear H1
              obtain rfl := Option.some.inj H
              go_wp2_with (first | ((with_reducible refine gate_callee (f := 20) rfl ?_); refine goesL_ (some 66) rfl rfl Tryd.func20 (by kernel_rfl) rfl #[.slice Ao8 t330.length co8, .string a1] rfl (by (try simp only [List.map_toArray, List.map_cons, List.map_nil]); first | done | rfl | (simp only [List.length_drop, List.length_take]; rfl)) ?_; (with_reducible refine (pax_Find.calls k1 _ _ t330 a1 t341 true _ ?side1 ?side2 A24.out).mono ?_); (case side1 => repeat (first | exact (Kd.R_reads' HO_0.out).2.2 | (with_reducible refine Kd.C_alloc ?_ _) | (with_reducible refine Kd.C_drewN ?_ _) | (with_reducible refine Kd.C_drew ?_))); (case side2 => exact (Kd.R_reads' HO_0.out).2.1); rintro e w28 ⟨rfl, hb⟩; refine ⟨_, rfl, ?_⟩; have n0_ := Aside0.mk (Kd.R_below (by (with_reducible repeat (first | apply Kd.R_alloc | apply Kd.R_drewN | apply Kd.R_drew)); exact HO_0.out) hb); have n1_ := Aside0.mk (below_step (by repeat (first | (with_reducible first | exact HB.out | apply below_alloc | apply pw_below_drewN | apply below_drew1) | exact HB.out)) hb); clear HO_0; clear HB; have HO_0 := n0_; have HB := n1_; clear n0_ n1_; (try clear hb); (try clear hb2); (try clear hk); (try clear hi)))
              go_ret
              exact ⟨by first | rfl | (simp [errW_none, errW_some] <;> rfl) | (simp [*, errW_none, errW_some] <;> rfl), by repeat (first | (with_reducible first | exact HB.out | apply below_alloc | apply pw_below_drewN | apply below_drew1) | exact HB.out)⟩
            · replace c27 := Bool.eq_false_iff.mpr c27
              subst c27
              have H1 : (some (t341.toList == ([] : List UInt8))) = some r := by rw [if_neg (show ¬ (false = true) by decide)] at H; exact H
              clear H
              have H := H1
              clear H1
              obtain rfl := Option.some.inj H
              go_wp2_with (first | ((with_reducible refine gate_callee (f := 20) rfl ?_); refine goesL_ (some 66) rfl rfl Tryd.func20 (by kernel_rfl) rfl #[.slice Ao8 t330.length co8, .string a1] rfl (by (try simp only [List.map_toArray, List.map_cons, List.map_nil]); first | done | rfl | (simp only [List.length_drop, List.length_take]; rfl)) ?_; (with_reducible refine (pax_Find.calls k1 _ _ t330 a1 t341 false _ ?side1 ?side2 A24.out).mono ?_); (case side1 => repeat (first | exact (Kd.R_reads' HO_0.out).2.2 | (with_reducible refine Kd.C_alloc ?_ _) | (with_reducible refine Kd.C_drewN ?_ _) | (with_reducible refine Kd.C_drew ?_))); (case side2 => exact (Kd.R_reads' HO_0.out).2.1); rintro e w29 ⟨rfl, hb⟩; refine ⟨_, rfl, ?_⟩; have n0_ := Aside0.mk (Kd.R_below (by (with_reducible repeat (first | apply Kd.R_alloc | apply Kd.R_drewN | apply Kd.R_drew)); exact HO_0.out) hb); have n1_ := Aside0.mk (below_step (by repeat (first | (with_reducible first | exact HB.out | apply below_alloc | apply pw_below_drewN | apply below_drew1) | exact HB.out)) hb); clear HO_0; clear HB; have HO_0 := n0_; have HB := n1_; clear n0_ n1_; (try clear hb); (try clear hb2); (try clear hk); (try clear hi)))
              go_ret
              exact ⟨by first | rfl | (simp [errW_none, errW_some] <;> rfl) | (simp [*, errW_none, errW_some] <;> rfl), by repeat (first | (with_reducible first | exact HB.out | apply below_alloc | apply pw_below_drewN | apply below_drew1) | exact HB.out)⟩
          · rw [if_neg c26] at H
            have c26b0 : (t342 == x8_1) = false := by simpa using c26
            (try (have c26b1 : decide (t342 = x8_1) = false := by simpa using c26))
            (try (have c26b2 : (t342 == x8_1) = false := by simpa using c26))
            (try (have c26b3 : ¬ (t342 = x8_1) := by simpa using c26))
            clear c26
            obtain rfl := Option.some.inj H
            go_wp2_with (first | ((with_reducible refine gate_callee (f := 20) rfl ?_); refine goesL_ (some 66) rfl rfl Tryd.func20 (by kernel_rfl) rfl #[.slice Ao8 t330.length co8, .string a1] rfl (by (try simp only [List.map_toArray, List.map_cons, List.map_nil]); first | done | rfl | (simp only [List.length_drop, List.length_take]; rfl)) ?_; (with_reducible refine (pax_Find.calls k1 _ _ t330 a1 t341 t342 _ ?side1 ?side2 A24.out).mono ?_); (case side1 => repeat (first | exact (Kd.R_reads' HO_0.out).2.2 | (with_reducible refine Kd.C_alloc ?_ _) | (with_reducible refine Kd.C_drewN ?_ _) | (with_reducible refine Kd.C_drew ?_))); (case side2 => exact (Kd.R_reads' HO_0.out).2.1); rintro e w30 ⟨rfl, hb⟩; refine ⟨_, rfl, ?_⟩; have n0_ := Aside0.mk (Kd.R_below (by (with_reducible repeat (first | apply Kd.R_alloc | apply Kd.R_drewN | apply Kd.R_drew)); exact HO_0.out) hb); have n1_ := Aside0.mk (below_step (by repeat (first | (with_reducible first | exact HB.out | apply below_alloc | apply pw_below_drewN | apply below_drew1) | exact HB.out)) hb); clear HO_0; clear HB; have HO_0 := n0_; have HB := n1_; clear n0_ n1_; (try clear hb); (try clear hb2); (try clear hk); (try clear hi)))
            go_ret
            exact ⟨by first | rfl | (simp [errW_none, errW_some] <;> rfl) | (simp [*, errW_none, errW_some] <;> rfl), by repeat (first | (with_reducible first | exact HB.out | apply below_alloc | apply pw_below_drewN | apply below_drew1) | exact HB.out)⟩
        · replace c25 := Bool.eq_false_iff.mpr c25
          subst c25
          have H1 : (some false) = some r := by rw [if_neg (show ¬ (false = true) by decide)] at H; exact H
          clear H
          have H := H1
          clear H1
          obtain rfl := Option.some.inj H
          go_wp2_with (first | ((with_reducible refine gate_callee (f := 20) rfl ?_); refine goesL_ (some 66) rfl rfl Tryd.func20 (by kernel_rfl) rfl #[.slice Ao8 t330.length co8, .string a1] rfl (by (try simp only [List.map_toArray, List.map_cons, List.map_nil]); first | done | rfl | (simp only [List.length_drop, List.length_take]; rfl)) ?_; (with_reducible refine (pax_Find.calls k1 _ _ t330 a1 t341 t342 _ ?side1 ?side2 A24.out).mono ?_); (case side1 => repeat (first | exact (Kd.R_reads' HO_0.out).2.2 | (with_reducible refine Kd.C_alloc ?_ _) | (with_reducible refine Kd.C_drewN ?_ _) | (with_reducible refine Kd.C_drew ?_))); (case side2 => exact (Kd.R_reads' HO_0.out).2.1); rintro e w31 ⟨rfl, hb⟩; refine ⟨_, rfl, ?_⟩; have n0_ := Aside0.mk (Kd.R_below (by (with_reducible repeat (first | apply Kd.R_alloc | apply Kd.R_drewN | apply Kd.R_drew)); exact HO_0.out) hb); have n1_ := Aside0.mk (below_step (by repeat (first | (with_reducible first | exact HB.out | apply below_alloc | apply pw_below_drewN | apply below_drew1) | exact HB.out)) hb); clear HO_0; clear HB; have HO_0 := n0_; have HB := n1_; clear n0_ n1_; (try clear hb); (try clear hb2); (try clear hk); (try clear hi)))
          go_ret
          exact ⟨by first | rfl | (simp [errW_none, errW_some] <;> rfl) | (simp [*, errW_none, errW_some] <;> rfl), by repeat (first | (with_reducible first | exact HB.out | apply below_alloc | apply pw_below_drewN | apply below_drew1) | exact HB.out)⟩

end Go.Proofs.YtbcjhmeeonhmaaaDoor.M
end

/-
PaxFinds: what the law computes is true.
-/
section
set_option linter.unusedVariables false
set_option maxRecDepth 100000
namespace Go.Proofs.YtbcjhmeeonhmaaaDoor.H
open Go Go.RowKit Go.Proofs.YtbcjhmeeonhmaaaDoorW.PrintWords Go.Proofs.YtbcjhmeeonhmaaaDoorW.PrintMore Go.Proofs.YtbcjhmeeonhmaaaDoor.M
def metS (l : List At) (n : ByteArray) : Bool := (findS l n).2
theorem metS_snoc (l : List At) (x : At) (n : ByteArray) : metS (l ++ [x]) n = (metS l n || decide (x.f0 = n)) := by
  unfold metS
  rw [Bool.eq_iff_iff, findS_iff, Bool.or_eq_true, findS_iff, decide_eq_true_iff]
  simp
  exact or_congr Iff.rfl eq_comm
theorem finds_l (l : List At) (n : ByteArray) (hl : l.length ≤ 32) : ∀ (k i m : Nat), i + m = l.length → m ≤ k →
    pleacherlaw09_PaxFinds.l0 (k + 1 + 40) l n true (putsS l).2 (metS (l.take i) n) i = some true := by
  intro k
  induction k with
  | zero =>
    intro i m h1 h2
    rw [show 0 + 1 + 40 = 40 + 1 from rfl, pleacherlaw09_PaxFinds.l0, if_neg (by omega), find_f l n (by omega) 40 (by omega), Option.bind_some, if_pos rfl, List.take_of_length_le (by omega)]
    unfold metS
    rw [if_pos (by simp)]
    cases hf : (findS l n).2 with
    | true => rfl
    | false => rw [findS_no l n hf]; simp
  | succ k ih =>
    intro i m h1 h2
    rw [show k + 1 + 1 + 40 = (k + 1 + 40) + 1 from by omega, pleacherlaw09_PaxFinds.l0]
    by_cases h : i < l.length
    · rw [if_pos (by omega), if_pos (by omega), rd_at l i h, find_f l _ (by omega) _ (by omega), Option.bind_some]
      have hst : metS (l.take (i + 1)) n = (metS (l.take i) n || decide (l[i].f0 = n)) := by
        rw [List.take_add_one, List.getElem?_eq_getElem h]; exact metS_snoc _ _ _
      have hnext := ih (i + 1) (m - 1) (by omega) (by omega)
      have hw : wrap64 ((i : Int) + 1) = ((i + 1 : Nat) : Int) := by rw [w64 (by omega) (by omega)]; omega
      have hgo : (if metS (l.take i) n = true then pleacherlaw09_PaxFinds.l0 (k + 1 + 40) l n true (putsS l).2 true (wrap64 ((i : Int) + 1)) else pleacherlaw09_PaxFinds.l0 (k + 1 + 40) l n true (putsS l).2 (l[i].f0.toList == n.toList) (wrap64 ((i : Int) + 1))) = some true := by
        rw [hw]
        by_cases hm : metS (l.take i) n = true
        · rw [if_pos hm]; rw [hst, hm] at hnext; exact hnext
        · rw [if_neg hm]
          have hb : (l[i].f0.toList == n.toList) = decide (l[i].f0 = n) := by
            rw [Bool.eq_iff_iff, beq_iff_eq, decide_eq_true_iff, toList_inj]
          rw [hb]
          have hmf : metS (l.take i) n = false := by simpa using hm
          rw [hst, hmf, Bool.false_or] at hnext
          exact hnext
      by_cases h0 : (putsS l).2 = 0
      · have hok := (putR_iff l [] ⟨#[]⟩).1 h0
        have hfx := findS_nodup l hok.2.2.1 l[i] (List.getElem_mem _)
        rw [if_pos h0, hfx]
        simp only [if_true]
        exact hgo
      · rw [if_neg h0]
        exact hgo
    · rw [if_neg (by omega), find_f l n (by omega) _ (by omega), Option.bind_some, if_pos rfl, List.take_of_length_le (by omega)]
      unfold metS
      rw [if_pos (by simp)]
      cases hf : (findS l n).2 with
      | true => rfl
      | false => rw [findS_no l n hf]; simp
theorem paxFinds_f (l : List At) (n : ByteArray) : pleacherlaw09_PaxFinds.f 2100 l n = some true := by
  unfold pleacherlaw09_PaxFinds.f
  have hl := few_len l
  rw [shown_f, few_f l _ (by omega)]
  simp only [Option.bind_some]
  rw [put_f _ (by omega)]
  simp only [Option.bind_some]
  exact finds_l (few l) n hl 2059 0 (few l).length (by omega) (by omega)

end Go.Proofs.YtbcjhmeeonhmaaaDoor.H
end

/-
The row and card of PaxFinds.
-/
section
set_option linter.unusedVariables false
set_option maxRecDepth 100000
namespace Go.Proofs.YtbcjhmeeonhmaaaDoor.H
open Go Go.ChangeShapes Go.WideShapes Go.ChangeAt Go.RowKit Go.Proofs.YtbcjhmeeonhmaaaDoorW.PrintWords Go.Proofs.YtbcjhmeeonhmaaaDoorW.PrintMore Go.Proofs.YtbcjhmeeonhmaaaDoor.M

/-- records, and a text. -/
theorem finds_contract (H : Type) (enc : TypeId × Value → H) (W : World) (base : Nat) (args : Array Value) (ds gs : List (DataW H)) (before : List MemPlace)
    (hval : ∀ (j : Nat) t v, Tryd.f8.params[j]? = some t → args[j]? = some v → Value.okWide Tryd.prog W .any base t v)
    (hW : DataW.Whole enc Tryd.prog Tryd.f8.params.toList Rows.paxFindsSpec.vars false W args.toList ds gs before) (hL : laidMetH Tryd.prog Rows.paxFindsRow.laid W) :
    Calls Tryd.prog 8 args W fun e W' => ∃ v, e = .returned v ∧ Rows.paxFindsSpec.post enc Tryd.prog Tryd.f8 false true false false W args v W' := by
  have hW' := hW
  have hlt := hW.lt
  obtain ⟨p, q, hA0, hV, rfl, hfz, hnd⟩ := hW
  have hA : DataW.TrodAll enc Tryd.prog W 0 (fun _ => true) true Tryd.f8.params.toList args.toList ds p := hA0
  rw [Tryd.params8] at hA hval
  obtain ⟨v0, vs0, d0, ds0, p0, q0, hargs, rfl, rfl, h0, r0⟩ := trodAll_cons hA
  obtain ⟨v1, vs1, d1, ds1, p1, q1, hargs1, rfl, rfl, h1, r1⟩ := trodAll_cons r0
  obtain ⟨rfl, rfl, rfl⟩ := trodAll_nil r1
  obtain rfl : args = #[v0, v1] := by cases args; simp_all
  obtain ⟨rfl, rfl⟩ := trodVars_none hV
  obtain ⟨A, c, l, rfl, hc, hK⟩ := open_attrs (hval 0 23 v0 rfl rfl) h0
  obtain ⟨n, rfl, _⟩ := Go.ChangeMaps.open_string Tryd.underlying9 (hval 1 9 v1 rfl rfl) h1
  refine (pleacherlaw09_PaxFinds.calls 2100 A c l n true W hK hc (gw_of_laid hL) (paxFinds_f l n)).mono fun e W' ⟨he, hb⟩ => ?_
  subst he
  refine ⟨_, rfl, post_true hW' rfl (by kernel_rfl) ⟨rfl, rfl, rfl⟩ (pa := p0 ++ (p1 ++ [])) ?_ hb (by simp)⟩
  rw [Tryd.params8]
  have hl2 : ∀ x ∈ p0 ++ p1, x.block < W.heap.size := fun x hx => hlt x (by simpa using hx)
  exact trodAll_cons_mk (Below.trod laidOutA readA rowsA h0 hb (fun x hx => hl2 x (List.mem_append_left _ hx))) (trodAll_cons_mk (Below.trod laidOutA readS rowsS h1 hb (fun x hx => hl2 x (List.mem_append_right _ hx))) trodAll_mk0)
theorem finds_reads (os : Os) {H : Type} (enc : TypeId × Value → H) : ∃ places, DataW.whole enc Tryd.prog ((World.doorLaid Tryd.prog 54 os).forCall (fun _ _ => 0) ⟨#[], wargs, []⟩).memory Tryd.f8.params.toList Rows.paxFindsSpec.vars false wargs.toList 8 = some ([.nil, .lit (.string [])], [], places) :=
  ⟨[], by kernel_rfl⟩
/-- THE ROW's STEP. -/
theorem finds_lifted (os : Os) (started : os.Started) (H : Type) (enc : TypeId × Value → H) (F : Stop.Interp) :
    ReturnsInHanded {} Tryd.checked os 8 .any ((OpenSpec.ofChange Rows.paxFindsSpec).preRow enc Tryd.prog Tryd.f8 Rows.paxFindsRow.domain false Rows.paxFindsRow.laid) (((OpenSpec.ofChange Rows.paxFindsSpec).at F).post enc Tryd.prog Tryd.f8 false true false false) := by
  obtain ⟨places, hx⟩ := finds_reads os enc
  refine returnsInHanded_of_row (C := Tryd.checked) (s := OpenSpec.ofChange Rows.paxFindsSpec) own started (by kernel_rfl) Tryd.func8
    (witness_row_atRef (enc := enc) (C := Tryd.checked) false (World.doorLaid Tryd.prog 54 os) wargs rfl (by kernel_rfl) (by kernel_rfl) (by kernel_rfl)
      (OpenSpec.preRow_of_cond 8 hx (by kernel_rfl) (fun k hk => by cases hk) (by kernel_rfl) (door_met os _))) ?_
  intro W base args ds gs before hval hW _ _ _ hL _ _
  exact finds_contract H enc W base args ds gs before hval hW hL
theorem finds_said : Rows.PaxFindsSaid :=
  OpenClaim.holds_of_cond 8 Tryd.f8 rfl rfl rfl rfl rfl rfl rfl ⟨rfl, rfl, rfl, rfl, rfl⟩ rfl rfl rfl rfl rfl (by kernel_rfl) Tryd.func8 (by kernel_rfl)
    (of_decide_eq_true (by kernel_rfl)) (by unfold Func.isWrapper; first | (rw [if_pos (by decide +kernel)]; kernel_rfl) | (rw [if_neg (by decide +kernel)]; exact ⟨rfl, rfl⟩))
    (fun os started H enc _ F => by rw [OpenClaim.pre_eq_preRow]; exact finds_lifted os started H enc F)
theorem finds_plain (f : FuncId) (fn : Func) (hf : Tryd.pinned.checked.prog.funcNamed "pleacher/pleacherlaw09.PaxFinds" = some f) (hfn : Tryd.pinned.checked.prog.funcs[f]? = some fn) :
    true = Tryd.pinned.checked.prog.looks [] ∧ ∀ (j : Nat) t, fn.params[j]? = some t → Tryd.pinned.checked.prog.wantsStandIn t = false := by
  obtain rfl : f = 8 := Option.some.inj ((show Tryd.prog.funcNamed "pleacher/pleacherlaw09.PaxFinds" = some 8 by kernel_rfl).symm.trans hf) |>.symm
  obtain rfl : fn = Tryd.f8 := (Option.some.inj (Tryd.func8.symm.trans hfn)).symm
  refine ⟨by kernel_rfl, fun j t ht => ?_⟩
  rw [Tryd.params8] at ht
  have ht := Array.mem_of_getElem? ht
  simp only [List.mem_toArray, List.mem_cons, List.not_mem_nil, or_false] at ht
  rcases ht with rfl | rfl
  · exact (show Tryd.prog.wantsStandIn 23 = false by kernel_rfl)
  · exact (show Tryd.prog.wantsStandIn 9 = false by kernel_rfl)
/-- THE CARD of PaxFinds. -/
theorem finds_card : Rows.PaxFindsCardSaid :=
  Claim7.holds_tied_plain_at .later [] _ _ _ _ finds_said (fun _ h => by cases h) (by kernel_rfl) (fun _ h => by cases h) paxFinds_row_tie rfl ⟨rfl, rfl⟩ (by kernel_rfl) rfl finds_plain (by kernel_rfl)
end Go.Proofs.YtbcjhmeeonhmaaaDoor.H
end
