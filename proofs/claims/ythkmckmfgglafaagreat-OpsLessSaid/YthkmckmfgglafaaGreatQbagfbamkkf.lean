-- Written by a program of the session (a print of the seat's translation, functions given by hand among it). Lean checks it.
import Derived.Test.YthkmckmfgglafaaGreatQefmlpbeiik
import Derived.Test.YthkmckmfgglafaaGreatQjcdbecpohe
import Derived.Test.YthkmckmfgglafaaGreatQalikfpobko
namespace Go.Proofs.YthkmckmfgglafaaGreat.P
open Go.RowKit Go.Proofs.YthkmckmfgglafaaGreatW.PrintWords Go.Proofs.YthkmckmfgglafaaGreatW.PrintLast Go.Proofs.YthkmckmfgglafaaGreatW.PrintMore
attribute [local go_sem] max2_int min2_int max_two min_two max_three min_three max_four min_four   -- for this text's walks alone
set_option linter.unusedVariables false
set_option linter.unusedSimpArgs false
def computusref01_Plus.f (k : Nat) (a0_0 : Bool) (l0_1 : List Int) (a1_0 : Bool) (l1_1 : List Int) : Option (Bool × List Int) := if (a0_0 == a1_0) = true then ((computusref01_add.f k l0_1 l1_1).bind fun t515 => (some (a0_0, t515))) else ((computusref01_cmp.f k l0_1 l1_1).bind fun t518 => (if t518 ≥ 0 then (if a0_0 = true then ((computusref01_cmp.f k l0_1 l1_1).bind fun t519 => ((computusref01_less.f k l0_1 l1_1).bind fun t520 => (some (decide (t519 > 0), t520)))) else ((computusref01_less.f k l0_1 l1_1).bind fun t523 => (some (false, t523)))) else ((computusref01_less.f k l1_1 l0_1).bind fun t526 => (some (a1_0, t526)))))
theorem computusref01_Plus.mono : ∀ a0 a1 a2 a3 k, LeO (computusref01_Plus.f k a0 a1 a2 a3) (computusref01_Plus.f (k + 1) a0 a1 a2 a3) := by
  intro a0 a1 a2 a3 k
  unfold computusref01_Plus.f
  repeat' first
      | (with_reducible exact computusref01_add.mono _ _ _)
      | (with_reducible exact computusref01_cmp.mono _ _ _)
      | (with_reducible exact computusref01_less.mono _ _ _)
      | (with_reducible exact LeO.refl _)
      | (with_reducible exact LeO.none _)
      | (with_reducible refine LeO.ite ?_ ?_)
      | (with_reducible refine LeO.bind ?_ (fun _ => ?_))
      | exact computusref01_add.mono _ _ _
      | exact computusref01_cmp.mono _ _ _
      | exact computusref01_less.mono _ _ _
      | exact LeO.none _
      | refine LeO.ite ?_ ?_
      | refine LeO.bind ?_ (fun _ => ?_)
def computusref01_Plus.T2 : Bool × List (List Nat × List Nat) := (true, [([], []), ([0], [0]), ([], []), ([2], [2]), ([], []), ([4], [4]), ([3, 5], [3, 5]), ([1, 6], [1, 6]), ([7, 6, 0, 1, 2, 3, 4, 5, 6, 7], [7])])
def computusref01_Plus.B2 : List Nat := [0, 1, 0, 4, 0, 16, 60, 127, 255]
theorem computusref01_Plus.tab2 : rtab .any (opsOf Tryz.f138 2) = computusref01_Plus.T2 := by kernel_rfl
theorem computusref01_Plus.bits2 : waitsOk computusref01_Plus.T2.2 computusref01_Plus.B2 = true := by kernel_rfl
def computusref01_Plus.T4 : Bool × List (List Nat × List Nat) := (true, [([], []), ([0], [0]), ([1], [1]), ([2], [2]), ([3, 2], [2, 3]), ([2], [2]), ([5, 2], [2, 5]), ([4, 6, 2, 2], [2, 4, 6]), ([7, 2], [2, 7]), ([2, 8], [2, 8]), ([], []), ([10], [10]), ([], []), ([12], [12]), ([11, 13, 7], [11, 13]), ([9, 14], [9, 14]), ([15, 14, 0, 1, 2, 3, 4, 5, 6, 7, 8, 9, 10, 11, 12, 13, 14, 15], [15])])
def computusref01_Plus.B4 : List Nat := [0, 1, 3, 7, 15, 7, 39, 127, 255, 511, 0, 1024, 0, 4096, 15615, 32767, 65535]
theorem computusref01_Plus.tab4 : rtab .any (opsOf Tryz.f138 4) = computusref01_Plus.T4 := by kernel_rfl
theorem computusref01_Plus.bits4 : waitsOk computusref01_Plus.T4.2 computusref01_Plus.B4 = true := by kernel_rfl
def computusref01_Plus.T5 : Bool × List (List Nat × List Nat) := (true, [([], []), ([0], [0]), ([], []), ([2], [2]), ([], []), ([4], [4]), ([3, 5], [3, 5]), ([1, 6], [1, 6]), ([7, 6, 0, 1, 2, 3, 4, 5, 6, 7], [7])])
def computusref01_Plus.B5 : List Nat := [0, 1, 0, 4, 0, 16, 60, 127, 255]
theorem computusref01_Plus.tab5 : rtab .any (opsOf Tryz.f138 5) = computusref01_Plus.T5 := by kernel_rfl
theorem computusref01_Plus.bits5 : waitsOk computusref01_Plus.T5.2 computusref01_Plus.B5 = true := by kernel_rfl
set_option maxHeartbeats 8000000 in
set_option maxRecDepth 100000 in
theorem computusref01_Plus.calls (k : Nat) (a0_0 : Bool) (A0_1 : Option Addr) (c0_1 : Nat) (l0_1 : List Int) (a1_0 : Bool) (A1_1 : Option Addr) (c1_1 : Nat) (l1_1 : List Int) (r1 : Bool) (r2 : List Int) (w : World) (hr0_1 : Kd.C (Kd.int .u64) w A0_1 l0_1.length l0_1) (hc0_1 : l0_1.length ≤ c0_1) (hr1_1 : Kd.C (Kd.int .u64) w A1_1 l1_1.length l1_1) (hc1_1 : l1_1.length ≤ c1_1) (h : computusref01_Plus.f k a0_0 l0_1 a1_0 l1_1 = some (r1, r2)) :
    Calls Tryz.prog 138 #[.agg #[.bool a0_0, .slice A0_1 l0_1.length c0_1], .agg #[.bool a1_0, .slice A1_1 l1_1.length c1_1]] w fun e w' => ∃ v1_ : Value, e = .returned (.agg #[.bool r1, v1_]) ∧ Kd.R (Kd.int .u64) 169 w' w.heap.size (fun _ => True) v1_ r2 ∧ Below w.heap.size w w' := by
  have hu175 := Tryz.underlying175
  have HR0_1 := Aside0.mk hr0_1
  have HC0_1 := Aside0.mk hc0_1
  clear hr0_1 hc0_1
  have HR1_1 := Aside0.mk hr1_1
  have HC1_1 := Aside0.mk hc1_1
  clear hr1_1 hc1_1
  have HB := Aside0.mk (Below.refl w.heap.size w)
  have H : (if (a0_0 == a1_0) = true then ((computusref01_add.f k l0_1 l1_1).bind fun t515 => (some (a0_0, t515))) else ((computusref01_cmp.f k l0_1 l1_1).bind fun t518 => (if t518 ≥ 0 then (if a0_0 = true then ((computusref01_cmp.f k l0_1 l1_1).bind fun t519 => ((computusref01_less.f k l0_1 l1_1).bind fun t520 => (some (decide (t519 > 0), t520)))) else ((computusref01_less.f k l0_1 l1_1).bind fun t523 => (some (false, t523)))) else ((computusref01_less.f k l1_1 l0_1).bind fun t526 => (some (a1_0, t526)))))) = some (r1, r2) := h
  clear h
  by_cases c3 : (a0_0 == a1_0) = true
  · rw [if_pos c3] at H
    have c3b0 : (a0_0 == a1_0) = true := c3
    (try (have c3b1 : decide (a0_0 = a1_0) = true := by simpa using c3))
    (try (have c3b2 : (a0_0 == a1_0) = true := by simpa using c3))
    clear c3
    replace H := Option.bind_eq_some_iff.mp H
    obtain ⟨t515, A40, H⟩ := H
    replace H : (some (a0_0, t515)) = some (r1, r2) := H
    have A4 := Aside0.mk A40
    clear A40
    simp only [Option.some.injEq, Prod.mk.injEq] at H
    obtain ⟨rfl, rfl⟩ := H
    go_enter Tryz.func138, Tryz.ntmps138
    try go_wp2_with (first | ((with_reducible refine gate_dst (N := 2) rfl ?_); refine box_event ?hg (N := 2) ?hd (cs := #[.bool a0_0, .slice A0_1 l0_1.length c0_1]) (t := 175) ?hr ?_; (case hd => rfl); (case hg => rfl); (case hr => first | (go_simp; done) | (go_simp; rfl)); intro gb512 hg w5 hbox hb; have n0_ := Aside0.mk (kK (by repeat (first | (with_reducible first | exact HB.out | apply kC | apply kA | apply kB) | exact HB.out)) hb); have n1_ := Aside0.mk (hbox); have n2_ := Aside0.mk ((by rw [hg]; exact (kI (by repeat (first | (with_reducible first | exact HB.out | apply kC | apply kA | apply kB) | exact HB.out))) : w.heap.size ≤ gb512)); have n3_ := Aside0.mk ((by rw [hg]; exact (kI (by repeat (first | (with_reducible first | exact HB.out | apply kC | apply kA | apply kB) | exact HB.out))) : w.heap.size ≤ gb512)); clear HB; have HB := n0_; have BK512 := n1_; have GW512 := n2_; have GE512 := n3_; clear n0_ n1_ n2_ n3_; clear hb hbox hg) | ((with_reducible refine gate_dst (N := 3) rfl ?_); refine box_event ?hg (N := 3) ?hd (cs := #[.bool a1_0, .slice A1_1 l1_1.length c1_1]) (t := 175) ?hr ?_; (case hd => rfl); (case hg => rfl); (case hr => first | (go_simp; done) | (go_simp; rfl)); intro gb513 hg w6 hbox hb; have n0_ := Aside0.mk (kL (g := gb512) (o := .cells #[.bool a0_0, .slice A0_1 l0_1.length c0_1] 175 (0, 0)) (by (with_reducible repeat (first | refine kF ?_ _ | refine kG ?_ | refine kE ?_ _)); exact BK512.out) hb); have n1_ := Aside0.mk (kK (by repeat (first | (with_reducible first | exact HB.out | apply kC | apply kA | apply kB | refine kD ?_ GE512.out) | exact HB.out)) hb); have n2_ := Aside0.mk (hbox); have n3_ := Aside0.mk ((by rw [hg]; exact (kI (by repeat (first | (with_reducible first | exact HB.out | apply kC | apply kA | apply kB | refine kD ?_ GE512.out) | exact HB.out))) : w.heap.size ≤ gb513)); have n4_ := Aside0.mk ((by rw [hg]; exact (kI (by repeat (first | (with_reducible first | exact HB.out | apply kC | apply kA | apply kB | refine kD ?_ GE512.out) | exact HB.out))) : w.heap.size ≤ gb513)); have n5_ := Aside0.mk ((by rw [hg]; exact Nat.ne_of_lt (blk_lt (g := gb512) (o := .cells #[.bool a0_0, .slice A0_1 l0_1.length c0_1] 175 (0, 0)) (by (with_reducible repeat (first | refine kF ?_ _ | refine kG ?_ | refine kE ?_ _)); exact BK512.out)) : gb512 ≠ gb513)); have n6_ := Aside0.mk ((by rw [hg]; exact Nat.ne_of_gt (blk_lt (g := gb512) (o := .cells #[.bool a0_0, .slice A0_1 l0_1.length c0_1] 175 (0, 0)) (by (with_reducible repeat (first | refine kF ?_ _ | refine kG ?_ | refine kE ?_ _)); exact BK512.out)) : gb513 ≠ gb512)); clear BK512; clear HB; have BK512 := n0_; have HB := n1_; have BK513 := n2_; have GW513 := n3_; have GE513 := n4_; have NB512_513 := n5_; have NB513_512 := n6_; clear n0_ n1_ n2_ n3_ n4_ n5_ n6_; clear hb hbox hg) | ((with_reducible refine gate_dst (N := 4) rfl ?_); refine box_event ?hg (N := 4) ?hd (cs := #[.bool false, .slice none 0 0]) (t := 175) ?hr ?_; (case hd => rfl); (case hg => rfl); (case hr => first | (go_simp; done) | (go_simp; rfl)); intro gb514 hg w7 hbox hb; have n0_ := Aside0.mk (kL (g := gb512) (o := .cells #[.bool a0_0, .slice A0_1 l0_1.length c0_1] 175 (0, 0)) (by (with_reducible repeat (first | refine kF ?_ _ | refine kG ?_ | refine kE ?_ _)); exact BK512.out) hb); have n1_ := Aside0.mk (kL (g := gb513) (o := .cells #[.bool a1_0, .slice A1_1 l1_1.length c1_1] 175 (0, 0)) (by (with_reducible repeat (first | refine kF ?_ _ | refine kG ?_ | refine kE ?_ _)); exact BK513.out) hb); have n2_ := Aside0.mk (kK (by repeat (first | (with_reducible first | exact HB.out | apply kC | apply kA | apply kB | refine kD ?_ GE512.out | refine kD ?_ GE513.out) | exact HB.out)) hb); have n3_ := Aside0.mk (hbox); have n4_ := Aside0.mk ((by rw [hg]; exact (kI (by repeat (first | (with_reducible first | exact HB.out | apply kC | apply kA | apply kB | refine kD ?_ GE512.out | refine kD ?_ GE513.out) | exact HB.out))) : w.heap.size ≤ gb514)); have n5_ := Aside0.mk ((by rw [hg]; exact (kI (by repeat (first | (with_reducible first | exact HB.out | apply kC | apply kA | apply kB | refine kD ?_ GE512.out | refine kD ?_ GE513.out) | exact HB.out))) : w.heap.size ≤ gb514)); have n6_ := Aside0.mk ((by rw [hg]; exact Nat.ne_of_lt (blk_lt (g := gb512) (o := .cells #[.bool a0_0, .slice A0_1 l0_1.length c0_1] 175 (0, 0)) (by (with_reducible repeat (first | refine kF ?_ _ | refine kG ?_ | refine kE ?_ _)); exact BK512.out)) : gb512 ≠ gb514)); have n7_ := Aside0.mk ((by rw [hg]; exact Nat.ne_of_gt (blk_lt (g := gb512) (o := .cells #[.bool a0_0, .slice A0_1 l0_1.length c0_1] 175 (0, 0)) (by (with_reducible repeat (first | refine kF ?_ _ | refine kG ?_ | refine kE ?_ _)); exact BK512.out)) : gb514 ≠ gb512)); have n8_ := Aside0.mk ((by rw [hg]; exact Nat.ne_of_lt (blk_lt (g := gb513) (o := .cells #[.bool a1_0, .slice A1_1 l1_1.length c1_1] 175 (0, 0)) (by (with_reducible repeat (first | refine kF ?_ _ | refine kG ?_ | refine kE ?_ _)); exact BK513.out)) : gb513 ≠ gb514)); have n9_ := Aside0.mk ((by rw [hg]; exact Nat.ne_of_gt (blk_lt (g := gb513) (o := .cells #[.bool a1_0, .slice A1_1 l1_1.length c1_1] 175 (0, 0)) (by (with_reducible repeat (first | refine kF ?_ _ | refine kG ?_ | refine kE ?_ _)); exact BK513.out)) : gb514 ≠ gb513)); clear BK512; clear BK513; clear HB; have BK512 := n0_; have BK513 := n1_; have HB := n2_; have BK514 := n3_; have GW514 := n4_; have GE514 := n5_; have NB512_514 := n6_; have NB514_512 := n7_; have NB513_514 := n8_; have NB514_513 := n9_; clear n0_ n1_ n2_ n3_ n4_ n5_ n6_ n7_ n8_ n9_; clear hb hbox hg; have hnb8 := NB512_513.out; have hnc8 := NB513_512.out; have hnb9 := NB512_514.out; have hnc9 := NB514_512.out; have hcz10_0 : w7.cell? ⟨gb512, 0, none⟩ = some (.bool a0_0) := (kH BK512.out 0).trans rfl; have hcz10_1 : w7.cell? ⟨gb512, 1, none⟩ = some (.slice A0_1 l0_1.length c0_1) := (kH BK512.out 1).trans rfl; have hfz10_0 := kJ BK512.out 0; have hfz10_1 := kJ BK512.out 1; have hnb11 := NB513_514.out; have hnc11 := NB514_513.out; have hcz12_0 : w7.cell? ⟨gb513, 0, none⟩ = some (.bool a1_0) := (kH BK513.out 0).trans rfl; have hcz12_1 : w7.cell? ⟨gb513, 1, none⟩ = some (.slice A1_1 l1_1.length c1_1) := (kH BK513.out 1).trans rfl; have hfz12_0 := kJ BK513.out 0; have hfz12_1 := kJ BK513.out 1))
    have n0_ := Aside0.mk (kG BK512.out)
    have n1_ := Aside0.mk (kG BK513.out)
    have n2_ := Aside0.mk (kG BK514.out)
    have n3_ := Aside0.mk (kB HB.out)
    clear BK512
    clear BK513
    clear BK514
    clear HB
    have BK512 := n0_
    have BK513 := n1_
    have BK514 := n2_
    have HB := n3_
    clear n0_ n1_ n2_ n3_
    refine start_ (n := 9) (S := fun w' => w'.cell? ⟨gb512, 0, none⟩ = some (.bool a0_0) ∧ w'.cell? ⟨gb512, 1, none⟩ = some (.slice A0_1 l0_1.length c0_1) ∧ w'.cell? ⟨gb513, 0, none⟩ = some (.bool a1_0) ∧ w'.cell? ⟨gb513, 1, none⟩ = some (.slice A1_1 l1_1.length c1_1)) (ds := []) #[false, false, false, false, false, false, false, false, false] (by kernel_rfl) rfl rfl ⟨(kH BK512.out 0).trans rfl, (kH BK512.out 1).trans rfl, (kH BK513.out 0).trans rfl, (kH BK513.out 1).trans rfl⟩ (fun hHeld => ?_); refine with_tabW computusref01_Plus.tab2 computusref01_Plus.bits2 (fun HT_ HW_ => ?_)
    generalize w7.drew = w13 at BK512 BK513 BK514 HB hHeld ⊢
    refine pure_ (i := 0) (N := some 10) (v := ?_) (a' := ?_) #[true, false, false, false, false, false, false, false, false] rfl rfl (any_of HT_.out (by kernel_rfl)) (fun _ _ _ h => h) (Or.inl ⟨by rfl, ?_⟩) ?_ ?_
    rotate_left
    · intro w'
      go_simp
      with_reducible rfl
    rotate_left
    · simp only [Act.put, List.setIfInBounds_toArray, List.set_cons_zero, List.set_cons_succ, i64_w, i32_w]
      rfl
    refine pure_ (i := 2) (N := some 12) (v := ?_) (a' := ?_) #[true, false, true, false, false, false, false, false, false] rfl rfl (any_of HT_.out (by kernel_rfl)) (fun _ _ _ h => h) (Or.inl ⟨by rfl, ?_⟩) ?_ ?_
    rotate_left
    · intro w'
      go_simp
      with_reducible rfl
    rotate_left
    · simp only [Act.put, List.setIfInBounds_toArray, List.set_cons_zero, List.set_cons_succ, i64_w, i32_w]
      rfl
    refine pure_ (i := 4) (N := some 14) (v := ?_) (a' := ?_) #[true, false, true, false, true, false, false, false, false] rfl rfl (any_of HT_.out (by kernel_rfl)) (fun _ _ _ h => h) (Or.inl ⟨by rfl, ?_⟩) ?_ ?_
    rotate_left
    · intro w'
      go_simp
      with_reducible rfl
    rotate_left
    · simp only [Act.put, List.setIfInBounds_toArray, List.set_cons_zero, List.set_cons_succ, i64_w, i32_w]
      rfl
    refine take_ (i := 1) (N := some 11) (v := ?_) (a' := ?_) #[true, true, true, false, true, false, false, false, false] rfl rfl (take_ofW HT_.out HW_.out (by kernel_rfl)) (fun _ _ _ h => h) (Or.inl ⟨by rfl, ?_⟩) hHeld ?_ ?_
    rotate_left
    · rintro w' ⟨s0, s1, s2, s3⟩
      go_simp
      with_reducible rfl
    rotate_left
    · simp only [Act.put, List.setIfInBounds_toArray, List.set_cons_zero, List.set_cons_succ, i64_w, i32_w]
      rfl
    refine take_ (i := 3) (N := some 13) (v := ?_) (a' := ?_) #[true, true, true, true, true, false, false, false, false] rfl rfl (take_ofW HT_.out HW_.out (by kernel_rfl)) (fun _ _ _ h => h) (Or.inl ⟨by rfl, ?_⟩) hHeld ?_ ?_
    rotate_left
    · rintro w' ⟨s0, s1, s2, s3⟩
      go_simp
      with_reducible rfl
    rotate_left
    · simp only [Act.put, List.setIfInBounds_toArray, List.set_cons_zero, List.set_cons_succ, i64_w, i32_w]
      rfl
    refine take_ (i := 5) (N := some 15) (v := ?_) (a' := ?_) #[true, true, true, true, true, true, false, false, false] rfl rfl (take_ofW HT_.out HW_.out (by kernel_rfl)) (fun _ _ _ h => h) (Or.inl ⟨by rfl, ?_⟩) hHeld ?_ ?_
    rotate_left
    · rintro w' ⟨s0, s1, s2, s3⟩
      go_simp
      with_reducible rfl
    rotate_left
    · simp only [Act.put, List.setIfInBounds_toArray, List.set_cons_zero, List.set_cons_succ, i64_w, i32_w]
      rfl
    refine one_ (i := 6) (N := some 16) #[true, true, true, true, true, true, true, false, false] rfl rfl (one_of HT_.out (by kernel_rfl)) (by decide) (fun K hK => ?_)
    refine goes_ Tryz.func182 (by kernel_rfl) rfl #[.slice A0_1 l0_1.length c0_1, .slice A1_1 l1_1.length c1_1] (by rfl) rfl rfl (by (try simp only [List.map_toArray, List.map_cons, List.map_nil]); first | done | rfl | (simp only [List.length_drop, List.length_take]; rfl)) ?_
    with_reducible refine (computusref01_add.calls k _ _ l0_1 _ _ l1_1 t515 _ ?side1 ?side2 ?side3 ?side4 A4.out).mono ?_
    (case side1 => repeat (first | exact (Kd.C_below HR0_1.out HB.out) | (with_reducible refine Kd.C_alloc ?_ _) | (with_reducible refine Kd.C_drewN ?_ _) | (with_reducible refine Kd.C_drew ?_)))
    (case side2 => exact HC0_1.out)
    (case side3 => repeat (first | exact (Kd.C_below HR1_1.out HB.out) | (with_reducible refine Kd.C_alloc ?_ _) | (with_reducible refine Kd.C_drewN ?_ _) | (with_reducible refine Kd.C_drew ?_)))
    (case side4 => exact HC1_1.out)
    rintro e w14 ⟨v516, rfl, ho0, hb⟩
    refine ⟨_, rfl, ?_⟩
    have n0_ := Aside0.mk (Kd.R_lower ho0 (kI (by repeat (first | (with_reducible first | exact HB.out | apply kC | apply kA | apply kB | refine kD ?_ GE512.out | refine kD ?_ GE513.out | refine kD ?_ GE514.out) | exact HB.out))))
    have n1_ := Aside0.mk (kL (g := gb512) (o := .cells #[.bool a0_0, .slice A0_1 l0_1.length c0_1] 175 (0, 0)) (by (with_reducible repeat (first | refine kF ?_ _ | refine kG ?_ | refine kE ?_ _)); exact BK512.out) hb)
    have n2_ := Aside0.mk (kL (g := gb513) (o := .cells #[.bool a1_0, .slice A1_1 l1_1.length c1_1] 175 (0, 0)) (by (with_reducible repeat (first | refine kF ?_ _ | refine kG ?_ | refine kE ?_ _)); exact BK513.out) hb)
    have n3_ := Aside0.mk (kL (g := gb514) (o := .cells #[.bool false, .slice none 0 0] 175 (0, 0)) (by (with_reducible repeat (first | refine kF ?_ _ | refine kG ?_ | refine kE ?_ _)); exact BK514.out) hb)
    have n4_ := Aside0.mk (kK (by repeat (first | (with_reducible first | exact HB.out | apply kC | apply kA | apply kB | refine kD ?_ GE512.out | refine kD ?_ GE513.out | refine kD ?_ GE514.out) | exact HB.out)) hb)
    clear BK512
    clear BK513
    clear BK514
    clear HB
    have HO517 := n0_
    have BK512 := n1_
    have BK513 := n2_
    have BK514 := n3_
    have HB := n4_
    clear n0_ n1_ n2_ n3_ n4_
    (try clear hb)
    (try clear hb2)
    (try clear hk)
    (try clear hi)
    (try clear ho0)
    obtain ⟨Ao15, co15, eo15⟩ := Kd.R_slice HO517.out
    (first | subst eo15 | (injection eo15 with f1_ f2_ f3_; have f4_ := f1_.symm; have f5_ := f3_.symm; clear f1_ f2_ f3_; subst f4_; subst f5_))
    refine hK.out _ _ ⟨(kH BK512.out 0).trans rfl, (kH BK512.out 1).trans rfl, (kH BK513.out 0).trans rfl, (kH BK513.out 1).trans rfl⟩ (fun hHeld => ?_)
    clear hK K
    refine norm_ (a' := ?_) ?_ ?_
    rotate_left
    · show Act.put _ (some 16) _ = _
      simp only [Act.put, List.setIfInBounds_toArray, List.set_cons_zero, List.set_cons_succ, i64_w, i32_w]
      rfl
    refine pure_ (i := 7) (N := some 17) (v := ?_) (a' := ?_) #[true, true, true, true, true, true, true, true, false] rfl rfl (any_of HT_.out (by kernel_rfl)) (fun _ _ _ h => h) (Or.inl ⟨by rfl, ?_⟩) ?_ ?_
    rotate_left
    · intro w'
      go_simp
      with_reducible rfl
    rotate_left
    · simp only [Act.put, List.setIfInBounds_toArray, List.set_cons_zero, List.set_cons_succ, i64_w, i32_w]
      rfl
    refine one_ (i := 8) (N := none) #[true, true, true, true, true, true, true, true, true] rfl rfl (one_of HT_.out (by kernel_rfl)) (by decide) (fun K hK => ?_)
    have hs16 : w14.cell? ⟨gb514, 0, none⟩ = some (.bool false) := (kH BK514.out 0).trans rfl
    have hfs16 := kJ BK514.out 0
    have hns16_0 := NB512_514.out
    have hns16_1 := NB513_514.out
    have hms16_0 := NB514_512.out
    have hms16_1 := NB514_513.out
    have hs17 : w14.cell? ⟨gb514, 1, none⟩ = some (.slice none 0 0) := (kH BK514.out 1).trans rfl
    have hfs17 := kJ BK514.out 1
    have hns17_0 := NB512_514.out
    have hns17_1 := NB513_514.out
    have hms17_0 := NB514_512.out
    have hms17_1 := NB514_513.out
    refine skip_ (w1 := ?_) (by rfl) rfl ?_ ?_
    rotate_left
    · go_simp
      rfl
    refine hK.out _ _ ⟨((cell_far (p := ⟨gb514, _, none⟩) NB512_514.out _).trans (((cell_far (p := ⟨gb514, _, none⟩) NB512_514.out _).trans (hHeld.1)))), ((cell_far (p := ⟨gb514, _, none⟩) NB512_514.out _).trans (((cell_far (p := ⟨gb514, _, none⟩) NB512_514.out _).trans (hHeld.2.1)))), ((cell_far (p := ⟨gb514, _, none⟩) NB513_514.out _).trans (((cell_far (p := ⟨gb514, _, none⟩) NB513_514.out _).trans (hHeld.2.2.1)))), ((cell_far (p := ⟨gb514, _, none⟩) NB513_514.out _).trans (((cell_far (p := ⟨gb514, _, none⟩) NB513_514.out _).trans (hHeld.2.2.2))))⟩ (fun hHeld => ?_)
    clear hK K
    refine done_ (done_of HT_.out (by kernel_rfl)) ?_
    try go_wp2
    refine bodyPost_ret (results_cell_row rfl _ _ gb514 175 #[.bool a0_0, .slice Ao15 t515.length co15] (0, 0) _ rfl (by (with_reducible repeat (first | refine kF ?_ _ | refine kG ?_ | refine kE ?_ _)); refine blk_put (cs := #[.bool a0_0, .slice none 0 0]) ?_ 1 _ rfl; (with_reducible repeat (first | refine kF ?_ _ | refine kG ?_ | refine kE ?_ _)); refine blk_put (cs := #[.bool false, .slice none 0 0]) ?_ 0 _ rfl; (with_reducible repeat (first | refine kF ?_ _ | refine kG ?_ | refine kE ?_ _)); exact BK514.out) Tryz.underlying175 rfl (by kernel_rfl)) rfl ?_
    exact ⟨_, by first | rfl | (simp [errW_none, errW_some] <;> rfl) | (simp [*, errW_none, errW_some] <;> rfl), by (with_reducible repeat (first | apply Kd.R_alloc | apply Kd.R_drewN | apply Kd.R_drew)); exact Kd.R_mono (Kd.R_far (p := ⟨gb514, 1, none⟩) (Kd.R_far (p := ⟨gb514, 0, none⟩) (Kd.R_types HO517.out BK514.out (by decide)) (fun _ hk => hk.2) (.bool a0_0)) (fun _ hk => hk.2) (.slice Ao15 t515.length co15)) (fun _ hk => trivial), by repeat (first | (with_reducible first | exact HB.out | apply kC | apply kA | apply kB | refine kD ?_ GE512.out | refine kD ?_ GE513.out | refine kD ?_ GE514.out) | exact HB.out)⟩
  · rw [if_neg c3] at H
    have c3b0 : (a0_0 == a1_0) = false := by simpa using c3
    (try (have c3b1 : decide (a0_0 = a1_0) = false := by simpa using c3))
    (try (have c3b2 : (a0_0 == a1_0) = false := by simpa using c3))
    (try (have c3b3 : ¬ (a0_0 = a1_0) := by simpa using c3))
    clear c3
    replace H := Option.bind_eq_some_iff.mp H
    obtain ⟨t518, A180, H⟩ := H
    replace H : (if t518 ≥ 0 then (if a0_0 = true then ((computusref01_cmp.f k l0_1 l1_1).bind fun t519 => ((computusref01_less.f k l0_1 l1_1).bind fun t520 => (some (decide (t519 > 0), t520)))) else ((computusref01_less.f k l0_1 l1_1).bind fun t523 => (some (false, t523)))) else ((computusref01_less.f k l1_1 l0_1).bind fun t526 => (some (a1_0, t526)))) = some (r1, r2) := H
    have A18 := Aside0.mk A180
    clear A180
    by_cases c19 : t518 ≥ 0
    · rw [if_pos c19] at H
      have c19b0 : decide (0 ≤ t518) = true := decide_eq_true c19
      clear c19
      by_cases c20 : a0_0 = true
      · subst c20
        have H1 : ((computusref01_cmp.f k l0_1 l1_1).bind fun t519 => ((computusref01_less.f k l0_1 l1_1).bind fun t520 => (some (decide (t519 > 0), t520)))) = some (r1, r2) := by rw [if_pos rfl] at H; exact H
        clear H
        have H := H1
        clear H1
        replace H := Option.bind_eq_some_iff.mp H
        obtain ⟨t519, A210, H⟩ := H
        replace H : ((computusref01_less.f k l0_1 l1_1).bind fun t520 => (some (decide (t519 > 0), t520))) = some (r1, r2) := H
        have A21 := Aside0.mk A210
        clear A210
        replace H := Option.bind_eq_some_iff.mp H
        obtain ⟨t520, A220, H⟩ := H
        replace H : (some (decide (t519 > 0), t520)) = some (r1, r2) := H
        have A22 := Aside0.mk A220
        clear A220
        simp only [Option.some.injEq, Prod.mk.injEq] at H
        obtain ⟨rfl, rfl⟩ := H
        go_enter Tryz.func138, Tryz.ntmps138
        try go_wp2_with (first | ((with_reducible refine gate_dst (N := 2) rfl ?_); refine box_event ?hg (N := 2) ?hd (cs := #[.bool true, .slice A0_1 l0_1.length c0_1]) (t := 175) ?hr ?_; (case hd => rfl); (case hg => rfl); (case hr => first | (go_simp; done) | (go_simp; rfl)); intro gb512 hg w23 hbox hb; have n0_ := Aside0.mk (kK (by repeat (first | (with_reducible first | exact HB.out | apply kC | apply kA | apply kB) | exact HB.out)) hb); have n1_ := Aside0.mk (hbox); have n2_ := Aside0.mk ((by rw [hg]; exact (kI (by repeat (first | (with_reducible first | exact HB.out | apply kC | apply kA | apply kB) | exact HB.out))) : w.heap.size ≤ gb512)); have n3_ := Aside0.mk ((by rw [hg]; exact (kI (by repeat (first | (with_reducible first | exact HB.out | apply kC | apply kA | apply kB) | exact HB.out))) : w.heap.size ≤ gb512)); clear HB; have HB := n0_; have BK512 := n1_; have GW512 := n2_; have GE512 := n3_; clear n0_ n1_ n2_ n3_; clear hb hbox hg) | ((with_reducible refine gate_dst (N := 3) rfl ?_); refine box_event ?hg (N := 3) ?hd (cs := #[.bool a1_0, .slice A1_1 l1_1.length c1_1]) (t := 175) ?hr ?_; (case hd => rfl); (case hg => rfl); (case hr => first | (go_simp; done) | (go_simp; rfl)); intro gb513 hg w24 hbox hb; have n0_ := Aside0.mk (kL (g := gb512) (o := .cells #[.bool true, .slice A0_1 l0_1.length c0_1] 175 (0, 0)) (by (with_reducible repeat (first | refine kF ?_ _ | refine kG ?_ | refine kE ?_ _)); exact BK512.out) hb); have n1_ := Aside0.mk (kK (by repeat (first | (with_reducible first | exact HB.out | apply kC | apply kA | apply kB | refine kD ?_ GE512.out) | exact HB.out)) hb); have n2_ := Aside0.mk (hbox); have n3_ := Aside0.mk ((by rw [hg]; exact (kI (by repeat (first | (with_reducible first | exact HB.out | apply kC | apply kA | apply kB | refine kD ?_ GE512.out) | exact HB.out))) : w.heap.size ≤ gb513)); have n4_ := Aside0.mk ((by rw [hg]; exact (kI (by repeat (first | (with_reducible first | exact HB.out | apply kC | apply kA | apply kB | refine kD ?_ GE512.out) | exact HB.out))) : w.heap.size ≤ gb513)); have n5_ := Aside0.mk ((by rw [hg]; exact Nat.ne_of_lt (blk_lt (g := gb512) (o := .cells #[.bool true, .slice A0_1 l0_1.length c0_1] 175 (0, 0)) (by (with_reducible repeat (first | refine kF ?_ _ | refine kG ?_ | refine kE ?_ _)); exact BK512.out)) : gb512 ≠ gb513)); have n6_ := Aside0.mk ((by rw [hg]; exact Nat.ne_of_gt (blk_lt (g := gb512) (o := .cells #[.bool true, .slice A0_1 l0_1.length c0_1] 175 (0, 0)) (by (with_reducible repeat (first | refine kF ?_ _ | refine kG ?_ | refine kE ?_ _)); exact BK512.out)) : gb513 ≠ gb512)); clear BK512; clear HB; have BK512 := n0_; have HB := n1_; have BK513 := n2_; have GW513 := n3_; have GE513 := n4_; have NB512_513 := n5_; have NB513_512 := n6_; clear n0_ n1_ n2_ n3_ n4_ n5_ n6_; clear hb hbox hg) | ((with_reducible refine gate_dst (N := 4) rfl ?_); refine box_event ?hg (N := 4) ?hd (cs := #[.bool false, .slice none 0 0]) (t := 175) ?hr ?_; (case hd => rfl); (case hg => rfl); (case hr => first | (go_simp; done) | (go_simp; rfl)); intro gb514 hg w25 hbox hb; have n0_ := Aside0.mk (kL (g := gb512) (o := .cells #[.bool true, .slice A0_1 l0_1.length c0_1] 175 (0, 0)) (by (with_reducible repeat (first | refine kF ?_ _ | refine kG ?_ | refine kE ?_ _)); exact BK512.out) hb); have n1_ := Aside0.mk (kL (g := gb513) (o := .cells #[.bool a1_0, .slice A1_1 l1_1.length c1_1] 175 (0, 0)) (by (with_reducible repeat (first | refine kF ?_ _ | refine kG ?_ | refine kE ?_ _)); exact BK513.out) hb); have n2_ := Aside0.mk (kK (by repeat (first | (with_reducible first | exact HB.out | apply kC | apply kA | apply kB | refine kD ?_ GE512.out | refine kD ?_ GE513.out) | exact HB.out)) hb); have n3_ := Aside0.mk (hbox); have n4_ := Aside0.mk ((by rw [hg]; exact (kI (by repeat (first | (with_reducible first | exact HB.out | apply kC | apply kA | apply kB | refine kD ?_ GE512.out | refine kD ?_ GE513.out) | exact HB.out))) : w.heap.size ≤ gb514)); have n5_ := Aside0.mk ((by rw [hg]; exact (kI (by repeat (first | (with_reducible first | exact HB.out | apply kC | apply kA | apply kB | refine kD ?_ GE512.out | refine kD ?_ GE513.out) | exact HB.out))) : w.heap.size ≤ gb514)); have n6_ := Aside0.mk ((by rw [hg]; exact Nat.ne_of_lt (blk_lt (g := gb512) (o := .cells #[.bool true, .slice A0_1 l0_1.length c0_1] 175 (0, 0)) (by (with_reducible repeat (first | refine kF ?_ _ | refine kG ?_ | refine kE ?_ _)); exact BK512.out)) : gb512 ≠ gb514)); have n7_ := Aside0.mk ((by rw [hg]; exact Nat.ne_of_gt (blk_lt (g := gb512) (o := .cells #[.bool true, .slice A0_1 l0_1.length c0_1] 175 (0, 0)) (by (with_reducible repeat (first | refine kF ?_ _ | refine kG ?_ | refine kE ?_ _)); exact BK512.out)) : gb514 ≠ gb512)); have n8_ := Aside0.mk ((by rw [hg]; exact Nat.ne_of_lt (blk_lt (g := gb513) (o := .cells #[.bool a1_0, .slice A1_1 l1_1.length c1_1] 175 (0, 0)) (by (with_reducible repeat (first | refine kF ?_ _ | refine kG ?_ | refine kE ?_ _)); exact BK513.out)) : gb513 ≠ gb514)); have n9_ := Aside0.mk ((by rw [hg]; exact Nat.ne_of_gt (blk_lt (g := gb513) (o := .cells #[.bool a1_0, .slice A1_1 l1_1.length c1_1] 175 (0, 0)) (by (with_reducible repeat (first | refine kF ?_ _ | refine kG ?_ | refine kE ?_ _)); exact BK513.out)) : gb514 ≠ gb513)); clear BK512; clear BK513; clear HB; have BK512 := n0_; have BK513 := n1_; have HB := n2_; have BK514 := n3_; have GW514 := n4_; have GE514 := n5_; have NB512_514 := n6_; have NB514_512 := n7_; have NB513_514 := n8_; have NB514_513 := n9_; clear n0_ n1_ n2_ n3_ n4_ n5_ n6_ n7_ n8_ n9_; clear hb hbox hg; have hnb26 := NB512_513.out; have hnc26 := NB513_512.out; have hnb27 := NB512_514.out; have hnc27 := NB514_512.out; have hcz28_0 : w25.cell? ⟨gb512, 0, none⟩ = some (.bool true) := (kH BK512.out 0).trans rfl; have hcz28_1 : w25.cell? ⟨gb512, 1, none⟩ = some (.slice A0_1 l0_1.length c0_1) := (kH BK512.out 1).trans rfl; have hfz28_0 := kJ BK512.out 0; have hfz28_1 := kJ BK512.out 1; have hnb29 := NB513_514.out; have hnc29 := NB514_513.out; have hcz30_0 : w25.cell? ⟨gb513, 0, none⟩ = some (.bool a1_0) := (kH BK513.out 0).trans rfl; have hcz30_1 : w25.cell? ⟨gb513, 1, none⟩ = some (.slice A1_1 l1_1.length c1_1) := (kH BK513.out 1).trans rfl; have hfz30_0 := kJ BK513.out 0; have hfz30_1 := kJ BK513.out 1) | ((with_reducible refine kM (f := 183) rfl ?_); refine goesL_ (some 22) rfl rfl Tryz.func183 (by kernel_rfl) rfl #[.slice A0_1 l0_1.length c0_1, .slice A1_1 l1_1.length c1_1] rfl (by (try simp only [List.map_toArray, List.map_cons, List.map_nil]); first | done | rfl | (simp only [List.length_drop, List.length_take]; rfl)) ?_; (with_reducible refine (computusref01_cmp.calls k _ _ l0_1 _ _ l1_1 t518 _ ?side1 ?side2 ?side3 ?side4 A18.out).mono ?_); (case side1 => repeat (first | exact (Kd.C_below HR0_1.out HB.out) | (with_reducible refine Kd.C_alloc ?_ _) | (with_reducible refine Kd.C_drewN ?_ _) | (with_reducible refine Kd.C_drew ?_))); (case side2 => exact HC0_1.out); (case side3 => repeat (first | exact (Kd.C_below HR1_1.out HB.out) | (with_reducible refine Kd.C_alloc ?_ _) | (with_reducible refine Kd.C_drewN ?_ _) | (with_reducible refine Kd.C_drew ?_))); (case side4 => exact HC1_1.out); rintro e w' ⟨rfl, ⟨nd, rfl⟩⟩; refine ⟨_, rfl, ?_⟩; (try (rw [drewN_self w25]; generalize hq_ : World.drewN w25 _ = w25; have n0_ : Aside0 (w25.heap[gb512]? = some (.cells #[.bool true, .slice A0_1 l0_1.length c0_1] 175 (0, 0))) := ⟨by rw [← hq_]; exact (by (with_reducible repeat (first | refine kF ?_ _ | refine kG ?_ | refine kE ?_ _)); exact BK512.out)⟩; have n1_ : Aside0 (w25.heap[gb513]? = some (.cells #[.bool a1_0, .slice A1_1 l1_1.length c1_1] 175 (0, 0))) := ⟨by rw [← hq_]; exact (by (with_reducible repeat (first | refine kF ?_ _ | refine kG ?_ | refine kE ?_ _)); exact BK513.out)⟩; have n2_ : Aside0 (w25.heap[gb514]? = some (.cells #[.bool false, .slice none 0 0] 175 (0, 0))) := ⟨by rw [← hq_]; exact (by (with_reducible repeat (first | refine kF ?_ _ | refine kG ?_ | refine kE ?_ _)); exact BK514.out)⟩; have n3_ : Aside0 (Below w.heap.size w w25) := ⟨by rw [← hq_]; exact (by repeat (first | (with_reducible first | exact HB.out | apply kC | apply kA | apply kB | refine kD ?_ GE512.out | refine kD ?_ GE513.out | refine kD ?_ GE514.out) | exact HB.out))⟩; clear BK512 BK513 BK514 HB hq_; have BK512 := n0_; have BK513 := n1_; have BK514 := n2_; have HB := n3_; clear n0_ n1_ n2_ n3_; (try have hcz28_0 : w25.cell? ⟨gb512, 0, none⟩ = some (.bool true) := (kH BK512.out 0).trans rfl); (try have hcz28_1 : w25.cell? ⟨gb512, 1, none⟩ = some (.slice A0_1 l0_1.length c0_1) := (kH BK512.out 1).trans rfl); (try have hcz30_0 : w25.cell? ⟨gb513, 0, none⟩ = some (.bool a1_0) := (kH BK513.out 0).trans rfl); (try have hcz30_1 : w25.cell? ⟨gb513, 1, none⟩ = some (.slice A1_1 l1_1.length c1_1) := (kH BK513.out 1).trans rfl)))))
        have n0_ := Aside0.mk (kG BK512.out)
        have n1_ := Aside0.mk (kG BK513.out)
        have n2_ := Aside0.mk (kG BK514.out)
        have n3_ := Aside0.mk (kB HB.out)
        clear BK512
        clear BK513
        clear BK514
        clear HB
        have BK512 := n0_
        have BK513 := n1_
        have BK514 := n2_
        have HB := n3_
        clear n0_ n1_ n2_ n3_
        refine start_ (n := 17) (S := fun w' => w'.cell? ⟨gb512, 0, none⟩ = some (.bool true) ∧ w'.cell? ⟨gb512, 1, none⟩ = some (.slice A0_1 l0_1.length c0_1) ∧ w'.cell? ⟨gb513, 0, none⟩ = some (.bool a1_0) ∧ w'.cell? ⟨gb513, 1, none⟩ = some (.slice A1_1 l1_1.length c1_1)) (ds := []) #[false, false, false, false, false, false, false, false, false, false, false, false, false, false, false, false, false] (by kernel_rfl) rfl rfl ⟨(kH BK512.out 0).trans rfl, (kH BK512.out 1).trans rfl, (kH BK513.out 0).trans rfl, (kH BK513.out 1).trans rfl⟩ (fun hHeld => ?_); refine with_tabW computusref01_Plus.tab4 computusref01_Plus.bits4 (fun HT_ HW_ => ?_)
        generalize w25.drew = w31 at BK512 BK513 BK514 HB hHeld ⊢
        refine pure_ (i := 0) (N := some 24) (v := ?_) (a' := ?_) #[true, false, false, false, false, false, false, false, false, false, false, false, false, false, false, false, false] rfl rfl (any_of HT_.out (by kernel_rfl)) (fun _ _ _ h => h) (Or.inl ⟨by rfl, ?_⟩) ?_ ?_
        rotate_left
        · intro w'
          go_simp
          with_reducible rfl
        rotate_left
        · simp only [Act.put, List.setIfInBounds_toArray, List.set_cons_zero, List.set_cons_succ, i64_w, i32_w]
          rfl
        refine pure_ (i := 10) (N := some 34) (v := ?_) (a' := ?_) #[true, false, false, false, false, false, false, false, false, false, true, false, false, false, false, false, false] rfl rfl (any_of HT_.out (by kernel_rfl)) (fun _ _ _ h => h) (Or.inl ⟨by rfl, ?_⟩) ?_ ?_
        rotate_left
        · intro w'
          go_simp
          with_reducible rfl
        rotate_left
        · simp only [Act.put, List.setIfInBounds_toArray, List.set_cons_zero, List.set_cons_succ, i64_w, i32_w]
          rfl
        refine pure_ (i := 12) (N := some 36) (v := ?_) (a' := ?_) #[true, false, false, false, false, false, false, false, false, false, true, false, true, false, false, false, false] rfl rfl (any_of HT_.out (by kernel_rfl)) (fun _ _ _ h => h) (Or.inl ⟨by rfl, ?_⟩) ?_ ?_
        rotate_left
        · intro w'
          go_simp
          with_reducible rfl
        rotate_left
        · simp only [Act.put, List.setIfInBounds_toArray, List.set_cons_zero, List.set_cons_succ, i64_w, i32_w]
          rfl
        refine take_ (i := 1) (N := some 25) (v := ?_) (a' := ?_) #[true, true, false, false, false, false, false, false, false, false, true, false, true, false, false, false, false] rfl rfl (take_ofW HT_.out HW_.out (by kernel_rfl)) (fun _ _ _ h => h) (Or.inl ⟨by rfl, ?_⟩) hHeld ?_ ?_
        rotate_left
        · rintro w' ⟨s0, s1, s2, s3⟩
          go_simp
          with_reducible rfl
        rotate_left
        · simp only [Act.put, List.setIfInBounds_toArray, List.set_cons_zero, List.set_cons_succ, i64_w, i32_w]
          rfl
        refine pure_ (i := 2) (N := some 26) (v := ?_) (a' := ?_) #[true, true, true, false, false, false, false, false, false, false, true, false, true, false, false, false, false] rfl rfl (any_of HT_.out (by kernel_rfl)) (fun _ _ _ h => h) (Or.inl ⟨by rfl, ?_⟩) ?_ ?_
        rotate_left
        · intro w'
          go_simp
          with_reducible rfl
        rotate_left
        · simp only [Act.put, List.setIfInBounds_toArray, List.set_cons_zero, List.set_cons_succ, i64_w, i32_w]
          rfl
        refine pure_ (i := 3) (N := some 27) (v := ?_) (a' := ?_) #[true, true, true, true, false, false, false, false, false, false, true, false, true, false, false, false, false] rfl rfl (any_of HT_.out (by kernel_rfl)) (fun _ _ _ h => h) (Or.inl ⟨by rfl, ?_⟩) ?_ ?_
        rotate_left
        · intro w'
          go_simp
          with_reducible rfl
        rotate_left
        · simp only [Act.put, List.setIfInBounds_toArray, List.set_cons_zero, List.set_cons_succ, i64_w, i32_w]
          rfl
        refine pure_ (i := 5) (N := some 29) (v := ?_) (a' := ?_) #[true, true, true, true, false, true, false, false, false, false, true, false, true, false, false, false, false] rfl rfl (any_of HT_.out (by kernel_rfl)) (fun _ _ _ h => h) (Or.inl ⟨by rfl, ?_⟩) ?_ ?_
        rotate_left
        · intro w'
          go_simp
          with_reducible rfl
        rotate_left
        · simp only [Act.put, List.setIfInBounds_toArray, List.set_cons_zero, List.set_cons_succ, i64_w, i32_w]
          rfl
        refine take_ (i := 4) (N := some 28) (v := ?_) (a' := ?_) #[true, true, true, true, true, true, false, false, false, false, true, false, true, false, false, false, false] rfl rfl (take_ofW HT_.out HW_.out (by kernel_rfl)) (fun _ _ _ h => h) (Or.inl ⟨by rfl, ?_⟩) hHeld ?_ ?_
        rotate_left
        · rintro w' ⟨s0, s1, s2, s3⟩
          go_simp
          with_reducible rfl
        rotate_left
        · simp only [Act.put, List.setIfInBounds_toArray, List.set_cons_zero, List.set_cons_succ, i64_w, i32_w]
          rfl
        refine take_ (i := 6) (N := some 30) (v := ?_) (a' := ?_) #[true, true, true, true, true, true, true, false, false, false, true, false, true, false, false, false, false] rfl rfl (take_ofW HT_.out HW_.out (by kernel_rfl)) (fun _ _ _ h => h) (Or.inl ⟨by rfl, ?_⟩) hHeld ?_ ?_
        rotate_left
        · rintro w' ⟨s0, s1, s2, s3⟩
          go_simp
          with_reducible rfl
        rotate_left
        · simp only [Act.put, List.setIfInBounds_toArray, List.set_cons_zero, List.set_cons_succ, i64_w, i32_w]
          rfl
        refine take_ (i := 11) (N := some 35) (v := ?_) (a' := ?_) #[true, true, true, true, true, true, true, false, false, false, true, true, true, false, false, false, false] rfl rfl (take_ofW HT_.out HW_.out (by kernel_rfl)) (fun _ _ _ h => h) (Or.inl ⟨by rfl, ?_⟩) hHeld ?_ ?_
        rotate_left
        · rintro w' ⟨s0, s1, s2, s3⟩
          go_simp
          with_reducible rfl
        rotate_left
        · simp only [Act.put, List.setIfInBounds_toArray, List.set_cons_zero, List.set_cons_succ, i64_w, i32_w]
          rfl
        refine take_ (i := 13) (N := some 37) (v := ?_) (a' := ?_) #[true, true, true, true, true, true, true, false, false, false, true, true, true, true, false, false, false] rfl rfl (take_ofW HT_.out HW_.out (by kernel_rfl)) (fun _ _ _ h => h) (Or.inl ⟨by rfl, ?_⟩) hHeld ?_ ?_
        rotate_left
        · rintro w' ⟨s0, s1, s2, s3⟩
          go_simp
          with_reducible rfl
        rotate_left
        · simp only [Act.put, List.setIfInBounds_toArray, List.set_cons_zero, List.set_cons_succ, i64_w, i32_w]
          rfl
        refine one_ (i := 7) (N := some 31) #[true, true, true, true, true, true, true, true, false, false, true, true, true, true, false, false, false] rfl rfl (one_of HT_.out (by kernel_rfl)) (by decide) (fun K hK => ?_)
        refine goes_ Tryz.func183 (by kernel_rfl) rfl #[.slice A0_1 l0_1.length c0_1, .slice A1_1 l1_1.length c1_1] (by rfl) rfl rfl (by (try simp only [List.map_toArray, List.map_cons, List.map_nil]); first | done | rfl | (simp only [List.length_drop, List.length_take]; rfl)) ?_
        with_reducible refine (computusref01_cmp.calls k _ _ l0_1 _ _ l1_1 t519 _ ?side1 ?side2 ?side3 ?side4 A21.out).mono ?_
        (case side1 => repeat (first | exact (Kd.C_below HR0_1.out HB.out) | (with_reducible refine Kd.C_alloc ?_ _) | (with_reducible refine Kd.C_drewN ?_ _) | (with_reducible refine Kd.C_drew ?_)))
        (case side2 => exact HC0_1.out)
        (case side3 => repeat (first | exact (Kd.C_below HR1_1.out HB.out) | (with_reducible refine Kd.C_alloc ?_ _) | (with_reducible refine Kd.C_drewN ?_ _) | (with_reducible refine Kd.C_drew ?_)))
        (case side4 => exact HC1_1.out)
        rintro e w' ⟨rfl, ⟨nd, rfl⟩⟩
        refine ⟨_, rfl, ?_⟩
        refine hK.out _ _ ⟨(kH BK512.out 0).trans rfl, (kH BK512.out 1).trans rfl, (kH BK513.out 0).trans rfl, (kH BK513.out 1).trans rfl⟩ (fun hHeld => ?_)
        clear hK K
        refine norm_ (a' := ?_) ?_ ?_
        rotate_left
        · show Act.put _ (some 31) _ = _
          simp only [Act.put, List.setIfInBounds_toArray, List.set_cons_zero, List.set_cons_succ, i64_w, i32_w]
          rfl
        refine pure_ (i := 8) (N := some 32) (v := ?_) (a' := ?_) #[true, true, true, true, true, true, true, true, true, false, true, true, true, true, false, false, false] rfl rfl (any_of HT_.out (by kernel_rfl)) (fun _ _ _ h => h) (Or.inl ⟨by rfl, ?_⟩) ?_ ?_
        rotate_left
        · intro w'
          go_simp
          with_reducible rfl
        rotate_left
        · simp only [Act.put, List.setIfInBounds_toArray, List.set_cons_zero, List.set_cons_succ, i64_w, i32_w]
          rfl
        refine pure_ (i := 9) (N := some 33) (v := ?_) (a' := ?_) #[true, true, true, true, true, true, true, true, true, true, true, true, true, true, false, false, false] rfl rfl (any_of HT_.out (by kernel_rfl)) (fun _ _ _ h => h) (Or.inl ⟨by rfl, ?_⟩) ?_ ?_
        rotate_left
        · intro w'
          go_simp
          with_reducible rfl
        rotate_left
        · simp only [Act.put, List.setIfInBounds_toArray, List.set_cons_zero, List.set_cons_succ, i64_w, i32_w]
          rfl
        refine one_ (i := 14) (N := some 38) #[true, true, true, true, true, true, true, true, true, true, true, true, true, true, true, false, false] rfl rfl (one_of HT_.out (by kernel_rfl)) (by decide) (fun K hK => ?_)
        refine goes_ Tryz.func184 (by kernel_rfl) rfl #[.slice A0_1 l0_1.length c0_1, .slice A1_1 l1_1.length c1_1] (by rfl) rfl rfl (by (try simp only [List.map_toArray, List.map_cons, List.map_nil]); first | done | rfl | (simp only [List.length_drop, List.length_take]; rfl)) ?_
        with_reducible refine (computusref01_less.calls k _ _ l0_1 _ _ l1_1 t520 _ ?side1 ?side2 ?side3 ?side4 A22.out).mono ?_
        (case side1 => repeat (first | exact (Kd.C_below HR0_1.out (by repeat (first | (with_reducible first | exact HB.out | apply kC | apply kA | apply kB | refine kD ?_ GE512.out | refine kD ?_ GE513.out | refine kD ?_ GE514.out) | exact HB.out))) | (with_reducible refine Kd.C_alloc ?_ _) | (with_reducible refine Kd.C_drewN ?_ _) | (with_reducible refine Kd.C_drew ?_)))
        (case side2 => exact HC0_1.out)
        (case side3 => repeat (first | exact (Kd.C_below HR1_1.out (by repeat (first | (with_reducible first | exact HB.out | apply kC | apply kA | apply kB | refine kD ?_ GE512.out | refine kD ?_ GE513.out | refine kD ?_ GE514.out) | exact HB.out))) | (with_reducible refine Kd.C_alloc ?_ _) | (with_reducible refine Kd.C_drewN ?_ _) | (with_reducible refine Kd.C_drew ?_)))
        (case side4 => exact HC1_1.out)
        rintro e w32 ⟨v521, rfl, ho0, hb⟩
        refine ⟨_, rfl, ?_⟩
        have n0_ := Aside0.mk (Kd.R_lower ho0 (kI (by repeat (first | (with_reducible first | exact HB.out | apply kC | apply kA | apply kB | refine kD ?_ GE512.out | refine kD ?_ GE513.out | refine kD ?_ GE514.out) | exact HB.out))))
        have n1_ := Aside0.mk (kL (g := gb512) (o := .cells #[.bool true, .slice A0_1 l0_1.length c0_1] 175 (0, 0)) (by (with_reducible repeat (first | refine kF ?_ _ | refine kG ?_ | refine kE ?_ _)); exact BK512.out) hb)
        have n2_ := Aside0.mk (kL (g := gb513) (o := .cells #[.bool a1_0, .slice A1_1 l1_1.length c1_1] 175 (0, 0)) (by (with_reducible repeat (first | refine kF ?_ _ | refine kG ?_ | refine kE ?_ _)); exact BK513.out) hb)
        have n3_ := Aside0.mk (kL (g := gb514) (o := .cells #[.bool false, .slice none 0 0] 175 (0, 0)) (by (with_reducible repeat (first | refine kF ?_ _ | refine kG ?_ | refine kE ?_ _)); exact BK514.out) hb)
        have n4_ := Aside0.mk (kK (by repeat (first | (with_reducible first | exact HB.out | apply kC | apply kA | apply kB | refine kD ?_ GE512.out | refine kD ?_ GE513.out | refine kD ?_ GE514.out) | exact HB.out)) hb)
        clear BK512
        clear BK513
        clear BK514
        clear HB
        have HO522 := n0_
        have BK512 := n1_
        have BK513 := n2_
        have BK514 := n3_
        have HB := n4_
        clear n0_ n1_ n2_ n3_ n4_
        (try clear hb)
        (try clear hb2)
        (try clear hk)
        (try clear hi)
        (try clear ho0)
        obtain ⟨Ao33, co33, eo33⟩ := Kd.R_slice HO522.out
        (first | subst eo33 | (injection eo33 with f1_ f2_ f3_; have f4_ := f1_.symm; have f5_ := f3_.symm; clear f1_ f2_ f3_; subst f4_; subst f5_))
        refine hK.out _ _ ⟨(kH BK512.out 0).trans rfl, (kH BK512.out 1).trans rfl, (kH BK513.out 0).trans rfl, (kH BK513.out 1).trans rfl⟩ (fun hHeld => ?_)
        clear hK K
        refine norm_ (a' := ?_) ?_ ?_
        rotate_left
        · show Act.put _ (some 38) _ = _
          simp only [Act.put, List.setIfInBounds_toArray, List.set_cons_zero, List.set_cons_succ, i64_w, i32_w]
          rfl
        refine pure_ (i := 15) (N := some 39) (v := ?_) (a' := ?_) #[true, true, true, true, true, true, true, true, true, true, true, true, true, true, true, true, false] rfl rfl (any_of HT_.out (by kernel_rfl)) (fun _ _ _ h => h) (Or.inl ⟨by rfl, ?_⟩) ?_ ?_
        rotate_left
        · intro w'
          go_simp
          with_reducible rfl
        rotate_left
        · simp only [Act.put, List.setIfInBounds_toArray, List.set_cons_zero, List.set_cons_succ, i64_w, i32_w]
          rfl
        refine one_ (i := 16) (N := none) #[true, true, true, true, true, true, true, true, true, true, true, true, true, true, true, true, true] rfl rfl (one_of HT_.out (by kernel_rfl)) (by decide) (fun K hK => ?_)
        have hs34 : w32.cell? ⟨gb514, 0, none⟩ = some (.bool false) := (kH BK514.out 0).trans rfl
        have hfs34 := kJ BK514.out 0
        have hns34_0 := NB512_514.out
        have hns34_1 := NB513_514.out
        have hms34_0 := NB514_512.out
        have hms34_1 := NB514_513.out
        have hs35 : w32.cell? ⟨gb514, 1, none⟩ = some (.slice none 0 0) := (kH BK514.out 1).trans rfl
        have hfs35 := kJ BK514.out 1
        have hns35_0 := NB512_514.out
        have hns35_1 := NB513_514.out
        have hms35_0 := NB514_512.out
        have hms35_1 := NB514_513.out
        refine skip_ (w1 := ?_) (by rfl) rfl ?_ ?_
        rotate_left
        · go_simp
          rfl
        refine hK.out _ _ ⟨((cell_far (p := ⟨gb514, _, none⟩) NB512_514.out _).trans (((cell_far (p := ⟨gb514, _, none⟩) NB512_514.out _).trans (hHeld.1)))), ((cell_far (p := ⟨gb514, _, none⟩) NB512_514.out _).trans (((cell_far (p := ⟨gb514, _, none⟩) NB512_514.out _).trans (hHeld.2.1)))), ((cell_far (p := ⟨gb514, _, none⟩) NB513_514.out _).trans (((cell_far (p := ⟨gb514, _, none⟩) NB513_514.out _).trans (hHeld.2.2.1)))), ((cell_far (p := ⟨gb514, _, none⟩) NB513_514.out _).trans (((cell_far (p := ⟨gb514, _, none⟩) NB513_514.out _).trans (hHeld.2.2.2))))⟩ (fun hHeld => ?_)
        clear hK K
        refine done_ (done_of HT_.out (by kernel_rfl)) ?_
        try go_wp2
        refine bodyPost_ret (results_cell_row rfl _ _ gb514 175 #[.bool (decide (t519 > 0)), .slice Ao33 t520.length co33] (0, 0) _ rfl (by (with_reducible repeat (first | refine kF ?_ _ | refine kG ?_ | refine kE ?_ _)); refine blk_put (cs := #[.bool (decide (t519 > 0)), .slice none 0 0]) ?_ 1 _ rfl; (with_reducible repeat (first | refine kF ?_ _ | refine kG ?_ | refine kE ?_ _)); refine blk_put (cs := #[.bool false, .slice none 0 0]) ?_ 0 _ rfl; (with_reducible repeat (first | refine kF ?_ _ | refine kG ?_ | refine kE ?_ _)); exact BK514.out) Tryz.underlying175 rfl (by kernel_rfl)) rfl ?_
        exact ⟨_, by first | rfl | (simp [errW_none, errW_some] <;> rfl) | (simp [*, errW_none, errW_some] <;> rfl), by (with_reducible repeat (first | apply Kd.R_alloc | apply Kd.R_drewN | apply Kd.R_drew)); exact Kd.R_mono (Kd.R_far (p := ⟨gb514, 1, none⟩) (Kd.R_far (p := ⟨gb514, 0, none⟩) (Kd.R_types HO522.out BK514.out (by decide)) (fun _ hk => hk.2) (.bool (decide (t519 > 0)))) (fun _ hk => hk.2) (.slice Ao33 t520.length co33)) (fun _ hk => trivial), by repeat (first | (with_reducible first | exact HB.out | apply kC | apply kA | apply kB | refine kD ?_ GE512.out | refine kD ?_ GE513.out | refine kD ?_ GE514.out) | exact HB.out)⟩
      · replace c20 := Bool.eq_false_iff.mpr c20
        subst c20
        have H1 : ((computusref01_less.f k l0_1 l1_1).bind fun t523 => (some (false, t523))) = some (r1, r2) := by rw [if_neg (show ¬ (false = true) by decide)] at H; exact H
        clear H
        have H := H1
        clear H1
        replace H := Option.bind_eq_some_iff.mp H
        obtain ⟨t523, A360, H⟩ := H
        replace H : (some (false, t523)) = some (r1, r2) := H
        have A36 := Aside0.mk A360
        clear A360
        simp only [Option.some.injEq, Prod.mk.injEq] at H
        obtain ⟨rfl, rfl⟩ := H
        go_enter Tryz.func138, Tryz.ntmps138
        try go_wp2_with (first | ((with_reducible refine gate_dst (N := 2) rfl ?_); refine box_event ?hg (N := 2) ?hd (cs := #[.bool false, .slice A0_1 l0_1.length c0_1]) (t := 175) ?hr ?_; (case hd => rfl); (case hg => rfl); (case hr => first | (go_simp; done) | (go_simp; rfl)); intro gb512 hg w37 hbox hb; have n0_ := Aside0.mk (kK (by repeat (first | (with_reducible first | exact HB.out | apply kC | apply kA | apply kB) | exact HB.out)) hb); have n1_ := Aside0.mk (hbox); have n2_ := Aside0.mk ((by rw [hg]; exact (kI (by repeat (first | (with_reducible first | exact HB.out | apply kC | apply kA | apply kB) | exact HB.out))) : w.heap.size ≤ gb512)); have n3_ := Aside0.mk ((by rw [hg]; exact (kI (by repeat (first | (with_reducible first | exact HB.out | apply kC | apply kA | apply kB) | exact HB.out))) : w.heap.size ≤ gb512)); clear HB; have HB := n0_; have BK512 := n1_; have GW512 := n2_; have GE512 := n3_; clear n0_ n1_ n2_ n3_; clear hb hbox hg) | ((with_reducible refine gate_dst (N := 3) rfl ?_); refine box_event ?hg (N := 3) ?hd (cs := #[.bool a1_0, .slice A1_1 l1_1.length c1_1]) (t := 175) ?hr ?_; (case hd => rfl); (case hg => rfl); (case hr => first | (go_simp; done) | (go_simp; rfl)); intro gb513 hg w38 hbox hb; have n0_ := Aside0.mk (kL (g := gb512) (o := .cells #[.bool false, .slice A0_1 l0_1.length c0_1] 175 (0, 0)) (by (with_reducible repeat (first | refine kF ?_ _ | refine kG ?_ | refine kE ?_ _)); exact BK512.out) hb); have n1_ := Aside0.mk (kK (by repeat (first | (with_reducible first | exact HB.out | apply kC | apply kA | apply kB | refine kD ?_ GE512.out) | exact HB.out)) hb); have n2_ := Aside0.mk (hbox); have n3_ := Aside0.mk ((by rw [hg]; exact (kI (by repeat (first | (with_reducible first | exact HB.out | apply kC | apply kA | apply kB | refine kD ?_ GE512.out) | exact HB.out))) : w.heap.size ≤ gb513)); have n4_ := Aside0.mk ((by rw [hg]; exact (kI (by repeat (first | (with_reducible first | exact HB.out | apply kC | apply kA | apply kB | refine kD ?_ GE512.out) | exact HB.out))) : w.heap.size ≤ gb513)); have n5_ := Aside0.mk ((by rw [hg]; exact Nat.ne_of_lt (blk_lt (g := gb512) (o := .cells #[.bool false, .slice A0_1 l0_1.length c0_1] 175 (0, 0)) (by (with_reducible repeat (first | refine kF ?_ _ | refine kG ?_ | refine kE ?_ _)); exact BK512.out)) : gb512 ≠ gb513)); have n6_ := Aside0.mk ((by rw [hg]; exact Nat.ne_of_gt (blk_lt (g := gb512) (o := .cells #[.bool false, .slice A0_1 l0_1.length c0_1] 175 (0, 0)) (by (with_reducible repeat (first | refine kF ?_ _ | refine kG ?_ | refine kE ?_ _)); exact BK512.out)) : gb513 ≠ gb512)); clear BK512; clear HB; have BK512 := n0_; have HB := n1_; have BK513 := n2_; have GW513 := n3_; have GE513 := n4_; have NB512_513 := n5_; have NB513_512 := n6_; clear n0_ n1_ n2_ n3_ n4_ n5_ n6_; clear hb hbox hg) | ((with_reducible refine gate_dst (N := 4) rfl ?_); refine box_event ?hg (N := 4) ?hd (cs := #[.bool false, .slice none 0 0]) (t := 175) ?hr ?_; (case hd => rfl); (case hg => rfl); (case hr => first | (go_simp; done) | (go_simp; rfl)); intro gb514 hg w39 hbox hb; have n0_ := Aside0.mk (kL (g := gb512) (o := .cells #[.bool false, .slice A0_1 l0_1.length c0_1] 175 (0, 0)) (by (with_reducible repeat (first | refine kF ?_ _ | refine kG ?_ | refine kE ?_ _)); exact BK512.out) hb); have n1_ := Aside0.mk (kL (g := gb513) (o := .cells #[.bool a1_0, .slice A1_1 l1_1.length c1_1] 175 (0, 0)) (by (with_reducible repeat (first | refine kF ?_ _ | refine kG ?_ | refine kE ?_ _)); exact BK513.out) hb); have n2_ := Aside0.mk (kK (by repeat (first | (with_reducible first | exact HB.out | apply kC | apply kA | apply kB | refine kD ?_ GE512.out | refine kD ?_ GE513.out) | exact HB.out)) hb); have n3_ := Aside0.mk (hbox); have n4_ := Aside0.mk ((by rw [hg]; exact (kI (by repeat (first | (with_reducible first | exact HB.out | apply kC | apply kA | apply kB | refine kD ?_ GE512.out | refine kD ?_ GE513.out) | exact HB.out))) : w.heap.size ≤ gb514)); have n5_ := Aside0.mk ((by rw [hg]; exact (kI (by repeat (first | (with_reducible first | exact HB.out | apply kC | apply kA | apply kB | refine kD ?_ GE512.out | refine kD ?_ GE513.out) | exact HB.out))) : w.heap.size ≤ gb514)); have n6_ := Aside0.mk ((by rw [hg]; exact Nat.ne_of_lt (blk_lt (g := gb512) (o := .cells #[.bool false, .slice A0_1 l0_1.length c0_1] 175 (0, 0)) (by (with_reducible repeat (first | refine kF ?_ _ | refine kG ?_ | refine kE ?_ _)); exact BK512.out)) : gb512 ≠ gb514)); have n7_ := Aside0.mk ((by rw [hg]; exact Nat.ne_of_gt (blk_lt (g := gb512) (o := .cells #[.bool false, .slice A0_1 l0_1.length c0_1] 175 (0, 0)) (by (with_reducible repeat (first | refine kF ?_ _ | refine kG ?_ | refine kE ?_ _)); exact BK512.out)) : gb514 ≠ gb512)); have n8_ := Aside0.mk ((by rw [hg]; exact Nat.ne_of_lt (blk_lt (g := gb513) (o := .cells #[.bool a1_0, .slice A1_1 l1_1.length c1_1] 175 (0, 0)) (by (with_reducible repeat (first | refine kF ?_ _ | refine kG ?_ | refine kE ?_ _)); exact BK513.out)) : gb513 ≠ gb514)); have n9_ := Aside0.mk ((by rw [hg]; exact Nat.ne_of_gt (blk_lt (g := gb513) (o := .cells #[.bool a1_0, .slice A1_1 l1_1.length c1_1] 175 (0, 0)) (by (with_reducible repeat (first | refine kF ?_ _ | refine kG ?_ | refine kE ?_ _)); exact BK513.out)) : gb514 ≠ gb513)); clear BK512; clear BK513; clear HB; have BK512 := n0_; have BK513 := n1_; have HB := n2_; have BK514 := n3_; have GW514 := n4_; have GE514 := n5_; have NB512_514 := n6_; have NB514_512 := n7_; have NB513_514 := n8_; have NB514_513 := n9_; clear n0_ n1_ n2_ n3_ n4_ n5_ n6_ n7_ n8_ n9_; clear hb hbox hg; have hnb40 := NB512_513.out; have hnc40 := NB513_512.out; have hnb41 := NB512_514.out; have hnc41 := NB514_512.out; have hcz42_0 : w39.cell? ⟨gb512, 0, none⟩ = some (.bool false) := (kH BK512.out 0).trans rfl; have hcz42_1 : w39.cell? ⟨gb512, 1, none⟩ = some (.slice A0_1 l0_1.length c0_1) := (kH BK512.out 1).trans rfl; have hfz42_0 := kJ BK512.out 0; have hfz42_1 := kJ BK512.out 1; have hnb43 := NB513_514.out; have hnc43 := NB514_513.out; have hcz44_0 : w39.cell? ⟨gb513, 0, none⟩ = some (.bool a1_0) := (kH BK513.out 0).trans rfl; have hcz44_1 : w39.cell? ⟨gb513, 1, none⟩ = some (.slice A1_1 l1_1.length c1_1) := (kH BK513.out 1).trans rfl; have hfz44_0 := kJ BK513.out 0; have hfz44_1 := kJ BK513.out 1) | ((with_reducible refine kM (f := 183) rfl ?_); refine goesL_ (some 22) rfl rfl Tryz.func183 (by kernel_rfl) rfl #[.slice A0_1 l0_1.length c0_1, .slice A1_1 l1_1.length c1_1] rfl (by (try simp only [List.map_toArray, List.map_cons, List.map_nil]); first | done | rfl | (simp only [List.length_drop, List.length_take]; rfl)) ?_; (with_reducible refine (computusref01_cmp.calls k _ _ l0_1 _ _ l1_1 t518 _ ?side1 ?side2 ?side3 ?side4 A18.out).mono ?_); (case side1 => repeat (first | exact (Kd.C_below HR0_1.out HB.out) | (with_reducible refine Kd.C_alloc ?_ _) | (with_reducible refine Kd.C_drewN ?_ _) | (with_reducible refine Kd.C_drew ?_))); (case side2 => exact HC0_1.out); (case side3 => repeat (first | exact (Kd.C_below HR1_1.out HB.out) | (with_reducible refine Kd.C_alloc ?_ _) | (with_reducible refine Kd.C_drewN ?_ _) | (with_reducible refine Kd.C_drew ?_))); (case side4 => exact HC1_1.out); rintro e w' ⟨rfl, ⟨nd, rfl⟩⟩; refine ⟨_, rfl, ?_⟩; (try (rw [drewN_self w39]; generalize hq_ : World.drewN w39 _ = w39; have n0_ : Aside0 (w39.heap[gb512]? = some (.cells #[.bool false, .slice A0_1 l0_1.length c0_1] 175 (0, 0))) := ⟨by rw [← hq_]; exact (by (with_reducible repeat (first | refine kF ?_ _ | refine kG ?_ | refine kE ?_ _)); exact BK512.out)⟩; have n1_ : Aside0 (w39.heap[gb513]? = some (.cells #[.bool a1_0, .slice A1_1 l1_1.length c1_1] 175 (0, 0))) := ⟨by rw [← hq_]; exact (by (with_reducible repeat (first | refine kF ?_ _ | refine kG ?_ | refine kE ?_ _)); exact BK513.out)⟩; have n2_ : Aside0 (w39.heap[gb514]? = some (.cells #[.bool false, .slice none 0 0] 175 (0, 0))) := ⟨by rw [← hq_]; exact (by (with_reducible repeat (first | refine kF ?_ _ | refine kG ?_ | refine kE ?_ _)); exact BK514.out)⟩; have n3_ : Aside0 (Below w.heap.size w w39) := ⟨by rw [← hq_]; exact (by repeat (first | (with_reducible first | exact HB.out | apply kC | apply kA | apply kB | refine kD ?_ GE512.out | refine kD ?_ GE513.out | refine kD ?_ GE514.out) | exact HB.out))⟩; clear BK512 BK513 BK514 HB hq_; have BK512 := n0_; have BK513 := n1_; have BK514 := n2_; have HB := n3_; clear n0_ n1_ n2_ n3_; (try have hcz42_0 : w39.cell? ⟨gb512, 0, none⟩ = some (.bool false) := (kH BK512.out 0).trans rfl); (try have hcz42_1 : w39.cell? ⟨gb512, 1, none⟩ = some (.slice A0_1 l0_1.length c0_1) := (kH BK512.out 1).trans rfl); (try have hcz44_0 : w39.cell? ⟨gb513, 0, none⟩ = some (.bool a1_0) := (kH BK513.out 0).trans rfl); (try have hcz44_1 : w39.cell? ⟨gb513, 1, none⟩ = some (.slice A1_1 l1_1.length c1_1) := (kH BK513.out 1).trans rfl)))))
        have n0_ := Aside0.mk (kG BK512.out)
        have n1_ := Aside0.mk (kG BK513.out)
        have n2_ := Aside0.mk (kG BK514.out)
        have n3_ := Aside0.mk (kB HB.out)
        clear BK512
        clear BK513
        clear BK514
        clear HB
        have BK512 := n0_
        have BK513 := n1_
        have BK514 := n2_
        have HB := n3_
        clear n0_ n1_ n2_ n3_
        refine start_ (n := 17) (S := fun w' => w'.cell? ⟨gb512, 0, none⟩ = some (.bool false) ∧ w'.cell? ⟨gb512, 1, none⟩ = some (.slice A0_1 l0_1.length c0_1) ∧ w'.cell? ⟨gb513, 0, none⟩ = some (.bool a1_0) ∧ w'.cell? ⟨gb513, 1, none⟩ = some (.slice A1_1 l1_1.length c1_1)) (ds := []) #[false, false, false, false, false, false, false, false, false, false, false, false, false, false, false, false, false] (by kernel_rfl) rfl rfl ⟨(kH BK512.out 0).trans rfl, (kH BK512.out 1).trans rfl, (kH BK513.out 0).trans rfl, (kH BK513.out 1).trans rfl⟩ (fun hHeld => ?_); refine with_tabW computusref01_Plus.tab4 computusref01_Plus.bits4 (fun HT_ HW_ => ?_)
        generalize w39.drew = w45 at BK512 BK513 BK514 HB hHeld ⊢
        refine pure_ (i := 0) (N := some 24) (v := ?_) (a' := ?_) #[true, false, false, false, false, false, false, false, false, false, false, false, false, false, false, false, false] rfl rfl (any_of HT_.out (by kernel_rfl)) (fun _ _ _ h => h) (Or.inl ⟨by rfl, ?_⟩) ?_ ?_
        rotate_left
        · intro w'
          go_simp
          with_reducible rfl
        rotate_left
        · simp only [Act.put, List.setIfInBounds_toArray, List.set_cons_zero, List.set_cons_succ, i64_w, i32_w]
          rfl
        refine pure_ (i := 10) (N := some 34) (v := ?_) (a' := ?_) #[true, false, false, false, false, false, false, false, false, false, true, false, false, false, false, false, false] rfl rfl (any_of HT_.out (by kernel_rfl)) (fun _ _ _ h => h) (Or.inl ⟨by rfl, ?_⟩) ?_ ?_
        rotate_left
        · intro w'
          go_simp
          with_reducible rfl
        rotate_left
        · simp only [Act.put, List.setIfInBounds_toArray, List.set_cons_zero, List.set_cons_succ, i64_w, i32_w]
          rfl
        refine pure_ (i := 12) (N := some 36) (v := ?_) (a' := ?_) #[true, false, false, false, false, false, false, false, false, false, true, false, true, false, false, false, false] rfl rfl (any_of HT_.out (by kernel_rfl)) (fun _ _ _ h => h) (Or.inl ⟨by rfl, ?_⟩) ?_ ?_
        rotate_left
        · intro w'
          go_simp
          with_reducible rfl
        rotate_left
        · simp only [Act.put, List.setIfInBounds_toArray, List.set_cons_zero, List.set_cons_succ, i64_w, i32_w]
          rfl
        refine take_ (i := 1) (N := some 25) (v := ?_) (a' := ?_) #[true, true, false, false, false, false, false, false, false, false, true, false, true, false, false, false, false] rfl rfl (take_ofW HT_.out HW_.out (by kernel_rfl)) (fun _ _ _ h => h) (Or.inl ⟨by rfl, ?_⟩) hHeld ?_ ?_
        rotate_left
        · rintro w' ⟨s0, s1, s2, s3⟩
          go_simp
          with_reducible rfl
        rotate_left
        · simp only [Act.put, List.setIfInBounds_toArray, List.set_cons_zero, List.set_cons_succ, i64_w, i32_w]
          rfl
        refine pure_ (i := 2) (N := some 26) (v := ?_) (a' := ?_) #[true, true, true, false, false, false, false, false, false, false, true, false, true, false, false, false, false] rfl rfl (any_of HT_.out (by kernel_rfl)) (fun _ _ _ h => h) (Or.inl ⟨by rfl, ?_⟩) ?_ ?_
        rotate_left
        · intro w'
          go_simp
          with_reducible rfl
        rotate_left
        · simp only [Act.put, List.setIfInBounds_toArray, List.set_cons_zero, List.set_cons_succ, i64_w, i32_w]
          rfl
        refine pure_ (i := 3) (N := some 27) (v := undef) (a' := ?_) #[true, true, true, true, false, false, false, false, false, false, true, false, true, false, false, false, false] rfl rfl (any_of HT_.out (by kernel_rfl)) (fun _ _ _ h => h) (Or.inr ⟨by rfl, rfl⟩) ?_ ?_
        rotate_left
        · simp only [Act.put, List.setIfInBounds_toArray, List.set_cons_zero, List.set_cons_succ, i64_w, i32_w]
          rfl
        refine pure_ (i := 4) (N := some 28) (v := undef) (a' := ?_) #[true, true, true, true, true, false, false, false, false, false, true, false, true, false, false, false, false] rfl rfl (any_of HT_.out (by kernel_rfl)) (fun _ _ _ h => h) (Or.inr ⟨by rfl, rfl⟩) ?_ ?_
        rotate_left
        · simp only [Act.put, List.setIfInBounds_toArray, List.set_cons_zero, List.set_cons_succ, i64_w, i32_w]
          rfl
        refine pure_ (i := 5) (N := some 29) (v := undef) (a' := ?_) #[true, true, true, true, true, true, false, false, false, false, true, false, true, false, false, false, false] rfl rfl (any_of HT_.out (by kernel_rfl)) (fun _ _ _ h => h) (Or.inr ⟨by rfl, rfl⟩) ?_ ?_
        rotate_left
        · simp only [Act.put, List.setIfInBounds_toArray, List.set_cons_zero, List.set_cons_succ, i64_w, i32_w]
          rfl
        refine pure_ (i := 6) (N := some 30) (v := undef) (a' := ?_) #[true, true, true, true, true, true, true, false, false, false, true, false, true, false, false, false, false] rfl rfl (any_of HT_.out (by kernel_rfl)) (fun _ _ _ h => h) (Or.inr ⟨by rfl, rfl⟩) ?_ ?_
        rotate_left
        · simp only [Act.put, List.setIfInBounds_toArray, List.set_cons_zero, List.set_cons_succ, i64_w, i32_w]
          rfl
        refine pure_ (i := 7) (N := some 31) (v := undef) (a' := ?_) #[true, true, true, true, true, true, true, true, false, false, true, false, true, false, false, false, false] rfl rfl (any_of HT_.out (by kernel_rfl)) (fun _ _ _ h => h) (Or.inr ⟨by rfl, rfl⟩) ?_ ?_
        rotate_left
        · simp only [Act.put, List.setIfInBounds_toArray, List.set_cons_zero, List.set_cons_succ, i64_w, i32_w]
          rfl
        refine pure_ (i := 8) (N := some 32) (v := undef) (a' := ?_) #[true, true, true, true, true, true, true, true, true, false, true, false, true, false, false, false, false] rfl rfl (any_of HT_.out (by kernel_rfl)) (fun _ _ _ h => h) (Or.inr ⟨by rfl, rfl⟩) ?_ ?_
        rotate_left
        · simp only [Act.put, List.setIfInBounds_toArray, List.set_cons_zero, List.set_cons_succ, i64_w, i32_w]
          rfl
        refine pure_ (i := 9) (N := some 33) (v := ?_) (a' := ?_) #[true, true, true, true, true, true, true, true, true, true, true, false, true, false, false, false, false] rfl rfl (any_of HT_.out (by kernel_rfl)) (fun _ _ _ h => h) (Or.inl ⟨by rfl, ?_⟩) ?_ ?_
        rotate_left
        · intro w'
          go_simp
          with_reducible rfl
        rotate_left
        · simp only [Act.put, List.setIfInBounds_toArray, List.set_cons_zero, List.set_cons_succ, i64_w, i32_w]
          rfl
        refine take_ (i := 11) (N := some 35) (v := ?_) (a' := ?_) #[true, true, true, true, true, true, true, true, true, true, true, true, true, false, false, false, false] rfl rfl (take_ofW HT_.out HW_.out (by kernel_rfl)) (fun _ _ _ h => h) (Or.inl ⟨by rfl, ?_⟩) hHeld ?_ ?_
        rotate_left
        · rintro w' ⟨s0, s1, s2, s3⟩
          go_simp
          with_reducible rfl
        rotate_left
        · simp only [Act.put, List.setIfInBounds_toArray, List.set_cons_zero, List.set_cons_succ, i64_w, i32_w]
          rfl
        refine take_ (i := 13) (N := some 37) (v := ?_) (a' := ?_) #[true, true, true, true, true, true, true, true, true, true, true, true, true, true, false, false, false] rfl rfl (take_ofW HT_.out HW_.out (by kernel_rfl)) (fun _ _ _ h => h) (Or.inl ⟨by rfl, ?_⟩) hHeld ?_ ?_
        rotate_left
        · rintro w' ⟨s0, s1, s2, s3⟩
          go_simp
          with_reducible rfl
        rotate_left
        · simp only [Act.put, List.setIfInBounds_toArray, List.set_cons_zero, List.set_cons_succ, i64_w, i32_w]
          rfl
        refine one_ (i := 14) (N := some 38) #[true, true, true, true, true, true, true, true, true, true, true, true, true, true, true, false, false] rfl rfl (one_of HT_.out (by kernel_rfl)) (by decide) (fun K hK => ?_)
        refine goes_ Tryz.func184 (by kernel_rfl) rfl #[.slice A0_1 l0_1.length c0_1, .slice A1_1 l1_1.length c1_1] (by rfl) rfl rfl (by (try simp only [List.map_toArray, List.map_cons, List.map_nil]); first | done | rfl | (simp only [List.length_drop, List.length_take]; rfl)) ?_
        with_reducible refine (computusref01_less.calls k _ _ l0_1 _ _ l1_1 t523 _ ?side1 ?side2 ?side3 ?side4 A36.out).mono ?_
        (case side1 => repeat (first | exact (Kd.C_below HR0_1.out HB.out) | (with_reducible refine Kd.C_alloc ?_ _) | (with_reducible refine Kd.C_drewN ?_ _) | (with_reducible refine Kd.C_drew ?_)))
        (case side2 => exact HC0_1.out)
        (case side3 => repeat (first | exact (Kd.C_below HR1_1.out HB.out) | (with_reducible refine Kd.C_alloc ?_ _) | (with_reducible refine Kd.C_drewN ?_ _) | (with_reducible refine Kd.C_drew ?_)))
        (case side4 => exact HC1_1.out)
        rintro e w46 ⟨v524, rfl, ho0, hb⟩
        refine ⟨_, rfl, ?_⟩
        have n0_ := Aside0.mk (Kd.R_lower ho0 (kI (by repeat (first | (with_reducible first | exact HB.out | apply kC | apply kA | apply kB | refine kD ?_ GE512.out | refine kD ?_ GE513.out | refine kD ?_ GE514.out) | exact HB.out))))
        have n1_ := Aside0.mk (kL (g := gb512) (o := .cells #[.bool false, .slice A0_1 l0_1.length c0_1] 175 (0, 0)) (by (with_reducible repeat (first | refine kF ?_ _ | refine kG ?_ | refine kE ?_ _)); exact BK512.out) hb)
        have n2_ := Aside0.mk (kL (g := gb513) (o := .cells #[.bool a1_0, .slice A1_1 l1_1.length c1_1] 175 (0, 0)) (by (with_reducible repeat (first | refine kF ?_ _ | refine kG ?_ | refine kE ?_ _)); exact BK513.out) hb)
        have n3_ := Aside0.mk (kL (g := gb514) (o := .cells #[.bool false, .slice none 0 0] 175 (0, 0)) (by (with_reducible repeat (first | refine kF ?_ _ | refine kG ?_ | refine kE ?_ _)); exact BK514.out) hb)
        have n4_ := Aside0.mk (kK (by repeat (first | (with_reducible first | exact HB.out | apply kC | apply kA | apply kB | refine kD ?_ GE512.out | refine kD ?_ GE513.out | refine kD ?_ GE514.out) | exact HB.out)) hb)
        clear BK512
        clear BK513
        clear BK514
        clear HB
        have HO525 := n0_
        have BK512 := n1_
        have BK513 := n2_
        have BK514 := n3_
        have HB := n4_
        clear n0_ n1_ n2_ n3_ n4_
        (try clear hb)
        (try clear hb2)
        (try clear hk)
        (try clear hi)
        (try clear ho0)
        obtain ⟨Ao47, co47, eo47⟩ := Kd.R_slice HO525.out
        (first | subst eo47 | (injection eo47 with f1_ f2_ f3_; have f4_ := f1_.symm; have f5_ := f3_.symm; clear f1_ f2_ f3_; subst f4_; subst f5_))
        refine hK.out _ _ ⟨(kH BK512.out 0).trans rfl, (kH BK512.out 1).trans rfl, (kH BK513.out 0).trans rfl, (kH BK513.out 1).trans rfl⟩ (fun hHeld => ?_)
        clear hK K
        refine norm_ (a' := ?_) ?_ ?_
        rotate_left
        · show Act.put _ (some 38) _ = _
          simp only [Act.put, List.setIfInBounds_toArray, List.set_cons_zero, List.set_cons_succ, i64_w, i32_w]
          rfl
        refine pure_ (i := 15) (N := some 39) (v := ?_) (a' := ?_) #[true, true, true, true, true, true, true, true, true, true, true, true, true, true, true, true, false] rfl rfl (any_of HT_.out (by kernel_rfl)) (fun _ _ _ h => h) (Or.inl ⟨by rfl, ?_⟩) ?_ ?_
        rotate_left
        · intro w'
          go_simp
          with_reducible rfl
        rotate_left
        · simp only [Act.put, List.setIfInBounds_toArray, List.set_cons_zero, List.set_cons_succ, i64_w, i32_w]
          rfl
        refine one_ (i := 16) (N := none) #[true, true, true, true, true, true, true, true, true, true, true, true, true, true, true, true, true] rfl rfl (one_of HT_.out (by kernel_rfl)) (by decide) (fun K hK => ?_)
        have hs48 : w46.cell? ⟨gb514, 0, none⟩ = some (.bool false) := (kH BK514.out 0).trans rfl
        have hfs48 := kJ BK514.out 0
        have hns48_0 := NB512_514.out
        have hns48_1 := NB513_514.out
        have hms48_0 := NB514_512.out
        have hms48_1 := NB514_513.out
        have hs49 : w46.cell? ⟨gb514, 1, none⟩ = some (.slice none 0 0) := (kH BK514.out 1).trans rfl
        have hfs49 := kJ BK514.out 1
        have hns49_0 := NB512_514.out
        have hns49_1 := NB513_514.out
        have hms49_0 := NB514_512.out
        have hms49_1 := NB514_513.out
        refine skip_ (w1 := ?_) (by rfl) rfl ?_ ?_
        rotate_left
        · go_simp
          rfl
        refine hK.out _ _ ⟨((cell_far (p := ⟨gb514, _, none⟩) NB512_514.out _).trans (((cell_far (p := ⟨gb514, _, none⟩) NB512_514.out _).trans (hHeld.1)))), ((cell_far (p := ⟨gb514, _, none⟩) NB512_514.out _).trans (((cell_far (p := ⟨gb514, _, none⟩) NB512_514.out _).trans (hHeld.2.1)))), ((cell_far (p := ⟨gb514, _, none⟩) NB513_514.out _).trans (((cell_far (p := ⟨gb514, _, none⟩) NB513_514.out _).trans (hHeld.2.2.1)))), ((cell_far (p := ⟨gb514, _, none⟩) NB513_514.out _).trans (((cell_far (p := ⟨gb514, _, none⟩) NB513_514.out _).trans (hHeld.2.2.2))))⟩ (fun hHeld => ?_)
        clear hK K
        refine done_ (done_of HT_.out (by kernel_rfl)) ?_
        try go_wp2
        refine bodyPost_ret (results_cell_row rfl _ _ gb514 175 #[.bool false, .slice Ao47 t523.length co47] (0, 0) _ rfl (by (with_reducible repeat (first | refine kF ?_ _ | refine kG ?_ | refine kE ?_ _)); refine blk_put (cs := #[.bool false, .slice none 0 0]) ?_ 1 _ rfl; (with_reducible repeat (first | refine kF ?_ _ | refine kG ?_ | refine kE ?_ _)); refine blk_put (cs := #[.bool false, .slice none 0 0]) ?_ 0 _ rfl; (with_reducible repeat (first | refine kF ?_ _ | refine kG ?_ | refine kE ?_ _)); exact BK514.out) Tryz.underlying175 rfl (by kernel_rfl)) rfl ?_
        exact ⟨_, by first | rfl | (simp [errW_none, errW_some] <;> rfl) | (simp [*, errW_none, errW_some] <;> rfl), by (with_reducible repeat (first | apply Kd.R_alloc | apply Kd.R_drewN | apply Kd.R_drew)); exact Kd.R_mono (Kd.R_far (p := ⟨gb514, 1, none⟩) (Kd.R_far (p := ⟨gb514, 0, none⟩) (Kd.R_types HO525.out BK514.out (by decide)) (fun _ hk => hk.2) (.bool false)) (fun _ hk => hk.2) (.slice Ao47 t523.length co47)) (fun _ hk => trivial), by repeat (first | (with_reducible first | exact HB.out | apply kC | apply kA | apply kB | refine kD ?_ GE512.out | refine kD ?_ GE513.out | refine kD ?_ GE514.out) | exact HB.out)⟩
    · rw [if_neg c19] at H
      have c19b0 : decide (0 ≤ t518) = false := decide_eq_false c19
      clear c19
      replace H := Option.bind_eq_some_iff.mp H
      obtain ⟨t526, A500, H⟩ := H
      replace H : (some (a1_0, t526)) = some (r1, r2) := H
      have A50 := Aside0.mk A500
      clear A500
      simp only [Option.some.injEq, Prod.mk.injEq] at H
      obtain ⟨rfl, rfl⟩ := H
      go_enter Tryz.func138, Tryz.ntmps138
      try go_wp2_with (first | ((with_reducible refine gate_dst (N := 2) rfl ?_); refine box_event ?hg (N := 2) ?hd (cs := #[.bool a0_0, .slice A0_1 l0_1.length c0_1]) (t := 175) ?hr ?_; (case hd => rfl); (case hg => rfl); (case hr => first | (go_simp; done) | (go_simp; rfl)); intro gb512 hg w51 hbox hb; have n0_ := Aside0.mk (kK (by repeat (first | (with_reducible first | exact HB.out | apply kC | apply kA | apply kB) | exact HB.out)) hb); have n1_ := Aside0.mk (hbox); have n2_ := Aside0.mk ((by rw [hg]; exact (kI (by repeat (first | (with_reducible first | exact HB.out | apply kC | apply kA | apply kB) | exact HB.out))) : w.heap.size ≤ gb512)); have n3_ := Aside0.mk ((by rw [hg]; exact (kI (by repeat (first | (with_reducible first | exact HB.out | apply kC | apply kA | apply kB) | exact HB.out))) : w.heap.size ≤ gb512)); clear HB; have HB := n0_; have BK512 := n1_; have GW512 := n2_; have GE512 := n3_; clear n0_ n1_ n2_ n3_; clear hb hbox hg) | ((with_reducible refine gate_dst (N := 3) rfl ?_); refine box_event ?hg (N := 3) ?hd (cs := #[.bool a1_0, .slice A1_1 l1_1.length c1_1]) (t := 175) ?hr ?_; (case hd => rfl); (case hg => rfl); (case hr => first | (go_simp; done) | (go_simp; rfl)); intro gb513 hg w52 hbox hb; have n0_ := Aside0.mk (kL (g := gb512) (o := .cells #[.bool a0_0, .slice A0_1 l0_1.length c0_1] 175 (0, 0)) (by (with_reducible repeat (first | refine kF ?_ _ | refine kG ?_ | refine kE ?_ _)); exact BK512.out) hb); have n1_ := Aside0.mk (kK (by repeat (first | (with_reducible first | exact HB.out | apply kC | apply kA | apply kB | refine kD ?_ GE512.out) | exact HB.out)) hb); have n2_ := Aside0.mk (hbox); have n3_ := Aside0.mk ((by rw [hg]; exact (kI (by repeat (first | (with_reducible first | exact HB.out | apply kC | apply kA | apply kB | refine kD ?_ GE512.out) | exact HB.out))) : w.heap.size ≤ gb513)); have n4_ := Aside0.mk ((by rw [hg]; exact (kI (by repeat (first | (with_reducible first | exact HB.out | apply kC | apply kA | apply kB | refine kD ?_ GE512.out) | exact HB.out))) : w.heap.size ≤ gb513)); have n5_ := Aside0.mk ((by rw [hg]; exact Nat.ne_of_lt (blk_lt (g := gb512) (o := .cells #[.bool a0_0, .slice A0_1 l0_1.length c0_1] 175 (0, 0)) (by (with_reducible repeat (first | refine kF ?_ _ | refine kG ?_ | refine kE ?_ _)); exact BK512.out)) : gb512 ≠ gb513)); have n6_ := Aside0.mk ((by rw [hg]; exact Nat.ne_of_gt (blk_lt (g := gb512) (o := .cells #[.bool a0_0, .slice A0_1 l0_1.length c0_1] 175 (0, 0)) (by (with_reducible repeat (first | refine kF ?_ _ | refine kG ?_ | refine kE ?_ _)); exact BK512.out)) : gb513 ≠ gb512)); clear BK512; clear HB; have BK512 := n0_; have HB := n1_; have BK513 := n2_; have GW513 := n3_; have GE513 := n4_; have NB512_513 := n5_; have NB513_512 := n6_; clear n0_ n1_ n2_ n3_ n4_ n5_ n6_; clear hb hbox hg) | ((with_reducible refine gate_dst (N := 4) rfl ?_); refine box_event ?hg (N := 4) ?hd (cs := #[.bool false, .slice none 0 0]) (t := 175) ?hr ?_; (case hd => rfl); (case hg => rfl); (case hr => first | (go_simp; done) | (go_simp; rfl)); intro gb514 hg w53 hbox hb; have n0_ := Aside0.mk (kL (g := gb512) (o := .cells #[.bool a0_0, .slice A0_1 l0_1.length c0_1] 175 (0, 0)) (by (with_reducible repeat (first | refine kF ?_ _ | refine kG ?_ | refine kE ?_ _)); exact BK512.out) hb); have n1_ := Aside0.mk (kL (g := gb513) (o := .cells #[.bool a1_0, .slice A1_1 l1_1.length c1_1] 175 (0, 0)) (by (with_reducible repeat (first | refine kF ?_ _ | refine kG ?_ | refine kE ?_ _)); exact BK513.out) hb); have n2_ := Aside0.mk (kK (by repeat (first | (with_reducible first | exact HB.out | apply kC | apply kA | apply kB | refine kD ?_ GE512.out | refine kD ?_ GE513.out) | exact HB.out)) hb); have n3_ := Aside0.mk (hbox); have n4_ := Aside0.mk ((by rw [hg]; exact (kI (by repeat (first | (with_reducible first | exact HB.out | apply kC | apply kA | apply kB | refine kD ?_ GE512.out | refine kD ?_ GE513.out) | exact HB.out))) : w.heap.size ≤ gb514)); have n5_ := Aside0.mk ((by rw [hg]; exact (kI (by repeat (first | (with_reducible first | exact HB.out | apply kC | apply kA | apply kB | refine kD ?_ GE512.out | refine kD ?_ GE513.out) | exact HB.out))) : w.heap.size ≤ gb514)); have n6_ := Aside0.mk ((by rw [hg]; exact Nat.ne_of_lt (blk_lt (g := gb512) (o := .cells #[.bool a0_0, .slice A0_1 l0_1.length c0_1] 175 (0, 0)) (by (with_reducible repeat (first | refine kF ?_ _ | refine kG ?_ | refine kE ?_ _)); exact BK512.out)) : gb512 ≠ gb514)); have n7_ := Aside0.mk ((by rw [hg]; exact Nat.ne_of_gt (blk_lt (g := gb512) (o := .cells #[.bool a0_0, .slice A0_1 l0_1.length c0_1] 175 (0, 0)) (by (with_reducible repeat (first | refine kF ?_ _ | refine kG ?_ | refine kE ?_ _)); exact BK512.out)) : gb514 ≠ gb512)); have n8_ := Aside0.mk ((by rw [hg]; exact Nat.ne_of_lt (blk_lt (g := gb513) (o := .cells #[.bool a1_0, .slice A1_1 l1_1.length c1_1] 175 (0, 0)) (by (with_reducible repeat (first | refine kF ?_ _ | refine kG ?_ | refine kE ?_ _)); exact BK513.out)) : gb513 ≠ gb514)); have n9_ := Aside0.mk ((by rw [hg]; exact Nat.ne_of_gt (blk_lt (g := gb513) (o := .cells #[.bool a1_0, .slice A1_1 l1_1.length c1_1] 175 (0, 0)) (by (with_reducible repeat (first | refine kF ?_ _ | refine kG ?_ | refine kE ?_ _)); exact BK513.out)) : gb514 ≠ gb513)); clear BK512; clear BK513; clear HB; have BK512 := n0_; have BK513 := n1_; have HB := n2_; have BK514 := n3_; have GW514 := n4_; have GE514 := n5_; have NB512_514 := n6_; have NB514_512 := n7_; have NB513_514 := n8_; have NB514_513 := n9_; clear n0_ n1_ n2_ n3_ n4_ n5_ n6_ n7_ n8_ n9_; clear hb hbox hg; have hnb54 := NB512_513.out; have hnc54 := NB513_512.out; have hnb55 := NB512_514.out; have hnc55 := NB514_512.out; have hcz56_0 : w53.cell? ⟨gb512, 0, none⟩ = some (.bool a0_0) := (kH BK512.out 0).trans rfl; have hcz56_1 : w53.cell? ⟨gb512, 1, none⟩ = some (.slice A0_1 l0_1.length c0_1) := (kH BK512.out 1).trans rfl; have hfz56_0 := kJ BK512.out 0; have hfz56_1 := kJ BK512.out 1; have hnb57 := NB513_514.out; have hnc57 := NB514_513.out; have hcz58_0 : w53.cell? ⟨gb513, 0, none⟩ = some (.bool a1_0) := (kH BK513.out 0).trans rfl; have hcz58_1 : w53.cell? ⟨gb513, 1, none⟩ = some (.slice A1_1 l1_1.length c1_1) := (kH BK513.out 1).trans rfl; have hfz58_0 := kJ BK513.out 0; have hfz58_1 := kJ BK513.out 1) | ((with_reducible refine kM (f := 183) rfl ?_); refine goesL_ (some 22) rfl rfl Tryz.func183 (by kernel_rfl) rfl #[.slice A0_1 l0_1.length c0_1, .slice A1_1 l1_1.length c1_1] rfl (by (try simp only [List.map_toArray, List.map_cons, List.map_nil]); first | done | rfl | (simp only [List.length_drop, List.length_take]; rfl)) ?_; (with_reducible refine (computusref01_cmp.calls k _ _ l0_1 _ _ l1_1 t518 _ ?side1 ?side2 ?side3 ?side4 A18.out).mono ?_); (case side1 => repeat (first | exact (Kd.C_below HR0_1.out HB.out) | (with_reducible refine Kd.C_alloc ?_ _) | (with_reducible refine Kd.C_drewN ?_ _) | (with_reducible refine Kd.C_drew ?_))); (case side2 => exact HC0_1.out); (case side3 => repeat (first | exact (Kd.C_below HR1_1.out HB.out) | (with_reducible refine Kd.C_alloc ?_ _) | (with_reducible refine Kd.C_drewN ?_ _) | (with_reducible refine Kd.C_drew ?_))); (case side4 => exact HC1_1.out); rintro e w' ⟨rfl, ⟨nd, rfl⟩⟩; refine ⟨_, rfl, ?_⟩; (try (rw [drewN_self w53]; generalize hq_ : World.drewN w53 _ = w53; have n0_ : Aside0 (w53.heap[gb512]? = some (.cells #[.bool a0_0, .slice A0_1 l0_1.length c0_1] 175 (0, 0))) := ⟨by rw [← hq_]; exact (by (with_reducible repeat (first | refine kF ?_ _ | refine kG ?_ | refine kE ?_ _)); exact BK512.out)⟩; have n1_ : Aside0 (w53.heap[gb513]? = some (.cells #[.bool a1_0, .slice A1_1 l1_1.length c1_1] 175 (0, 0))) := ⟨by rw [← hq_]; exact (by (with_reducible repeat (first | refine kF ?_ _ | refine kG ?_ | refine kE ?_ _)); exact BK513.out)⟩; have n2_ : Aside0 (w53.heap[gb514]? = some (.cells #[.bool false, .slice none 0 0] 175 (0, 0))) := ⟨by rw [← hq_]; exact (by (with_reducible repeat (first | refine kF ?_ _ | refine kG ?_ | refine kE ?_ _)); exact BK514.out)⟩; have n3_ : Aside0 (Below w.heap.size w w53) := ⟨by rw [← hq_]; exact (by repeat (first | (with_reducible first | exact HB.out | apply kC | apply kA | apply kB | refine kD ?_ GE512.out | refine kD ?_ GE513.out | refine kD ?_ GE514.out) | exact HB.out))⟩; clear BK512 BK513 BK514 HB hq_; have BK512 := n0_; have BK513 := n1_; have BK514 := n2_; have HB := n3_; clear n0_ n1_ n2_ n3_; (try have hcz56_0 : w53.cell? ⟨gb512, 0, none⟩ = some (.bool a0_0) := (kH BK512.out 0).trans rfl); (try have hcz56_1 : w53.cell? ⟨gb512, 1, none⟩ = some (.slice A0_1 l0_1.length c0_1) := (kH BK512.out 1).trans rfl); (try have hcz58_0 : w53.cell? ⟨gb513, 0, none⟩ = some (.bool a1_0) := (kH BK513.out 0).trans rfl); (try have hcz58_1 : w53.cell? ⟨gb513, 1, none⟩ = some (.slice A1_1 l1_1.length c1_1) := (kH BK513.out 1).trans rfl)))))
      have n0_ := Aside0.mk (kG BK512.out)
      have n1_ := Aside0.mk (kG BK513.out)
      have n2_ := Aside0.mk (kG BK514.out)
      have n3_ := Aside0.mk (kB HB.out)
      clear BK512
      clear BK513
      clear BK514
      clear HB
      have BK512 := n0_
      have BK513 := n1_
      have BK514 := n2_
      have HB := n3_
      clear n0_ n1_ n2_ n3_
      refine start_ (n := 9) (S := fun w' => w'.cell? ⟨gb513, 0, none⟩ = some (.bool a1_0) ∧ w'.cell? ⟨gb513, 1, none⟩ = some (.slice A1_1 l1_1.length c1_1) ∧ w'.cell? ⟨gb512, 0, none⟩ = some (.bool a0_0) ∧ w'.cell? ⟨gb512, 1, none⟩ = some (.slice A0_1 l0_1.length c0_1)) (ds := []) #[false, false, false, false, false, false, false, false, false] (by kernel_rfl) rfl rfl ⟨(kH BK513.out 0).trans rfl, (kH BK513.out 1).trans rfl, (kH BK512.out 0).trans rfl, (kH BK512.out 1).trans rfl⟩ (fun hHeld => ?_); refine with_tabW computusref01_Plus.tab5 computusref01_Plus.bits5 (fun HT_ HW_ => ?_)
      generalize w53.drew = w59 at BK512 BK513 BK514 HB hHeld ⊢
      refine pure_ (i := 0) (N := some 40) (v := ?_) (a' := ?_) #[true, false, false, false, false, false, false, false, false] rfl rfl (any_of HT_.out (by kernel_rfl)) (fun _ _ _ h => h) (Or.inl ⟨by rfl, ?_⟩) ?_ ?_
      rotate_left
      · intro w'
        go_simp
        with_reducible rfl
      rotate_left
      · simp only [Act.put, List.setIfInBounds_toArray, List.set_cons_zero, List.set_cons_succ, i64_w, i32_w]
        rfl
      refine pure_ (i := 2) (N := some 42) (v := ?_) (a' := ?_) #[true, false, true, false, false, false, false, false, false] rfl rfl (any_of HT_.out (by kernel_rfl)) (fun _ _ _ h => h) (Or.inl ⟨by rfl, ?_⟩) ?_ ?_
      rotate_left
      · intro w'
        go_simp
        with_reducible rfl
      rotate_left
      · simp only [Act.put, List.setIfInBounds_toArray, List.set_cons_zero, List.set_cons_succ, i64_w, i32_w]
        rfl
      refine pure_ (i := 4) (N := some 44) (v := ?_) (a' := ?_) #[true, false, true, false, true, false, false, false, false] rfl rfl (any_of HT_.out (by kernel_rfl)) (fun _ _ _ h => h) (Or.inl ⟨by rfl, ?_⟩) ?_ ?_
      rotate_left
      · intro w'
        go_simp
        with_reducible rfl
      rotate_left
      · simp only [Act.put, List.setIfInBounds_toArray, List.set_cons_zero, List.set_cons_succ, i64_w, i32_w]
        rfl
      refine take_ (i := 1) (N := some 41) (v := ?_) (a' := ?_) #[true, true, true, false, true, false, false, false, false] rfl rfl (take_ofW HT_.out HW_.out (by kernel_rfl)) (fun _ _ _ h => h) (Or.inl ⟨by rfl, ?_⟩) hHeld ?_ ?_
      rotate_left
      · rintro w' ⟨s0, s1, s2, s3⟩
        go_simp
        with_reducible rfl
      rotate_left
      · simp only [Act.put, List.setIfInBounds_toArray, List.set_cons_zero, List.set_cons_succ, i64_w, i32_w]
        rfl
      refine take_ (i := 3) (N := some 43) (v := ?_) (a' := ?_) #[true, true, true, true, true, false, false, false, false] rfl rfl (take_ofW HT_.out HW_.out (by kernel_rfl)) (fun _ _ _ h => h) (Or.inl ⟨by rfl, ?_⟩) hHeld ?_ ?_
      rotate_left
      · rintro w' ⟨s0, s1, s2, s3⟩
        go_simp
        with_reducible rfl
      rotate_left
      · simp only [Act.put, List.setIfInBounds_toArray, List.set_cons_zero, List.set_cons_succ, i64_w, i32_w]
        rfl
      refine take_ (i := 5) (N := some 45) (v := ?_) (a' := ?_) #[true, true, true, true, true, true, false, false, false] rfl rfl (take_ofW HT_.out HW_.out (by kernel_rfl)) (fun _ _ _ h => h) (Or.inl ⟨by rfl, ?_⟩) hHeld ?_ ?_
      rotate_left
      · rintro w' ⟨s0, s1, s2, s3⟩
        go_simp
        with_reducible rfl
      rotate_left
      · simp only [Act.put, List.setIfInBounds_toArray, List.set_cons_zero, List.set_cons_succ, i64_w, i32_w]
        rfl
      refine one_ (i := 6) (N := some 46) #[true, true, true, true, true, true, true, false, false] rfl rfl (one_of HT_.out (by kernel_rfl)) (by decide) (fun K hK => ?_)
      refine goes_ Tryz.func184 (by kernel_rfl) rfl #[.slice A1_1 l1_1.length c1_1, .slice A0_1 l0_1.length c0_1] (by rfl) rfl rfl (by (try simp only [List.map_toArray, List.map_cons, List.map_nil]); first | done | rfl | (simp only [List.length_drop, List.length_take]; rfl)) ?_
      with_reducible refine (computusref01_less.calls k _ _ l1_1 _ _ l0_1 t526 _ ?side1 ?side2 ?side3 ?side4 A50.out).mono ?_
      (case side1 => repeat (first | exact (Kd.C_below HR1_1.out HB.out) | (with_reducible refine Kd.C_alloc ?_ _) | (with_reducible refine Kd.C_drewN ?_ _) | (with_reducible refine Kd.C_drew ?_)))
      (case side2 => exact HC1_1.out)
      (case side3 => repeat (first | exact (Kd.C_below HR0_1.out HB.out) | (with_reducible refine Kd.C_alloc ?_ _) | (with_reducible refine Kd.C_drewN ?_ _) | (with_reducible refine Kd.C_drew ?_)))
      (case side4 => exact HC0_1.out)
      rintro e w60 ⟨v527, rfl, ho0, hb⟩
      refine ⟨_, rfl, ?_⟩
      have n0_ := Aside0.mk (Kd.R_lower ho0 (kI (by repeat (first | (with_reducible first | exact HB.out | apply kC | apply kA | apply kB | refine kD ?_ GE512.out | refine kD ?_ GE513.out | refine kD ?_ GE514.out) | exact HB.out))))
      have n1_ := Aside0.mk (kL (g := gb512) (o := .cells #[.bool a0_0, .slice A0_1 l0_1.length c0_1] 175 (0, 0)) (by (with_reducible repeat (first | refine kF ?_ _ | refine kG ?_ | refine kE ?_ _)); exact BK512.out) hb)
      have n2_ := Aside0.mk (kL (g := gb513) (o := .cells #[.bool a1_0, .slice A1_1 l1_1.length c1_1] 175 (0, 0)) (by (with_reducible repeat (first | refine kF ?_ _ | refine kG ?_ | refine kE ?_ _)); exact BK513.out) hb)
      have n3_ := Aside0.mk (kL (g := gb514) (o := .cells #[.bool false, .slice none 0 0] 175 (0, 0)) (by (with_reducible repeat (first | refine kF ?_ _ | refine kG ?_ | refine kE ?_ _)); exact BK514.out) hb)
      have n4_ := Aside0.mk (kK (by repeat (first | (with_reducible first | exact HB.out | apply kC | apply kA | apply kB | refine kD ?_ GE512.out | refine kD ?_ GE513.out | refine kD ?_ GE514.out) | exact HB.out)) hb)
      clear BK512
      clear BK513
      clear BK514
      clear HB
      have HO528 := n0_
      have BK512 := n1_
      have BK513 := n2_
      have BK514 := n3_
      have HB := n4_
      clear n0_ n1_ n2_ n3_ n4_
      (try clear hb)
      (try clear hb2)
      (try clear hk)
      (try clear hi)
      (try clear ho0)
      obtain ⟨Ao61, co61, eo61⟩ := Kd.R_slice HO528.out
      (first | subst eo61 | (injection eo61 with f1_ f2_ f3_; have f4_ := f1_.symm; have f5_ := f3_.symm; clear f1_ f2_ f3_; subst f4_; subst f5_))
      refine hK.out _ _ ⟨(kH BK513.out 0).trans rfl, (kH BK513.out 1).trans rfl, (kH BK512.out 0).trans rfl, (kH BK512.out 1).trans rfl⟩ (fun hHeld => ?_)
      clear hK K
      refine norm_ (a' := ?_) ?_ ?_
      rotate_left
      · show Act.put _ (some 46) _ = _
        simp only [Act.put, List.setIfInBounds_toArray, List.set_cons_zero, List.set_cons_succ, i64_w, i32_w]
        rfl
      refine pure_ (i := 7) (N := some 47) (v := ?_) (a' := ?_) #[true, true, true, true, true, true, true, true, false] rfl rfl (any_of HT_.out (by kernel_rfl)) (fun _ _ _ h => h) (Or.inl ⟨by rfl, ?_⟩) ?_ ?_
      rotate_left
      · intro w'
        go_simp
        with_reducible rfl
      rotate_left
      · simp only [Act.put, List.setIfInBounds_toArray, List.set_cons_zero, List.set_cons_succ, i64_w, i32_w]
        rfl
      refine one_ (i := 8) (N := none) #[true, true, true, true, true, true, true, true, true] rfl rfl (one_of HT_.out (by kernel_rfl)) (by decide) (fun K hK => ?_)
      have hs62 : w60.cell? ⟨gb514, 0, none⟩ = some (.bool false) := (kH BK514.out 0).trans rfl
      have hfs62 := kJ BK514.out 0
      have hns62_0 := NB512_514.out
      have hns62_1 := NB513_514.out
      have hms62_0 := NB514_512.out
      have hms62_1 := NB514_513.out
      have hs63 : w60.cell? ⟨gb514, 1, none⟩ = some (.slice none 0 0) := (kH BK514.out 1).trans rfl
      have hfs63 := kJ BK514.out 1
      have hns63_0 := NB512_514.out
      have hns63_1 := NB513_514.out
      have hms63_0 := NB514_512.out
      have hms63_1 := NB514_513.out
      refine skip_ (w1 := ?_) (by rfl) rfl ?_ ?_
      rotate_left
      · go_simp
        rfl
      refine hK.out _ _ ⟨((cell_far (p := ⟨gb514, _, none⟩) NB513_514.out _).trans (((cell_far (p := ⟨gb514, _, none⟩) NB513_514.out _).trans (hHeld.1)))), ((cell_far (p := ⟨gb514, _, none⟩) NB513_514.out _).trans (((cell_far (p := ⟨gb514, _, none⟩) NB513_514.out _).trans (hHeld.2.1)))), ((cell_far (p := ⟨gb514, _, none⟩) NB512_514.out _).trans (((cell_far (p := ⟨gb514, _, none⟩) NB512_514.out _).trans (hHeld.2.2.1)))), ((cell_far (p := ⟨gb514, _, none⟩) NB512_514.out _).trans (((cell_far (p := ⟨gb514, _, none⟩) NB512_514.out _).trans (hHeld.2.2.2))))⟩ (fun hHeld => ?_)
      clear hK K
      refine done_ (done_of HT_.out (by kernel_rfl)) ?_
      try go_wp2
      refine bodyPost_ret (results_cell_row rfl _ _ gb514 175 #[.bool a1_0, .slice Ao61 t526.length co61] (0, 0) _ rfl (by (with_reducible repeat (first | refine kF ?_ _ | refine kG ?_ | refine kE ?_ _)); refine blk_put (cs := #[.bool a1_0, .slice none 0 0]) ?_ 1 _ rfl; (with_reducible repeat (first | refine kF ?_ _ | refine kG ?_ | refine kE ?_ _)); refine blk_put (cs := #[.bool false, .slice none 0 0]) ?_ 0 _ rfl; (with_reducible repeat (first | refine kF ?_ _ | refine kG ?_ | refine kE ?_ _)); exact BK514.out) Tryz.underlying175 rfl (by kernel_rfl)) rfl ?_
      exact ⟨_, by first | rfl | (simp [errW_none, errW_some] <;> rfl) | (simp [*, errW_none, errW_some] <;> rfl), by (with_reducible repeat (first | apply Kd.R_alloc | apply Kd.R_drewN | apply Kd.R_drew)); exact Kd.R_mono (Kd.R_far (p := ⟨gb514, 1, none⟩) (Kd.R_far (p := ⟨gb514, 0, none⟩) (Kd.R_types HO528.out BK514.out (by decide)) (fun _ hk => hk.2) (.bool a1_0)) (fun _ hk => hk.2) (.slice Ao61 t526.length co61)) (fun _ hk => trivial), by repeat (first | (with_reducible first | exact HB.out | apply kC | apply kA | apply kB | refine kD ?_ GE512.out | refine kD ?_ GE513.out | refine kD ?_ GE514.out) | exact HB.out)⟩
end Go.Proofs.YthkmckmfgglafaaGreat.P
