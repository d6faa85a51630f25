-- Written by a program of the session (a print of the seat's translation, functions given by hand among it). Lean checks it.
import Derived.Test.YthkmckmfgglafaaGreatQefmlpbeiik
import Derived.Test.YthkmckmfgglafaaGreatQjcdbecpohe
import Derived.Test.YthkmckmfgglafaaGreatQalikfpobko
namespace Go.Proofs.YthkmckmfgglafaaGreat.P
open Go.RowKit Go.Proofs.YthkmckmfgglafaaGreatW.PrintWords Go.Proofs.YthkmckmfgglafaaGreatW.PrintLast Go.Proofs.YthkmckmfgglafaaGreatW.PrintMore
attribute [local go_sem] max2_int min2_int max_two min_two max_three min_three max_four min_four   -- for this text's walks alone
set_option linter.unusedVariables false
set_option linter.unusedSimpArgs false
def computusref01_Over.j0 : Nat → List Int → Bool → Bool → List Int → Bool → List Int → Option (Bool × List Int)
  | 0, _, _, _, _, _, _ => none
  | k + 1, x5, x24, x480000, x480001, x481000, x481001 => if x24 = true then ((computusref01_Of.f 1).bind fun bt489 => ((computusref01_add.f k x5 bt489.2).bind fun t493 => (if (x480000 != x481000) = true then ((computusref01_zero.f k t493).bind fun t496 => (some (!t496, t493))) else (some (false, t493))))) else (if (x480000 != x481000) = true then ((computusref01_zero.f k x5).bind fun t497 => (some (!t497, x5))) else (some (false, x5)))
def computusref01_Over.f (k : Nat) (a0_0 : Bool) (l0_1 : List Int) (a1_0 : Bool) (l1_1 : List Int) : Option (Bool × List Int) := (computusref01_divide.f k l0_1 l1_1).bind fun bt482 => (if (a0_0 != a1_0) = true then ((computusref01_zero.f k bt482.2).bind fun t488 => (computusref01_Over.j0 k bt482.1 (!t488) a0_0 l0_1 a1_0 l1_1)) else (computusref01_Over.j0 k bt482.1 false a0_0 l0_1 a1_0 l1_1))
theorem computusref01_Over.mono_l : ∀ k, (∀ y0 y1 y2 y3 y4 y5, LeO (computusref01_Over.j0 k y0 y1 y2 y3 y4 y5) (computusref01_Over.j0 (k + 1) y0 y1 y2 y3 y4 y5))
  | 0 => fun _ _ _ _ _ _ r h => by simp [computusref01_Over.j0] at h
  | k + 1 => by
    have ih0 := computusref01_Over.mono_l k
    · intro y0 y1 y2 y3 y4 y5
      unfold computusref01_Over.j0
      repeat' first
      | (with_reducible exact ih0 _ _ _ _ _ _)
      | (with_reducible exact computusref01_add.mono _ _ _)
      | (with_reducible exact computusref01_divide.mono _ _ _)
      | (with_reducible exact computusref01_zero.mono _ _)
      | (with_reducible exact LeO.refl _)
      | (with_reducible exact LeO.none _)
      | (with_reducible refine LeO.ite ?_ ?_)
      | (with_reducible refine LeO.bind ?_ (fun _ => ?_))
      | exact ih0 _ _ _ _ _ _
      | exact computusref01_add.mono _ _ _
      | exact computusref01_divide.mono _ _ _
      | exact computusref01_zero.mono _ _
      | exact LeO.none _
      | refine LeO.ite ?_ ?_
      | refine LeO.bind ?_ (fun _ => ?_)
theorem computusref01_Over.mono : ∀ a0 a1 a2 a3 k, LeO (computusref01_Over.f k a0 a1 a2 a3) (computusref01_Over.f (k + 1) a0 a1 a2 a3) := by
  intro a0 a1 a2 a3 k
  have ih0 := computusref01_Over.mono_l k
  unfold computusref01_Over.f
  repeat' first
      | (with_reducible exact ih0 _ _ _ _ _ _)
      | (with_reducible exact computusref01_add.mono _ _ _)
      | (with_reducible exact computusref01_divide.mono _ _ _)
      | (with_reducible exact computusref01_zero.mono _ _)
      | (with_reducible exact LeO.refl _)
      | (with_reducible exact LeO.none _)
      | (with_reducible refine LeO.ite ?_ ?_)
      | (with_reducible refine LeO.bind ?_ (fun _ => ?_))
      | exact ih0 _ _ _ _ _ _
      | exact computusref01_add.mono _ _ _
      | exact computusref01_divide.mono _ _ _
      | exact computusref01_zero.mono _ _
      | exact LeO.none _
      | refine LeO.ite ?_ ?_
      | refine LeO.bind ?_ (fun _ => ?_)
set_option maxHeartbeats 8000000 in
set_option maxRecDepth 100000 in
theorem computusref01_Over.calls (k : Nat) (a0_0 : Bool) (A0_1 : Option Addr) (c0_1 : Nat) (l0_1 : List Int) (a1_0 : Bool) (A1_1 : Option Addr) (c1_1 : Nat) (l1_1 : List Int) (r1 : Bool) (r2 : List Int) (w : World) (hr0_1 : Kd.C (Kd.int .u64) w A0_1 l0_1.length l0_1) (hc0_1 : l0_1.length ≤ c0_1) (hr1_1 : Kd.C (Kd.int .u64) w A1_1 l1_1.length l1_1) (hc1_1 : l1_1.length ≤ c1_1) (h : computusref01_Over.f k a0_0 l0_1 a1_0 l1_1 = some (r1, r2)) :
    Calls Tryz.prog 136 #[.agg #[.bool a0_0, .slice A0_1 l0_1.length c0_1], .agg #[.bool a1_0, .slice A1_1 l1_1.length c1_1]] w fun e w' => ∃ v1_ : Value, e = .returned (.agg #[.bool r1, v1_]) ∧ Kd.R (Kd.int .u64) 169 w' w.heap.size (fun _ => True) v1_ r2 ∧ Below w.heap.size w w' := by
  have hu175 := Tryz.underlying175
  have hfd175_1 : ∀ (y0_ y1_ : Value) (W : World), (Instr.field 175 (.agg #[y0_, y1_]) 1).run Tryz.prog W = .ok (y1_) W := fun y0_ y1_ W => by rfl
  have HR0_1 := Aside0.mk hr0_1
  have HC0_1 := Aside0.mk hc0_1
  clear hr0_1 hc0_1
  have HR1_1 := Aside0.mk hr1_1
  have HC1_1 := Aside0.mk hc1_1
  clear hr1_1 hc1_1
  have HB := Aside0.mk (Below.refl w.heap.size w)
  have H : ((computusref01_divide.f k l0_1 l1_1).bind fun bt482 => (if (a0_0 != a1_0) = true then ((computusref01_zero.f k bt482.2).bind fun t488 => (computusref01_Over.j0 k bt482.1 (!t488) a0_0 l0_1 a1_0 l1_1)) else (computusref01_Over.j0 k bt482.1 false a0_0 l0_1 a1_0 l1_1))) = some (r1, r2) := h
  clear h
  replace H := Option.bind_eq_some_iff.mp H
  obtain ⟨⟨t482, t483⟩, A30, H⟩ := H
  replace H : (if (a0_0 != a1_0) = true then ((computusref01_zero.f k t483).bind fun t488 => (computusref01_Over.j0 k t482 (!t488) a0_0 l0_1 a1_0 l1_1)) else (computusref01_Over.j0 k t482 false a0_0 l0_1 a1_0 l1_1)) = some (r1, r2) := H
  have A3 := Aside0.mk A30
  clear A30
  have HC4 := Aside0.mk H
  clear H
  go_enter Tryz.func136, Tryz.ntmps136
  go_upto_region 2 with (first | ((with_reducible refine gate_dst (N := 2) rfl ?_); refine box_event ?hg (N := 2) ?hd (cs := #[.bool a0_0, .slice A0_1 l0_1.length c0_1]) (t := 175) ?hr ?_; (case hd => rfl); (case hg => rfl); (case hr => first | (go_simp; done) | (go_simp; rfl)); intro gb479 hg w5 hbox hb; have n0_ := Aside0.mk (kK (by repeat (first | (with_reducible first | exact HB.out | apply kC | apply kA | apply kB) | exact HB.out)) hb); have n1_ := Aside0.mk (hbox); have n2_ := Aside0.mk ((by rw [hg]; exact (kI (by repeat (first | (with_reducible first | exact HB.out | apply kC | apply kA | apply kB) | exact HB.out))) : w.heap.size ≤ gb479)); have n3_ := Aside0.mk ((by rw [hg]; exact (kI (by repeat (first | (with_reducible first | exact HB.out | apply kC | apply kA | apply kB) | exact HB.out))) : w.heap.size ≤ gb479)); clear HB; have HB := n0_; have BK479 := n1_; have GW479 := n2_; have GE479 := n3_; clear n0_ n1_ n2_ n3_; clear hb hbox hg) | ((with_reducible refine gate_dst (N := 3) rfl ?_); refine box_event ?hg (N := 3) ?hd (cs := #[.bool a1_0, .slice A1_1 l1_1.length c1_1]) (t := 175) ?hr ?_; (case hd => rfl); (case hg => rfl); (case hr => first | (go_simp; done) | (go_simp; rfl)); intro gb480 hg w6 hbox hb; have n0_ := Aside0.mk (kL (g := gb479) (o := .cells #[.bool a0_0, .slice A0_1 l0_1.length c0_1] 175 (0, 0)) (by (with_reducible repeat (first | refine kF ?_ _ | refine kG ?_ | refine kE ?_ _)); exact BK479.out) hb); have n1_ := Aside0.mk (kK (by repeat (first | (with_reducible first | exact HB.out | apply kC | apply kA | apply kB | refine kD ?_ GE479.out) | exact HB.out)) hb); have n2_ := Aside0.mk (hbox); have n3_ := Aside0.mk ((by rw [hg]; exact (kI (by repeat (first | (with_reducible first | exact HB.out | apply kC | apply kA | apply kB | refine kD ?_ GE479.out) | exact HB.out))) : w.heap.size ≤ gb480)); have n4_ := Aside0.mk ((by rw [hg]; exact (kI (by repeat (first | (with_reducible first | exact HB.out | apply kC | apply kA | apply kB | refine kD ?_ GE479.out) | exact HB.out))) : w.heap.size ≤ gb480)); have n5_ := Aside0.mk ((by rw [hg]; exact Nat.ne_of_lt (blk_lt (g := gb479) (o := .cells #[.bool a0_0, .slice A0_1 l0_1.length c0_1] 175 (0, 0)) (by (with_reducible repeat (first | refine kF ?_ _ | refine kG ?_ | refine kE ?_ _)); exact BK479.out)) : gb479 ≠ gb480)); have n6_ := Aside0.mk ((by rw [hg]; exact Nat.ne_of_gt (blk_lt (g := gb479) (o := .cells #[.bool a0_0, .slice A0_1 l0_1.length c0_1] 175 (0, 0)) (by (with_reducible repeat (first | refine kF ?_ _ | refine kG ?_ | refine kE ?_ _)); exact BK479.out)) : gb480 ≠ gb479)); clear BK479; clear HB; have BK479 := n0_; have HB := n1_; have BK480 := n2_; have GW480 := n3_; have GE480 := n4_; have NB479_480 := n5_; have NB480_479 := n6_; clear n0_ n1_ n2_ n3_ n4_ n5_ n6_; clear hb hbox hg) | ((with_reducible refine gate_dst (N := 4) rfl ?_); refine box_event ?hg (N := 4) ?hd (cs := #[.bool false, .slice none 0 0]) (t := 175) ?hr ?_; (case hd => rfl); (case hg => rfl); (case hr => first | (go_simp; done) | (go_simp; rfl)); intro gb481 hg w7 hbox hb; have n0_ := Aside0.mk (kL (g := gb479) (o := .cells #[.bool a0_0, .slice A0_1 l0_1.length c0_1] 175 (0, 0)) (by (with_reducible repeat (first | refine kF ?_ _ | refine kG ?_ | refine kE ?_ _)); exact BK479.out) hb); have n1_ := Aside0.mk (kL (g := gb480) (o := .cells #[.bool a1_0, .slice A1_1 l1_1.length c1_1] 175 (0, 0)) (by (with_reducible repeat (first | refine kF ?_ _ | refine kG ?_ | refine kE ?_ _)); exact BK480.out) hb); have n2_ := Aside0.mk (kK (by repeat (first | (with_reducible first | exact HB.out | apply kC | apply kA | apply kB | refine kD ?_ GE479.out | refine kD ?_ GE480.out) | exact HB.out)) hb); have n3_ := Aside0.mk (hbox); have n4_ := Aside0.mk ((by rw [hg]; exact (kI (by repeat (first | (with_reducible first | exact HB.out | apply kC | apply kA | apply kB | refine kD ?_ GE479.out | refine kD ?_ GE480.out) | exact HB.out))) : w.heap.size ≤ gb481)); have n5_ := Aside0.mk ((by rw [hg]; exact (kI (by repeat (first | (with_reducible first | exact HB.out | apply kC | apply kA | apply kB | refine kD ?_ GE479.out | refine kD ?_ GE480.out) | exact HB.out))) : w.heap.size ≤ gb481)); have n6_ := Aside0.mk ((by rw [hg]; exact Nat.ne_of_lt (blk_lt (g := gb479) (o := .cells #[.bool a0_0, .slice A0_1 l0_1.length c0_1] 175 (0, 0)) (by (with_reducible repeat (first | refine kF ?_ _ | refine kG ?_ | refine kE ?_ _)); exact BK479.out)) : gb479 ≠ gb481)); have n7_ := Aside0.mk ((by rw [hg]; exact Nat.ne_of_gt (blk_lt (g := gb479) (o := .cells #[.bool a0_0, .slice A0_1 l0_1.length c0_1] 175 (0, 0)) (by (with_reducible repeat (first | refine kF ?_ _ | refine kG ?_ | refine kE ?_ _)); exact BK479.out)) : gb481 ≠ gb479)); have n8_ := Aside0.mk ((by rw [hg]; exact Nat.ne_of_lt (blk_lt (g := gb480) (o := .cells #[.bool a1_0, .slice A1_1 l1_1.length c1_1] 175 (0, 0)) (by (with_reducible repeat (first | refine kF ?_ _ | refine kG ?_ | refine kE ?_ _)); exact BK480.out)) : gb480 ≠ gb481)); have n9_ := Aside0.mk ((by rw [hg]; exact Nat.ne_of_gt (blk_lt (g := gb480) (o := .cells #[.bool a1_0, .slice A1_1 l1_1.length c1_1] 175 (0, 0)) (by (with_reducible repeat (first | refine kF ?_ _ | refine kG ?_ | refine kE ?_ _)); exact BK480.out)) : gb481 ≠ gb480)); clear BK479; clear BK480; clear HB; have BK479 := n0_; have BK480 := n1_; have HB := n2_; have BK481 := n3_; have GW481 := n4_; have GE481 := n5_; have NB479_481 := n6_; have NB481_479 := n7_; have NB480_481 := n8_; have NB481_480 := n9_; clear n0_ n1_ n2_ n3_ n4_ n5_ n6_ n7_ n8_ n9_; clear hb hbox hg; have hnb8 := NB479_480.out; have hnc8 := NB480_479.out; have hnb9 := NB479_481.out; have hnc9 := NB481_479.out; have hcz10_0 : w7.cell? ⟨gb479, 0, none⟩ = some (.bool a0_0) := (kH BK479.out 0).trans rfl; have hcz10_1 : w7.cell? ⟨gb479, 1, none⟩ = some (.slice A0_1 l0_1.length c0_1) := (kH BK479.out 1).trans rfl; have hfz10_0 := kJ BK479.out 0; have hfz10_1 := kJ BK479.out 1; have hnb11 := NB480_481.out; have hnc11 := NB481_480.out; have hcz12_0 : w7.cell? ⟨gb480, 0, none⟩ = some (.bool a1_0) := (kH BK480.out 0).trans rfl; have hcz12_1 : w7.cell? ⟨gb480, 1, none⟩ = some (.slice A1_1 l1_1.length c1_1) := (kH BK480.out 1).trans rfl; have hfz12_0 := kJ BK480.out 0; have hfz12_1 := kJ BK480.out 1) | ((with_reducible refine kM (f := 180) rfl ?_); refine goesL_ (some 12) rfl rfl Tryz.func180 (by kernel_rfl) rfl #[.slice A0_1 l0_1.length c0_1, .slice A1_1 l1_1.length c1_1] rfl (by (try simp only [List.map_toArray, List.map_cons, List.map_nil]); first | done | rfl | (simp only [List.length_drop, List.length_take]; rfl)) ?_; (with_reducible refine (computusref01_divide.calls k _ _ l0_1 _ _ l1_1 t482 t483 _ ?side1 ?side2 ?side3 ?side4 A3.out).mono ?_); (case side1 => repeat (first | exact (Kd.C_below HR0_1.out HB.out) | (with_reducible refine Kd.C_alloc ?_ _) | (with_reducible refine Kd.C_drewN ?_ _) | (with_reducible refine Kd.C_drew ?_))); (case side2 => exact HC0_1.out); (case side3 => repeat (first | exact (Kd.C_below HR1_1.out HB.out) | (with_reducible refine Kd.C_alloc ?_ _) | (with_reducible refine Kd.C_drewN ?_ _) | (with_reducible refine Kd.C_drew ?_))); (case side4 => exact HC1_1.out); rintro e w13 ⟨v484, v486, rfl, ho0, ho1, hb⟩; refine ⟨_, rfl, ?_⟩; have n0_ := Aside0.mk (Kd.R_lower ho0 (kI (by repeat (first | (with_reducible first | exact HB.out | apply kC | apply kA | apply kB | refine kD ?_ GE479.out | refine kD ?_ GE480.out | refine kD ?_ GE481.out) | exact HB.out)))); have n1_ := Aside0.mk (Kd.R_lower ho1 (kI (by repeat (first | (with_reducible first | exact HB.out | apply kC | apply kA | apply kB | refine kD ?_ GE479.out | refine kD ?_ GE480.out | refine kD ?_ GE481.out) | exact HB.out)))); have n2_ := Aside0.mk (kL (g := gb479) (o := .cells #[.bool a0_0, .slice A0_1 l0_1.length c0_1] 175 (0, 0)) (by (with_reducible repeat (first | refine kF ?_ _ | refine kG ?_ | refine kE ?_ _)); exact BK479.out) hb); have n3_ := Aside0.mk (kL (g := gb480) (o := .cells #[.bool a1_0, .slice A1_1 l1_1.length c1_1] 175 (0, 0)) (by (with_reducible repeat (first | refine kF ?_ _ | refine kG ?_ | refine kE ?_ _)); exact BK480.out) hb); have n4_ := Aside0.mk (kL (g := gb481) (o := .cells #[.bool false, .slice none 0 0] 175 (0, 0)) (by (with_reducible repeat (first | refine kF ?_ _ | refine kG ?_ | refine kE ?_ _)); exact BK481.out) hb); have n5_ := Aside0.mk (kK (by repeat (first | (with_reducible first | exact HB.out | apply kC | apply kA | apply kB | refine kD ?_ GE479.out | refine kD ?_ GE480.out | refine kD ?_ GE481.out) | exact HB.out)) hb); clear BK479; clear BK480; clear BK481; clear HB; have HO485 := n0_; have HO487 := n1_; have BK479 := n2_; have BK480 := n3_; have BK481 := n4_; have HB := n5_; clear n0_ n1_ n2_ n3_ n4_ n5_; (try clear hb); (try clear hb2); (try clear hk); (try clear hi); (try clear ho0); (try clear ho1)))
  (try simp only [Act.put, List.setIfInBounds_toArray, List.set_cons_zero, List.set_cons_succ])
  go_cut [24] (fun v24 wc => ∃ (kq : Nat) (x24_3 : Bool), v24 = .bool x24_3 ∧ Aside0 (computusref01_Over.j0 kq t482 x24_3 a0_0 l0_1 a1_0 l1_1 = some (r1, r2)) ∧ Aside0 (kq ≤ k) ∧ Aside0 (Kd.R (Kd.int .u64) 169 wc w.heap.size (fun _ => True) v484 t482) ∧ Aside0 (wc.heap[gb479]? = some (.cells #[.bool a0_0, (.slice A0_1 l0_1.length c0_1)] 175 (0, 0))) ∧ Aside0 (wc.heap[gb480]? = some (.cells #[.bool a1_0, (.slice A1_1 l1_1.length c1_1)] 175 (0, 0))) ∧ Aside0 (wc.heap[gb481]? = some (.cells #[.bool false, (.slice none 0 0)] 175 (0, 0))) ∧ Aside0 (Below w.heap.size w wc))
  case first =>
    have H := HC4.out
    clear HC4
    by_cases c14 : (a0_0 != a1_0) = true
    · rw [if_pos c14] at H
      have c14b0 : (a0_0 != a1_0) = true := c14
      (try (have c14b1 : decide (a0_0 = a1_0) = false := by simpa using c14))
      (try (have c14b2 : (a0_0 == a1_0) = false := by simpa using c14))
      (try (have c14b3 : ¬ (a0_0 = a1_0) := by simpa using c14))
      clear c14
      (first | rw [c14b0] | (simp only [i64_w, i32_w]; rw [c14b0]) | skip)
      replace H := Option.bind_eq_some_iff.mp H
      obtain ⟨t488, A150, H⟩ := H
      replace H : (computusref01_Over.j0 k t482 (!t488) a0_0 l0_1 a1_0 l1_1) = some (r1, r2) := H
      have A15 := Aside0.mk A150
      clear A150
      have H' := Aside0.mk H
      clear H
      have hnb16 := NB479_480.out
      have hnc16 := NB480_479.out
      have hnb17 := NB479_481.out
      have hnc17 := NB481_479.out
      have hcz18_0 : w13.cell? ⟨gb479, 0, none⟩ = some (.bool a0_0) := (kH BK479.out 0).trans rfl
      have hcz18_1 : w13.cell? ⟨gb479, 1, none⟩ = some (.slice A0_1 l0_1.length c0_1) := (kH BK479.out 1).trans rfl
      have hfz18_0 := kJ BK479.out 0
      have hfz18_1 := kJ BK479.out 1
      have hnb19 := NB480_481.out
      have hnc19 := NB481_480.out
      have hcz20_0 : w13.cell? ⟨gb480, 0, none⟩ = some (.bool a1_0) := (kH BK480.out 0).trans rfl
      have hcz20_1 : w13.cell? ⟨gb480, 1, none⟩ = some (.slice A1_1 l1_1.length c1_1) := (kH BK480.out 1).trans rfl
      have hfz20_0 := kJ BK480.out 0
      have hfz20_1 := kJ BK480.out 1
      obtain ⟨Ao21, co21, eo21⟩ := Kd.R_slice HO487.out
      subst eo21
      go_wp2_with (first | (go_at_call 181; (with_reducible refine (computusref01_zero.calls k _ _ t483 t488 _ ?side1 ?side2 A15.out).mono ?_); (case side1 => repeat (first | exact (Kd.R_reads' HO487.out).2.2 | (with_reducible refine Kd.C_alloc ?_ _) | (with_reducible refine Kd.C_drewN ?_ _) | (with_reducible refine Kd.C_drew ?_))); (case side2 => exact (Kd.R_reads' HO487.out).2.1); rintro e w22 ⟨rfl, hb⟩; have n0_ := Aside0.mk (Kd.R_below (by (with_reducible repeat (first | apply Kd.R_alloc | apply Kd.R_drewN | apply Kd.R_drew)); exact HO485.out) hb); have n1_ := Aside0.mk (Kd.R_below (by (with_reducible repeat (first | apply Kd.R_alloc | apply Kd.R_drewN | apply Kd.R_drew)); exact HO487.out) hb); have n2_ := Aside0.mk (kL (g := gb479) (o := .cells #[.bool a0_0, .slice A0_1 l0_1.length c0_1] 175 (0, 0)) (by (with_reducible repeat (first | refine kF ?_ _ | refine kG ?_ | refine kE ?_ _)); exact BK479.out) hb); have n3_ := Aside0.mk (kL (g := gb480) (o := .cells #[.bool a1_0, .slice A1_1 l1_1.length c1_1] 175 (0, 0)) (by (with_reducible repeat (first | refine kF ?_ _ | refine kG ?_ | refine kE ?_ _)); exact BK480.out) hb); have n4_ := Aside0.mk (kL (g := gb481) (o := .cells #[.bool false, .slice none 0 0] 175 (0, 0)) (by (with_reducible repeat (first | refine kF ?_ _ | refine kG ?_ | refine kE ?_ _)); exact BK481.out) hb); have n5_ := Aside0.mk (kK (by repeat (first | (with_reducible first | exact HB.out | apply kC | apply kA | apply kB | refine kD ?_ GE479.out | refine kD ?_ GE480.out | refine kD ?_ GE481.out) | exact HB.out)) hb); clear HO485; clear HO487; clear BK479; clear BK480; clear BK481; clear HB; have HO485 := n0_; have HO487 := n1_; have BK479 := n2_; have BK480 := n3_; have BK481 := n4_; have HB := n5_; clear n0_ n1_ n2_ n3_ n4_ n5_; (try clear hb); (try clear hb2); (try clear hk); (try clear hi)))
      go_meet
      case rel => exact ⟨_, (!t488), (by first | rfl | (simp; done) | (simp [*]; done)), H', ⟨by first | omega | exact Nat.le_refl _⟩, ⟨by (with_reducible repeat (first | apply Kd.R_alloc | apply Kd.R_drewN | apply Kd.R_drew)); exact Kd.R_mono HO485.out (fun _ hk => trivial)⟩, ⟨by (with_reducible repeat (first | refine kF ?_ _ | refine kG ?_ | refine kE ?_ _)); exact BK479.out⟩, ⟨by (with_reducible repeat (first | refine kF ?_ _ | refine kG ?_ | refine kE ?_ _)); exact BK480.out⟩, ⟨by (with_reducible repeat (first | refine kF ?_ _ | refine kG ?_ | refine kE ?_ _)); exact BK481.out⟩, ⟨by repeat (first | (with_reducible first | exact HB.out | apply kC | apply kA | apply kB | refine kD ?_ GE479.out | refine kD ?_ GE480.out | refine kD ?_ GE481.out) | exact HB.out)⟩⟩
    · rw [if_neg c14] at H
      have c14b0 : (a0_0 != a1_0) = false := by simpa using c14
      (try (have c14b1 : decide (a0_0 = a1_0) = true := by simpa using c14))
      (try (have c14b2 : (a0_0 == a1_0) = true := by simpa using c14))
      clear c14
      (first | rw [c14b0] | (simp only [i64_w, i32_w]; rw [c14b0]) | skip)
      have H' := Aside0.mk H
      clear H
      have hnb23 := NB479_480.out
      have hnc23 := NB480_479.out
      have hnb24 := NB479_481.out
      have hnc24 := NB481_479.out
      have hcz25_0 : w13.cell? ⟨gb479, 0, none⟩ = some (.bool a0_0) := (kH BK479.out 0).trans rfl
      have hcz25_1 : w13.cell? ⟨gb479, 1, none⟩ = some (.slice A0_1 l0_1.length c0_1) := (kH BK479.out 1).trans rfl
      have hfz25_0 := kJ BK479.out 0
      have hfz25_1 := kJ BK479.out 1
      have hnb26 := NB480_481.out
      have hnc26 := NB481_480.out
      have hcz27_0 : w13.cell? ⟨gb480, 0, none⟩ = some (.bool a1_0) := (kH BK480.out 0).trans rfl
      have hcz27_1 : w13.cell? ⟨gb480, 1, none⟩ = some (.slice A1_1 l1_1.length c1_1) := (kH BK480.out 1).trans rfl
      have hfz27_0 := kJ BK480.out 0
      have hfz27_1 := kJ BK480.out 1
      go_wp2
      go_meet
      case rel => exact ⟨_, (false), (by first | rfl | (simp; done) | (simp [*]; done)), H', ⟨by first | omega | exact Nat.le_refl _⟩, ⟨by (with_reducible repeat (first | apply Kd.R_alloc | apply Kd.R_drewN | apply Kd.R_drew)); exact Kd.R_mono HO485.out (fun _ hk => trivial)⟩, ⟨by (with_reducible repeat (first | refine kF ?_ _ | refine kG ?_ | refine kE ?_ _)); exact BK479.out⟩, ⟨by (with_reducible repeat (first | refine kF ?_ _ | refine kG ?_ | refine kE ?_ _)); exact BK480.out⟩, ⟨by (with_reducible repeat (first | refine kF ?_ _ | refine kG ?_ | refine kE ?_ _)); exact BK481.out⟩, ⟨by repeat (first | (with_reducible first | exact HB.out | apply kC | apply kA | apply kB | refine kD ?_ GE479.out | refine kD ?_ GE480.out | refine kD ?_ GE481.out) | exact HB.out)⟩⟩
  case rest =>
    clear HC4
    try clear c1
    try clear c2
    try clear p2
    try clear c8
    try clear c9
    try clear c11
    try clear c13
    try clear c14
    try clear c14b0
    try clear c14b1
    try clear c14b2
    try clear c16
    try clear c17
    try clear c18
    try clear c19
    try clear c23
    try clear c24
    try clear c26
    try clear hcz10_0
    try clear hcz10_1
    try clear hcz12_0
    try clear hcz12_1
    try clear hcz18_0
    try clear hcz18_1
    try clear hcz20_0
    try clear hcz20_1
    try clear hcz25_0
    try clear hcz25_1
    try clear hcz27_0
    try clear hcz27_1
    try clear hfz10_0
    try clear hfz10_1
    try clear hfz12_0
    try clear hfz12_1
    try clear hfz18_0
    try clear hfz18_1
    try clear hfz20_0
    try clear hfz20_1
    try clear hfz25_0
    try clear hfz25_1
    try clear hfz27_0
    try clear hfz27_1
    obtain ⟨kq, x24_3, rfl, HA, HJ3, HO_5, BK479, BK480, BK481, HB⟩ := hcut
    cases kq with
    | zero => exact absurd HA.out (by simp [computusref01_Over.j0])
    | succ kj3 =>
      have H := HA.out
      clear HA
      simp only [computusref01_Over.j0] at H
      by_cases c28 : x24_3 = true
      · subst c28
        have H1 : ((computusref01_Of.f 1).bind fun bt489 => ((computusref01_add.f kj3 t482 bt489.2).bind fun t493 => (if (a0_0 != a1_0) = true then ((computusref01_zero.f kj3 t493).bind fun t496 => (some (!t496, t493))) else (some (false, t493))))) = some (r1, r2) := by rw [if_pos rfl] at H; exact H
        clear H
        have H := H1
        clear H1
        replace H := Option.bind_eq_some_iff.mp H
        obtain ⟨⟨t489, t490⟩, A290, H⟩ := H
        replace H : ((computusref01_add.f kj3 t482 t490).bind fun t493 => (if (a0_0 != a1_0) = true then ((computusref01_zero.f kj3 t493).bind fun t496 => (some (!t496, t493))) else (some (false, t493)))) = some (r1, r2) := H
        have A29 := Aside0.mk A290
        clear A290
        replace H := Option.bind_eq_some_iff.mp H
        obtain ⟨t493, A300, H⟩ := H
        replace H : (if (a0_0 != a1_0) = true then ((computusref01_zero.f kj3 t493).bind fun t496 => (some (!t496, t493))) else (some (false, t493))) = some (r1, r2) := H
        have A30 := Aside0.mk A300
        clear A300
        by_cases c31 : (a0_0 != a1_0) = true
        · rw [if_pos c31] at H
          have c31b0 : (a0_0 != a1_0) = true := c31
          (try (have c31b1 : decide (a0_0 = a1_0) = false := by simpa using c31))
          (try (have c31b2 : (a0_0 == a1_0) = false := by simpa using c31))
          (try (have c31b3 : ¬ (a0_0 = a1_0) := by simpa using c31))
          clear c31
          replace H := Option.bind_eq_some_iff.mp H
          obtain ⟨t496, A320, H⟩ := H
          replace H : (some (!t496, t493)) = some (r1, r2) := H
          have A32 := Aside0.mk A320
          clear A320
          simp only [Option.some.injEq, Prod.mk.injEq] at H
          obtain ⟨rfl, rfl⟩ := H
          go_wp2_with (first | ((with_reducible refine kM (f := 137) rfl ?_); refine goesL_ (some 26) rfl rfl Tryz.func137 (by kernel_rfl) rfl #[.int .i64 1] rfl (by (try simp only [List.map_toArray, List.map_cons, List.map_nil]); first | done | rfl | (simp only [List.length_drop, List.length_take]; rfl)) ?_; (with_reducible refine (computusref01_Of.calls 1 t489 t490 _ A29.out).mono ?_); rintro e w33 ⟨v491, rfl, ho0, hb⟩; refine ⟨_, rfl, ?_⟩; have n0_ := Aside0.mk (Kd.R_elder' (by (with_reducible repeat (first | apply Kd.R_alloc | apply Kd.R_drewN | apply Kd.R_drew)); exact HO_5.out) (Kd.R_base ho0) hb); have n1_ := Aside0.mk (Kd.R_lower (Kd.R_new' ho0 (Kd.R_lt (by (with_reducible repeat (first | apply Kd.R_alloc | apply Kd.R_drewN | apply Kd.R_drew)); exact HO_5.out))) (kI (by repeat (first | (with_reducible first | exact HB.out | apply kC | apply kA | apply kB | refine kD ?_ GE479.out | refine kD ?_ GE480.out | refine kD ?_ GE481.out) | exact HB.out)))); have n2_ := Aside0.mk (kL (g := gb479) (o := .cells #[.bool a0_0, .slice A0_1 l0_1.length c0_1] 175 (0, 0)) (by (with_reducible repeat (first | refine kF ?_ _ | refine kG ?_ | refine kE ?_ _)); exact BK479.out) hb); have n3_ := Aside0.mk (kL (g := gb480) (o := .cells #[.bool a1_0, .slice A1_1 l1_1.length c1_1] 175 (0, 0)) (by (with_reducible repeat (first | refine kF ?_ _ | refine kG ?_ | refine kE ?_ _)); exact BK480.out) hb); have n4_ := Aside0.mk (kL (g := gb481) (o := .cells #[.bool false, .slice none 0 0] 175 (0, 0)) (by (with_reducible repeat (first | refine kF ?_ _ | refine kG ?_ | refine kE ?_ _)); exact BK481.out) hb); have n5_ := Aside0.mk (kK (by repeat (first | (with_reducible first | exact HB.out | apply kC | apply kA | apply kB | refine kD ?_ GE479.out | refine kD ?_ GE480.out | refine kD ?_ GE481.out) | exact HB.out)) hb); clear HO_5; clear BK479; clear BK480; clear BK481; clear HB; have HO_5 := n0_; have HO492 := n1_; have BK479 := n2_; have BK480 := n3_; have BK481 := n4_; have HB := n5_; clear n0_ n1_ n2_ n3_ n4_ n5_; (try clear hb); (try clear hb2); (try clear hk); (try clear hi); (try clear ho0); obtain ⟨Ao34, co34, eo34⟩ := Kd.R_slice HO_5.out; subst eo34; obtain ⟨Ao35, co35, eo35⟩ := Kd.R_slice HO492.out; subst eo35) | ((with_reducible refine kM (f := 182) rfl ?_); refine goesL_ (some 28) rfl rfl Tryz.func182 (by kernel_rfl) rfl #[.slice Ao34 t482.length co34, .slice Ao35 t490.length co35] rfl (by (try simp only [List.map_toArray, List.map_cons, List.map_nil]); first | done | rfl | (simp only [List.length_drop, List.length_take]; rfl)) ?_; (with_reducible refine (computusref01_add.calls kj3 _ _ t482 _ _ t490 t493 _ ?side1 ?side2 ?side3 ?side4 A30.out).mono ?_); (case side1 => repeat (first | exact (Kd.R_reads' HO_5.out).2.2 | (with_reducible refine Kd.C_alloc ?_ _) | (with_reducible refine Kd.C_drewN ?_ _) | (with_reducible refine Kd.C_drew ?_))); (case side2 => exact (Kd.R_reads' HO_5.out).2.1); (case side3 => repeat (first | exact (Kd.R_reads' HO492.out).2.2 | (with_reducible refine Kd.C_alloc ?_ _) | (with_reducible refine Kd.C_drewN ?_ _) | (with_reducible refine Kd.C_drew ?_))); (case side4 => exact (Kd.R_reads' HO492.out).2.1); rintro e w36 ⟨v494, rfl, ho0, hb⟩; refine ⟨_, rfl, ?_⟩; have n0_ := Aside0.mk (Kd.R_elder' (by (with_reducible repeat (first | apply Kd.R_alloc | apply Kd.R_drewN | apply Kd.R_drew)); exact HO_5.out) (Kd.R_base ho0) hb); have n1_ := Aside0.mk (Kd.R_elder' (by (with_reducible repeat (first | apply Kd.R_alloc | apply Kd.R_drewN | apply Kd.R_drew)); exact HO492.out) (Kd.R_base ho0) hb); have n2_ := Aside0.mk (Kd.R_lower (Kd.R_new' (Kd.R_new' ho0 (Kd.R_lt (by (with_reducible repeat (first | apply Kd.R_alloc | apply Kd.R_drewN | apply Kd.R_drew)); exact HO_5.out))) (Kd.R_lt (by (with_reducible repeat (first | apply Kd.R_alloc | apply Kd.R_drewN | apply Kd.R_drew)); exact HO492.out))) (kI (by repeat (first | (with_reducible first | exact HB.out | apply kC | apply kA | apply kB | refine kD ?_ GE479.out | refine kD ?_ GE480.out | refine kD ?_ GE481.out) | exact HB.out)))); have n3_ := Aside0.mk (kL (g := gb479) (o := .cells #[.bool a0_0, .slice A0_1 l0_1.length c0_1] 175 (0, 0)) (by (with_reducible repeat (first | refine kF ?_ _ | refine kG ?_ | refine kE ?_ _)); exact BK479.out) hb); have n4_ := Aside0.mk (kL (g := gb480) (o := .cells #[.bool a1_0, .slice A1_1 l1_1.length c1_1] 175 (0, 0)) (by (with_reducible repeat (first | refine kF ?_ _ | refine kG ?_ | refine kE ?_ _)); exact BK480.out) hb); have n5_ := Aside0.mk (kL (g := gb481) (o := .cells #[.bool false, .slice none 0 0] 175 (0, 0)) (by (with_reducible repeat (first | refine kF ?_ _ | refine kG ?_ | refine kE ?_ _)); exact BK481.out) hb); have n6_ := Aside0.mk (kK (by repeat (first | (with_reducible first | exact HB.out | apply kC | apply kA | apply kB | refine kD ?_ GE479.out | refine kD ?_ GE480.out | refine kD ?_ GE481.out) | exact HB.out)) hb); clear HO_5; clear HO492; clear BK479; clear BK480; clear BK481; clear HB; have HO_5 := n0_; have HO492 := n1_; have HO495 := n2_; have BK479 := n3_; have BK480 := n4_; have BK481 := n5_; have HB := n6_; clear n0_ n1_ n2_ n3_ n4_ n5_ n6_; (try clear hb); (try clear hb2); (try clear hk); (try clear hi); (try clear ho0); have hnb37 := NB479_480.out; have hnc37 := NB480_479.out; have hnb38 := NB479_481.out; have hnc38 := NB481_479.out; have hcz39_0 : w36.cell? ⟨gb479, 0, none⟩ = some (.bool a0_0) := (kH BK479.out 0).trans rfl; have hcz39_1 : w36.cell? ⟨gb479, 1, none⟩ = some (.slice A0_1 l0_1.length c0_1) := (kH BK479.out 1).trans rfl; have hfz39_0 := kJ BK479.out 0; have hfz39_1 := kJ BK479.out 1; have hnb40 := NB480_481.out; have hnc40 := NB481_480.out; have hcz41_0 : w36.cell? ⟨gb480, 0, none⟩ = some (.bool a1_0) := (kH BK480.out 0).trans rfl; have hcz41_1 : w36.cell? ⟨gb480, 1, none⟩ = some (.slice A1_1 l1_1.length c1_1) := (kH BK480.out 1).trans rfl; have hfz41_0 := kJ BK480.out 0; have hfz41_1 := kJ BK480.out 1; obtain ⟨Ao42, co42, eo42⟩ := Kd.R_slice HO495.out; subst eo42) | (go_at_call 181; (with_reducible refine (computusref01_zero.calls kj3 _ _ t493 t496 _ ?side1 ?side2 A32.out).mono ?_); (case side1 => repeat (first | exact (Kd.R_reads' HO495.out).2.2 | (with_reducible refine Kd.C_alloc ?_ _) | (with_reducible refine Kd.C_drewN ?_ _) | (with_reducible refine Kd.C_drew ?_))); (case side2 => exact (Kd.R_reads' HO495.out).2.1); rintro e w43 ⟨rfl, hb⟩; have n0_ := Aside0.mk (Kd.R_below (by (with_reducible repeat (first | apply Kd.R_alloc | apply Kd.R_drewN | apply Kd.R_drew)); exact HO_5.out) hb); have n1_ := Aside0.mk (Kd.R_below (by (with_reducible repeat (first | apply Kd.R_alloc | apply Kd.R_drewN | apply Kd.R_drew)); exact HO492.out) hb); have n2_ := Aside0.mk (Kd.R_below (by (with_reducible repeat (first | apply Kd.R_alloc | apply Kd.R_drewN | apply Kd.R_drew)); exact HO495.out) hb); have n3_ := Aside0.mk (kL (g := gb479) (o := .cells #[.bool a0_0, .slice A0_1 l0_1.length c0_1] 175 (0, 0)) (by (with_reducible repeat (first | refine kF ?_ _ | refine kG ?_ | refine kE ?_ _)); exact BK479.out) hb); have n4_ := Aside0.mk (kL (g := gb480) (o := .cells #[.bool a1_0, .slice A1_1 l1_1.length c1_1] 175 (0, 0)) (by (with_reducible repeat (first | refine kF ?_ _ | refine kG ?_ | refine kE ?_ _)); exact BK480.out) hb); have n5_ := Aside0.mk (kL (g := gb481) (o := .cells #[.bool false, .slice none 0 0] 175 (0, 0)) (by (with_reducible repeat (first | refine kF ?_ _ | refine kG ?_ | refine kE ?_ _)); exact BK481.out) hb); have n6_ := Aside0.mk (kK (by repeat (first | (with_reducible first | exact HB.out | apply kC | apply kA | apply kB | refine kD ?_ GE479.out | refine kD ?_ GE480.out | refine kD ?_ GE481.out) | exact HB.out)) hb); clear HO_5; clear HO492; clear HO495; clear BK479; clear BK480; clear BK481; clear HB; have HO_5 := n0_; have HO492 := n1_; have HO495 := n2_; have BK479 := n3_; have BK480 := n4_; have BK481 := n5_; have HB := n6_; clear n0_ n1_ n2_ n3_ n4_ n5_ n6_; (try clear hb); (try clear hb2); (try clear hk); (try clear hi); have hcz44_0 : w43.cell? ⟨gb481, 0, none⟩ = some (.bool false) := (kH BK481.out 0).trans rfl; have hcz44_1 : w43.cell? ⟨gb481, 1, none⟩ = some (.slice none 0 0) := (kH BK481.out 1).trans rfl; have hfz44_0 := kJ BK481.out 0; have hfz44_1 := kJ BK481.out 1))
          refine bodyPost_ret (results_cell_row rfl _ _ gb481 175 #[.bool (!t496), .slice Ao42 t493.length co42] (0, 0) _ rfl (by (with_reducible repeat (first | refine kF ?_ _ | refine kG ?_ | refine kE ?_ _)); refine blk_put (cs := #[.bool (!t496), .slice none 0 0]) ?_ 1 _ rfl; (with_reducible repeat (first | refine kF ?_ _ | refine kG ?_ | refine kE ?_ _)); refine blk_put (cs := #[.bool false, .slice none 0 0]) ?_ 0 _ rfl; (with_reducible repeat (first | refine kF ?_ _ | refine kG ?_ | refine kE ?_ _)); exact BK481.out) Tryz.underlying175 rfl (by kernel_rfl)) rfl ?_
          exact ⟨_, by first | rfl | (simp [errW_none, errW_some] <;> rfl) | (simp [*, errW_none, errW_some] <;> rfl), by (with_reducible repeat (first | apply Kd.R_alloc | apply Kd.R_drewN | apply Kd.R_drew)); exact Kd.R_mono (Kd.R_far (p := ⟨gb481, 1, none⟩) (Kd.R_far (p := ⟨gb481, 0, none⟩) (Kd.R_types HO495.out BK481.out (by decide)) (fun _ hk => hk.2) (.bool (!t496))) (fun _ hk => hk.2) (.slice Ao42 t493.length co42)) (fun _ hk => trivial), by repeat (first | (with_reducible first | exact HB.out | apply kC | apply kA | apply kB | refine kD ?_ GE479.out | refine kD ?_ GE480.out | refine kD ?_ GE481.out) | exact HB.out)⟩
        · rw [if_neg c31] at H
          have c31b0 : (a0_0 != a1_0) = false := by simpa using c31
          (try (have c31b1 : decide (a0_0 = a1_0) = true := by simpa using c31))
          (try (have c31b2 : (a0_0 == a1_0) = true := by simpa using c31))
          clear c31
          simp only [Option.some.injEq, Prod.mk.injEq] at H
          obtain ⟨rfl, rfl⟩ := H
          go_wp2_with (first | ((with_reducible refine kM (f := 137) rfl ?_); refine goesL_ (some 26) rfl rfl Tryz.func137 (by kernel_rfl) rfl #[.int .i64 1] rfl (by (try simp only [List.map_toArray, List.map_cons, List.map_nil]); first | done | rfl | (simp only [List.length_drop, List.length_take]; rfl)) ?_; (with_reducible refine (computusref01_Of.calls 1 t489 t490 _ A29.out).mono ?_); rintro e w45 ⟨v491, rfl, ho0, hb⟩; refine ⟨_, rfl, ?_⟩; have n0_ := Aside0.mk (Kd.R_elder' (by (with_reducible repeat (first | apply Kd.R_alloc | apply Kd.R_drewN | apply Kd.R_drew)); exact HO_5.out) (Kd.R_base ho0) hb); have n1_ := Aside0.mk (Kd.R_lower (Kd.R_new' ho0 (Kd.R_lt (by (with_reducible repeat (first | apply Kd.R_alloc | apply Kd.R_drewN | apply Kd.R_drew)); exact HO_5.out))) (kI (by repeat (first | (with_reducible first | exact HB.out | apply kC | apply kA | apply kB | refine kD ?_ GE479.out | refine kD ?_ GE480.out | refine kD ?_ GE481.out) | exact HB.out)))); have n2_ := Aside0.mk (kL (g := gb479) (o := .cells #[.bool a0_0, .slice A0_1 l0_1.length c0_1] 175 (0, 0)) (by (with_reducible repeat (first | refine kF ?_ _ | refine kG ?_ | refine kE ?_ _)); exact BK479.out) hb); have n3_ := Aside0.mk (kL (g := gb480) (o := .cells #[.bool a1_0, .slice A1_1 l1_1.length c1_1] 175 (0, 0)) (by (with_reducible repeat (first | refine kF ?_ _ | refine kG ?_ | refine kE ?_ _)); exact BK480.out) hb); have n4_ := Aside0.mk (kL (g := gb481) (o := .cells #[.bool false, .slice none 0 0] 175 (0, 0)) (by (with_reducible repeat (first | refine kF ?_ _ | refine kG ?_ | refine kE ?_ _)); exact BK481.out) hb); have n5_ := Aside0.mk (kK (by repeat (first | (with_reducible first | exact HB.out | apply kC | apply kA | apply kB | refine kD ?_ GE479.out | refine kD ?_ GE480.out | refine kD ?_ GE481.out) | exact HB.out)) hb); clear HO_5; clear BK479; clear BK480; clear BK481; clear HB; have HO_5 := n0_; have HO492 := n1_; have BK479 := n2_; have BK480 := n3_; have BK481 := n4_; have HB := n5_; clear n0_ n1_ n2_ n3_ n4_ n5_; (try clear hb); (try clear hb2); (try clear hk); (try clear hi); (try clear ho0); obtain ⟨Ao46, co46, eo46⟩ := Kd.R_slice HO_5.out; subst eo46; obtain ⟨Ao47, co47, eo47⟩ := Kd.R_slice HO492.out; subst eo47) | ((with_reducible refine kM (f := 182) rfl ?_); refine goesL_ (some 28) rfl rfl Tryz.func182 (by kernel_rfl) rfl #[.slice Ao46 t482.length co46, .slice Ao47 t490.length co47] rfl (by (try simp only [List.map_toArray, List.map_cons, List.map_nil]); first | done | rfl | (simp only [List.length_drop, List.length_take]; rfl)) ?_; (with_reducible refine (computusref01_add.calls kj3 _ _ t482 _ _ t490 t493 _ ?side1 ?side2 ?side3 ?side4 A30.out).mono ?_); (case side1 => repeat (first | exact (Kd.R_reads' HO_5.out).2.2 | (with_reducible refine Kd.C_alloc ?_ _) | (with_reducible refine Kd.C_drewN ?_ _) | (with_reducible refine Kd.C_drew ?_))); (case side2 => exact (Kd.R_reads' HO_5.out).2.1); (case side3 => repeat (first | exact (Kd.R_reads' HO492.out).2.2 | (with_reducible refine Kd.C_alloc ?_ _) | (with_reducible refine Kd.C_drewN ?_ _) | (with_reducible refine Kd.C_drew ?_))); (case side4 => exact (Kd.R_reads' HO492.out).2.1); rintro e w48 ⟨v494, rfl, ho0, hb⟩; refine ⟨_, rfl, ?_⟩; have n0_ := Aside0.mk (Kd.R_elder' (by (with_reducible repeat (first | apply Kd.R_alloc | apply Kd.R_drewN | apply Kd.R_drew)); exact HO_5.out) (Kd.R_base ho0) hb); have n1_ := Aside0.mk (Kd.R_elder' (by (with_reducible repeat (first | apply Kd.R_alloc | apply Kd.R_drewN | apply Kd.R_drew)); exact HO492.out) (Kd.R_base ho0) hb); have n2_ := Aside0.mk (Kd.R_lower (Kd.R_new' (Kd.R_new' ho0 (Kd.R_lt (by (with_reducible repeat (first | apply Kd.R_alloc | apply Kd.R_drewN | apply Kd.R_drew)); exact HO_5.out))) (Kd.R_lt (by (with_reducible repeat (first | apply Kd.R_alloc | apply Kd.R_drewN | apply Kd.R_drew)); exact HO492.out))) (kI (by repeat (first | (with_reducible first | exact HB.out | apply kC | apply kA | apply kB | refine kD ?_ GE479.out | refine kD ?_ GE480.out | refine kD ?_ GE481.out) | exact HB.out)))); have n3_ := Aside0.mk (kL (g := gb479) (o := .cells #[.bool a0_0, .slice A0_1 l0_1.length c0_1] 175 (0, 0)) (by (with_reducible repeat (first | refine kF ?_ _ | refine kG ?_ | refine kE ?_ _)); exact BK479.out) hb); have n4_ := Aside0.mk (kL (g := gb480) (o := .cells #[.bool a1_0, .slice A1_1 l1_1.length c1_1] 175 (0, 0)) (by (with_reducible repeat (first | refine kF ?_ _ | refine kG ?_ | refine kE ?_ _)); exact BK480.out) hb); have n5_ := Aside0.mk (kL (g := gb481) (o := .cells #[.bool false, .slice none 0 0] 175 (0, 0)) (by (with_reducible repeat (first | refine kF ?_ _ | refine kG ?_ | refine kE ?_ _)); exact BK481.out) hb); have n6_ := Aside0.mk (kK (by repeat (first | (with_reducible first | exact HB.out | apply kC | apply kA | apply kB | refine kD ?_ GE479.out | refine kD ?_ GE480.out | refine kD ?_ GE481.out) | exact HB.out)) hb); clear HO_5; clear HO492; clear BK479; clear BK480; clear BK481; clear HB; have HO_5 := n0_; have HO492 := n1_; have HO495 := n2_; have BK479 := n3_; have BK480 := n4_; have BK481 := n5_; have HB := n6_; clear n0_ n1_ n2_ n3_ n4_ n5_ n6_; (try clear hb); (try clear hb2); (try clear hk); (try clear hi); (try clear ho0); have hnb49 := NB479_480.out; have hnc49 := NB480_479.out; have hnb50 := NB479_481.out; have hnc50 := NB481_479.out; have hcz51_0 : w48.cell? ⟨gb479, 0, none⟩ = some (.bool a0_0) := (kH BK479.out 0).trans rfl; have hcz51_1 : w48.cell? ⟨gb479, 1, none⟩ = some (.slice A0_1 l0_1.length c0_1) := (kH BK479.out 1).trans rfl; have hfz51_0 := kJ BK479.out 0; have hfz51_1 := kJ BK479.out 1; have hnb52 := NB480_481.out; have hnc52 := NB481_480.out; have hcz53_0 : w48.cell? ⟨gb480, 0, none⟩ = some (.bool a1_0) := (kH BK480.out 0).trans rfl; have hcz53_1 : w48.cell? ⟨gb480, 1, none⟩ = some (.slice A1_1 l1_1.length c1_1) := (kH BK480.out 1).trans rfl; have hfz53_0 := kJ BK480.out 0; have hfz53_1 := kJ BK480.out 1; obtain ⟨Ao54, co54, eo54⟩ := Kd.R_slice HO495.out; subst eo54; have hcz55_0 : w48.cell? ⟨gb481, 0, none⟩ = some (.bool false) := (kH BK481.out 0).trans rfl; have hcz55_1 : w48.cell? ⟨gb481, 1, none⟩ = some (.slice none 0 0) := (kH BK481.out 1).trans rfl; have hfz55_0 := kJ BK481.out 0; have hfz55_1 := kJ BK481.out 1))
          refine bodyPost_ret (results_cell_row rfl _ _ gb481 175 #[.bool false, .slice Ao54 t493.length co54] (0, 0) _ rfl (by (with_reducible repeat (first | refine kF ?_ _ | refine kG ?_ | refine kE ?_ _)); refine blk_put (cs := #[.bool false, .slice none 0 0]) ?_ 1 _ rfl; (with_reducible repeat (first | refine kF ?_ _ | refine kG ?_ | refine kE ?_ _)); refine blk_put (cs := #[.bool false, .slice none 0 0]) ?_ 0 _ rfl; (with_reducible repeat (first | refine kF ?_ _ | refine kG ?_ | refine kE ?_ _)); exact BK481.out) Tryz.underlying175 rfl (by kernel_rfl)) rfl ?_
          exact ⟨_, by first | rfl | (simp [errW_none, errW_some] <;> rfl) | (simp [*, errW_none, errW_some] <;> rfl), by (with_reducible repeat (first | apply Kd.R_alloc | apply Kd.R_drewN | apply Kd.R_drew)); exact Kd.R_mono (Kd.R_far (p := ⟨gb481, 1, none⟩) (Kd.R_far (p := ⟨gb481, 0, none⟩) (Kd.R_types HO495.out BK481.out (by decide)) (fun _ hk => hk.2) (.bool false)) (fun _ hk => hk.2) (.slice Ao54 t493.length co54)) (fun _ hk => trivial), by repeat (first | (with_reducible first | exact HB.out | apply kC | apply kA | apply kB | refine kD ?_ GE479.out | refine kD ?_ GE480.out | refine kD ?_ GE481.out) | exact HB.out)⟩
      · replace c28 := Bool.eq_false_iff.mpr c28
        subst c28
        have H1 : (if (a0_0 != a1_0) = true then ((computusref01_zero.f kj3 t482).bind fun t497 => (some (!t497, t482))) else (some (false, t482))) = some (r1, r2) := by rw [if_neg (show ¬ (false = true) by decide)] at H; exact H
        clear H
        have H := H1
        clear H1
        by_cases c56 : (a0_0 != a1_0) = true
        · rw [if_pos c56] at H
          have c56b0 : (a0_0 != a1_0) = true := c56
          (try (have c56b1 : decide (a0_0 = a1_0) = false := by simpa using c56))
          (try (have c56b2 : (a0_0 == a1_0) = false := by simpa using c56))
          (try (have c56b3 : ¬ (a0_0 = a1_0) := by simpa using c56))
          clear c56
          replace H := Option.bind_eq_some_iff.mp H
          obtain ⟨t497, A570, H⟩ := H
          replace H : (some (!t497, t482)) = some (r1, r2) := H
          have A57 := Aside0.mk A570
          clear A570
          simp only [Option.some.injEq, Prod.mk.injEq] at H
          obtain ⟨rfl, rfl⟩ := H
          have hnb58 := NB479_480.out
          have hnc58 := NB480_479.out
          have hnb59 := NB479_481.out
          have hnc59 := NB481_479.out
          have hcz60_0 : wc.cell? ⟨gb479, 0, none⟩ = some (.bool a0_0) := (kH BK479.out 0).trans rfl
          have hcz60_1 : wc.cell? ⟨gb479, 1, none⟩ = some (.slice A0_1 l0_1.length c0_1) := (kH BK479.out 1).trans rfl
          have hfz60_0 := kJ BK479.out 0
          have hfz60_1 := kJ BK479.out 1
          have hnb61 := NB480_481.out
          have hnc61 := NB481_480.out
          have hcz62_0 : wc.cell? ⟨gb480, 0, none⟩ = some (.bool a1_0) := (kH BK480.out 0).trans rfl
          have hcz62_1 : wc.cell? ⟨gb480, 1, none⟩ = some (.slice A1_1 l1_1.length c1_1) := (kH BK480.out 1).trans rfl
          have hfz62_0 := kJ BK480.out 0
          have hfz62_1 := kJ BK480.out 1
          obtain ⟨Ao63, co63, eo63⟩ := Kd.R_slice HO_5.out
          subst eo63
          go_wp2_with (first | (go_at_call 181; (with_reducible refine (computusref01_zero.calls kj3 _ _ t482 t497 _ ?side1 ?side2 A57.out).mono ?_); (case side1 => repeat (first | exact (Kd.R_reads' HO_5.out).2.2 | (with_reducible refine Kd.C_alloc ?_ _) | (with_reducible refine Kd.C_drewN ?_ _) | (with_reducible refine Kd.C_drew ?_))); (case side2 => exact (Kd.R_reads' HO_5.out).2.1); rintro e w64 ⟨rfl, hb⟩; have n0_ := Aside0.mk (Kd.R_below (by (with_reducible repeat (first | apply Kd.R_alloc | apply Kd.R_drewN | apply Kd.R_drew)); exact HO_5.out) hb); have n1_ := Aside0.mk (kL (g := gb479) (o := .cells #[.bool a0_0, .slice A0_1 l0_1.length c0_1] 175 (0, 0)) (by (with_reducible repeat (first | refine kF ?_ _ | refine kG ?_ | refine kE ?_ _)); exact BK479.out) hb); have n2_ := Aside0.mk (kL (g := gb480) (o := .cells #[.bool a1_0, .slice A1_1 l1_1.length c1_1] 175 (0, 0)) (by (with_reducible repeat (first | refine kF ?_ _ | refine kG ?_ | refine kE ?_ _)); exact BK480.out) hb); have n3_ := Aside0.mk (kL (g := gb481) (o := .cells #[.bool false, .slice none 0 0] 175 (0, 0)) (by (with_reducible repeat (first | refine kF ?_ _ | refine kG ?_ | refine kE ?_ _)); exact BK481.out) hb); have n4_ := Aside0.mk (kK (by repeat (first | (with_reducible first | exact HB.out | apply kC | apply kA | apply kB | refine kD ?_ GE479.out | refine kD ?_ GE480.out | refine kD ?_ GE481.out) | exact HB.out)) hb); clear HO_5; clear BK479; clear BK480; clear BK481; clear HB; have HO_5 := n0_; have BK479 := n1_; have BK480 := n2_; have BK481 := n3_; have HB := n4_; clear n0_ n1_ n2_ n3_ n4_; (try clear hb); (try clear hb2); (try clear hk); (try clear hi); have hcz65_0 : w64.cell? ⟨gb481, 0, none⟩ = some (.bool false) := (kH BK481.out 0).trans rfl; have hcz65_1 : w64.cell? ⟨gb481, 1, none⟩ = some (.slice none 0 0) := (kH BK481.out 1).trans rfl; have hfz65_0 := kJ BK481.out 0; have hfz65_1 := kJ BK481.out 1))
          refine bodyPost_ret (results_cell_row rfl _ _ gb481 175 #[.bool (!t497), .slice Ao63 t482.length co63] (0, 0) _ rfl (by (with_reducible repeat (first | refine kF ?_ _ | refine kG ?_ | refine kE ?_ _)); refine blk_put (cs := #[.bool (!t497), .slice none 0 0]) ?_ 1 _ rfl; (with_reducible repeat (first | refine kF ?_ _ | refine kG ?_ | refine kE ?_ _)); refine blk_put (cs := #[.bool false, .slice none 0 0]) ?_ 0 _ rfl; (with_reducible repeat (first | refine kF ?_ _ | refine kG ?_ | refine kE ?_ _)); exact BK481.out) Tryz.underlying175 rfl (by kernel_rfl)) rfl ?_
          exact ⟨_, by first | rfl | (simp [errW_none, errW_some] <;> rfl) | (simp [*, errW_none, errW_some] <;> rfl), by (with_reducible repeat (first | apply Kd.R_alloc | apply Kd.R_drewN | apply Kd.R_drew)); exact Kd.R_mono (Kd.R_far (p := ⟨gb481, 1, none⟩) (Kd.R_far (p := ⟨gb481, 0, none⟩) (Kd.R_types HO_5.out BK481.out (by decide)) (fun _ hk => hk.2) (.bool (!t497))) (fun _ hk => hk.2) (.slice Ao63 t482.length co63)) (fun _ hk => trivial), by repeat (first | (with_reducible first | exact HB.out | apply kC | apply kA | apply kB | refine kD ?_ GE479.out | refine kD ?_ GE480.out | refine kD ?_ GE481.out) | exact HB.out)⟩
        · rw [if_neg c56] at H
          have c56b0 : (a0_0 != a1_0) = false := by simpa using c56
          (try (have c56b1 : decide (a0_0 = a1_0) = true := by simpa using c56))
          (try (have c56b2 : (a0_0 == a1_0) = true := by simpa using c56))
          clear c56
          simp only [Option.some.injEq, Prod.mk.injEq] at H
          obtain ⟨rfl, rfl⟩ := H
          have hnb66 := NB479_480.out
          have hnc66 := NB480_479.out
          have hnb67 := NB479_481.out
          have hnc67 := NB481_479.out
          have hcz68_0 : wc.cell? ⟨gb479, 0, none⟩ = some (.bool a0_0) := (kH BK479.out 0).trans rfl
          have hcz68_1 : wc.cell? ⟨gb479, 1, none⟩ = some (.slice A0_1 l0_1.length c0_1) := (kH BK479.out 1).trans rfl
          have hfz68_0 := kJ BK479.out 0
          have hfz68_1 := kJ BK479.out 1
          have hnb69 := NB480_481.out
          have hnc69 := NB481_480.out
          have hcz70_0 : wc.cell? ⟨gb480, 0, none⟩ = some (.bool a1_0) := (kH BK480.out 0).trans rfl
          have hcz70_1 : wc.cell? ⟨gb480, 1, none⟩ = some (.slice A1_1 l1_1.length c1_1) := (kH BK480.out 1).trans rfl
          have hfz70_0 := kJ BK480.out 0
          have hfz70_1 := kJ BK480.out 1
          obtain ⟨Ao71, co71, eo71⟩ := Kd.R_slice HO_5.out
          subst eo71
          have hcz72_0 : wc.cell? ⟨gb481, 0, none⟩ = some (.bool false) := (kH BK481.out 0).trans rfl
          have hcz72_1 : wc.cell? ⟨gb481, 1, none⟩ = some (.slice none 0 0) := (kH BK481.out 1).trans rfl
          have hfz72_0 := kJ BK481.out 0
          have hfz72_1 := kJ BK481.out 1
          go_wp2
          refine bodyPost_ret (results_cell_row rfl _ _ gb481 175 #[.bool false, .slice Ao71 t482.length co71] (0, 0) _ rfl (by (with_reducible repeat (first | refine kF ?_ _ | refine kG ?_ | refine kE ?_ _)); refine blk_put (cs := #[.bool false, .slice none 0 0]) ?_ 1 _ rfl; (with_reducible repeat (first | refine kF ?_ _ | refine kG ?_ | refine kE ?_ _)); refine blk_put (cs := #[.bool false, .slice none 0 0]) ?_ 0 _ rfl; (with_reducible repeat (first | refine kF ?_ _ | refine kG ?_ | refine kE ?_ _)); exact BK481.out) Tryz.underlying175 rfl (by kernel_rfl)) rfl ?_
          exact ⟨_, by first | rfl | (simp [errW_none, errW_some] <;> rfl) | (simp [*, errW_none, errW_some] <;> rfl), by (with_reducible repeat (first | apply Kd.R_alloc | apply Kd.R_drewN | apply Kd.R_drew)); exact Kd.R_mono (Kd.R_far (p := ⟨gb481, 1, none⟩) (Kd.R_far (p := ⟨gb481, 0, none⟩) (Kd.R_types HO_5.out BK481.out (by decide)) (fun _ hk => hk.2) (.bool false)) (fun _ hk => hk.2) (.slice Ao71 t482.length co71)) (fun _ hk => trivial), by repeat (first | (with_reducible first | exact HB.out | apply kC | apply kA | apply kB | refine kD ?_ GE479.out | refine kD ?_ GE480.out | refine kD ?_ GE481.out) | exact HB.out)⟩
end Go.Proofs.YthkmckmfgglafaaGreat.P
namespace Go.Proofs.YthkmckmfgglafaaGreat.P
open Go.RowKit Go.Proofs.YthkmckmfgglafaaGreatW.PrintWords Go.Proofs.YthkmckmfgglafaaGreatW.PrintLast Go.Proofs.YthkmckmfgglafaaGreatW.PrintMore
open Go.Proofs.YthkmckmfgglafaaGreat.A
attribute [local go_sem] max2_int min2_int max_two min_two max_three min_three max_four min_four   -- for this text's walks alone
set_option linter.unusedVariables false
set_option linter.unusedSimpArgs false
def computusref01_Div.f (k : Nat) (a0 : Int) (a1 : Int) : Option (Int × Int) := if a1 = 0 then (some (0, 11)) else ((computusref01_Of.f a0).bind fun bt498 => ((computusref01_Of.f a1).bind fun bt502 => ((computusref01_Over.f k bt498.1 bt498.2 bt502.1 bt502.2).bind fun bt506 => ((computusref01_Small.f k bt506.1 bt506.2).bind fun bt510 => (some (bt510.1, bt510.2))))))
theorem computusref01_Div.mono : ∀ a0 a1 k, LeO (computusref01_Div.f k a0 a1) (computusref01_Div.f (k + 1) a0 a1) := by
  intro a0 a1 k
  unfold computusref01_Div.f
  repeat' first
      | (with_reducible exact computusref01_Over.mono _ _ _ _ _)
      | (with_reducible exact computusref01_Small.mono _ _ _)
      | (with_reducible exact LeO.refl _)
      | (with_reducible exact LeO.none _)
      | (with_reducible refine LeO.ite ?_ ?_)
      | (with_reducible refine LeO.bind ?_ (fun _ => ?_))
      | exact computusref01_Over.mono _ _ _ _ _
      | exact computusref01_Small.mono _ _ _
      | exact LeO.none _
      | refine LeO.ite ?_ ?_
      | refine LeO.bind ?_ (fun _ => ?_)
set_option maxHeartbeats 8000000 in
set_option maxRecDepth 100000 in
theorem computusref01_Div.calls (k : Nat) (a0 : Int) (a1 : Int) (r1 : Int) (r2 : Int) (w : World) (h : computusref01_Div.f k a0 a1 = some (r1, r2)) :
    Calls Tryz.prog 98 #[.int .i64 a0, .int .i64 a1] w fun e w' => e = .returned (.tuple #[.int .i64 r1, .int .i64 r2]) ∧ Below w.heap.size w w' := by
  have HB := Aside0.mk (Below.refl w.heap.size w)
  have H : (if a1 = 0 then (some (0, 11)) else ((computusref01_Of.f a0).bind fun bt498 => ((computusref01_Of.f a1).bind fun bt502 => ((computusref01_Over.f k bt498.1 bt498.2 bt502.1 bt502.2).bind fun bt506 => ((computusref01_Small.f k bt506.1 bt506.2).bind fun bt510 => (some (bt510.1, bt510.2))))))) = some (r1, r2) := h
  clear h
  by_cases c3 : a1 = 0
  · rw [if_pos c3] at H
    have c3b0 : (a1 == 0) = true := beq_iff_eq.mpr c3
    have c3b1 : (a1 != 0) = false := bne_eq_false_iff_eq.mpr c3
    clear c3
    simp only [Option.some.injEq, Prod.mk.injEq] at H
    obtain ⟨rfl, rfl⟩ := H
    go_enter Tryz.func98, Tryz.ntmps98
    go_wp2
    go_ret2
    exact ⟨by first | rfl | (simp [errW_none, errW_some] <;> rfl) | (simp [*, errW_none, errW_some] <;> rfl), by repeat (first | (with_reducible first | exact HB.out | apply kC | apply kA | apply kB) | exact HB.out)⟩
  · rw [if_neg c3] at H
    have c3b0 : (a1 == 0) = false := beq_eq_false_iff_ne.mpr c3
    have c3b1 : (a1 != 0) = true := bne_iff_ne.mpr c3
    replace H := Option.bind_eq_some_iff.mp H
    obtain ⟨⟨t498, t499⟩, A40, H⟩ := H
    replace H : ((computusref01_Of.f a1).bind fun bt502 => ((computusref01_Over.f k t498 t499 bt502.1 bt502.2).bind fun bt506 => ((computusref01_Small.f k bt506.1 bt506.2).bind fun bt510 => (some (bt510.1, bt510.2))))) = some (r1, r2) := H
    have A4 := Aside0.mk A40
    clear A40
    replace H := Option.bind_eq_some_iff.mp H
    obtain ⟨⟨t502, t503⟩, A50, H⟩ := H
    replace H : ((computusref01_Over.f k t498 t499 t502 t503).bind fun bt506 => ((computusref01_Small.f k bt506.1 bt506.2).bind fun bt510 => (some (bt510.1, bt510.2)))) = some (r1, r2) := H
    have A5 := Aside0.mk A50
    clear A50
    replace H := Option.bind_eq_some_iff.mp H
    obtain ⟨⟨t506, t507⟩, A60, H⟩ := H
    replace H : ((computusref01_Small.f k t506 t507).bind fun bt510 => (some (bt510.1, bt510.2))) = some (r1, r2) := H
    have A6 := Aside0.mk A60
    clear A60
    replace H := Option.bind_eq_some_iff.mp H
    obtain ⟨⟨t510, t511⟩, A70, H⟩ := H
    replace H : (some (t510, t511)) = some (r1, r2) := H
    have A7 := Aside0.mk A70
    clear A70
    simp only [Option.some.injEq, Prod.mk.injEq] at H
    obtain ⟨rfl, rfl⟩ := H
    go_enter Tryz.func98, Tryz.ntmps98
    go_wp2_with (first | ((with_reducible refine kM (f := 137) rfl ?_); refine goesL_ (some 9) rfl rfl Tryz.func137 (by kernel_rfl) rfl #[.int .i64 a0] rfl (by (try simp only [List.map_toArray, List.map_cons, List.map_nil]); first | done | rfl | (simp only [List.length_drop, List.length_take]; rfl)) ?_; (with_reducible refine (computusref01_Of.calls a0 t498 t499 _ A4.out).mono ?_); rintro e w8 ⟨v500, rfl, ho0, hb⟩; refine ⟨_, rfl, ?_⟩; have n0_ := Aside0.mk (Kd.R_lower ho0 (kI (by repeat (first | (with_reducible first | exact HB.out | apply kC | apply kA | apply kB) | exact HB.out)))); have n1_ := Aside0.mk (kK (by repeat (first | (with_reducible first | exact HB.out | apply kC | apply kA | apply kB) | exact HB.out)) hb); clear HB; have HO501 := n0_; have HB := n1_; clear n0_ n1_; (try clear hb); (try clear hb2); (try clear hk); (try clear hi); (try clear ho0)) | ((with_reducible refine kM (f := 137) rfl ?_); refine goesL_ (some 11) rfl rfl Tryz.func137 (by kernel_rfl) rfl #[.int .i64 a1] rfl (by (try simp only [List.map_toArray, List.map_cons, List.map_nil]); first | done | rfl | (simp only [List.length_drop, List.length_take]; rfl)) ?_; (with_reducible refine (computusref01_Of.calls a1 t502 t503 _ A5.out).mono ?_); rintro e w9 ⟨v504, rfl, ho0, hb⟩; refine ⟨_, rfl, ?_⟩; have n0_ := Aside0.mk (Kd.R_elder' (by (with_reducible repeat (first | apply Kd.R_alloc | apply Kd.R_drewN | apply Kd.R_drew)); exact HO501.out) (Kd.R_base ho0) hb); have n1_ := Aside0.mk (Kd.R_lower (Kd.R_new' ho0 (Kd.R_lt (by (with_reducible repeat (first | apply Kd.R_alloc | apply Kd.R_drewN | apply Kd.R_drew)); exact HO501.out))) (kI (by repeat (first | (with_reducible first | exact HB.out | apply kC | apply kA | apply kB) | exact HB.out)))); have n2_ := Aside0.mk (kK (by repeat (first | (with_reducible first | exact HB.out | apply kC | apply kA | apply kB) | exact HB.out)) hb); clear HO501; clear HB; have HO501 := n0_; have HO505 := n1_; have HB := n2_; clear n0_ n1_ n2_; (try clear hb); (try clear hb2); (try clear hk); (try clear hi); (try clear ho0); obtain ⟨Ao10, co10, eo10⟩ := Kd.R_slice HO501.out; subst eo10; obtain ⟨Ao11, co11, eo11⟩ := Kd.R_slice HO505.out; subst eo11) | ((with_reducible refine kM (f := 136) rfl ?_); refine goesL_ (some 12) rfl rfl Tryz.func136 (by kernel_rfl) rfl #[.agg #[.bool t498, .slice Ao10 t499.length co10], .agg #[.bool t502, .slice Ao11 t503.length co11]] rfl (by (try simp only [List.map_toArray, List.map_cons, List.map_nil]); first | done | rfl | (simp only [List.length_drop, List.length_take]; rfl)) ?_; (with_reducible refine (computusref01_Over.calls k t498 _ _ t499 t502 _ _ t503 t506 t507 _ ?side1 ?side2 ?side3 ?side4 A6.out).mono ?_); (case side1 => repeat (first | exact (Kd.R_reads' HO501.out).2.2 | (with_reducible refine Kd.C_alloc ?_ _) | (with_reducible refine Kd.C_drewN ?_ _) | (with_reducible refine Kd.C_drew ?_))); (case side2 => exact (Kd.R_reads' HO501.out).2.1); (case side3 => repeat (first | exact (Kd.R_reads' HO505.out).2.2 | (with_reducible refine Kd.C_alloc ?_ _) | (with_reducible refine Kd.C_drewN ?_ _) | (with_reducible refine Kd.C_drew ?_))); (case side4 => exact (Kd.R_reads' HO505.out).2.1); rintro e w12 ⟨v508, rfl, ho0, hb⟩; refine ⟨_, rfl, ?_⟩; have n0_ := Aside0.mk (Kd.R_elder' (by (with_reducible repeat (first | apply Kd.R_alloc | apply Kd.R_drewN | apply Kd.R_drew)); exact HO501.out) (Kd.R_base ho0) hb); have n1_ := Aside0.mk (Kd.R_elder' (by (with_reducible repeat (first | apply Kd.R_alloc | apply Kd.R_drewN | apply Kd.R_drew)); exact HO505.out) (Kd.R_base ho0) hb); have n2_ := Aside0.mk (Kd.R_lower (Kd.R_new' (Kd.R_new' ho0 (Kd.R_lt (by (with_reducible repeat (first | apply Kd.R_alloc | apply Kd.R_drewN | apply Kd.R_drew)); exact HO501.out))) (Kd.R_lt (by (with_reducible repeat (first | apply Kd.R_alloc | apply Kd.R_drewN | apply Kd.R_drew)); exact HO505.out))) (kI (by repeat (first | (with_reducible first | exact HB.out | apply kC | apply kA | apply kB) | exact HB.out)))); have n3_ := Aside0.mk (kK (by repeat (first | (with_reducible first | exact HB.out | apply kC | apply kA | apply kB) | exact HB.out)) hb); clear HO501; clear HO505; clear HB; have HO501 := n0_; have HO505 := n1_; have HO509 := n2_; have HB := n3_; clear n0_ n1_ n2_ n3_; (try clear hb); (try clear hb2); (try clear hk); (try clear hi); (try clear ho0); obtain ⟨Ao13, co13, eo13⟩ := Kd.R_slice HO509.out; subst eo13) | ((with_reducible refine kM (f := 135) rfl ?_); refine goesL_ (some 13) rfl rfl Tryz.func135 (by kernel_rfl) rfl #[.agg #[.bool t506, .slice Ao13 t507.length co13]] rfl (by (try simp only [List.map_toArray, List.map_cons, List.map_nil]); first | done | rfl | (simp only [List.length_drop, List.length_take]; rfl)) ?_; (with_reducible refine (computusref01_Small.calls k t506 _ _ t507 t510 t511 _ ?side1 ?side2 A7.out).mono ?_); (case side1 => repeat (first | exact (Kd.R_reads' HO509.out).2.2 | (with_reducible refine Kd.C_alloc ?_ _) | (with_reducible refine Kd.C_drewN ?_ _) | (with_reducible refine Kd.C_drew ?_))); (case side2 => exact (Kd.R_reads' HO509.out).2.1); rintro e w14 ⟨rfl, hb⟩; refine ⟨_, rfl, ?_⟩; have n0_ := Aside0.mk (Kd.R_below (by (with_reducible repeat (first | apply Kd.R_alloc | apply Kd.R_drewN | apply Kd.R_drew)); exact HO501.out) hb); have n1_ := Aside0.mk (Kd.R_below (by (with_reducible repeat (first | apply Kd.R_alloc | apply Kd.R_drewN | apply Kd.R_drew)); exact HO505.out) hb); have n2_ := Aside0.mk (Kd.R_below (by (with_reducible repeat (first | apply Kd.R_alloc | apply Kd.R_drewN | apply Kd.R_drew)); exact HO509.out) hb); have n3_ := Aside0.mk (kK (by repeat (first | (with_reducible first | exact HB.out | apply kC | apply kA | apply kB) | exact HB.out)) hb); clear HO501; clear HO505; clear HO509; clear HB; have HO501 := n0_; have HO505 := n1_; have HO509 := n2_; have HB := n3_; clear n0_ n1_ n2_ n3_; (try clear hb); (try clear hb2); (try clear hk); (try clear hi)))
    go_ret2
    exact ⟨by first | rfl | (simp [errW_none, errW_some] <;> rfl) | (simp [*, errW_none, errW_some] <;> rfl), by repeat (first | (with_reducible first | exact HB.out | apply kC | apply kA | apply kB) | exact HB.out)⟩
end Go.Proofs.YthkmckmfgglafaaGreat.P
