-- Written by a program of the session (a print of the seat's translation, functions given by hand among it). Lean checks it.
import Derived.Test.YtkongoedgngfhaaQcgoepkfcmc
import Derived.Test.YtkongoedgngfhaaQbleadbjhka
namespace Go.Proofs.Ytkongoedgngfhaa.P
open Go.RowKit Go.Proofs.YtkongoedgngfhaaW.PrintWords Go.Proofs.YtkongoedgngfhaaW.PrintLast Go.Proofs.YtkongoedgngfhaaW.PrintMore
attribute [local go_sem] max2_int min2_int max_two min_two max_three min_three max_four min_four   -- for this text's walks alone
set_option linter.unusedVariables false
set_option linter.unusedSimpArgs false
mutual
def computusref01_Times.l0 : Nat → List Int → Int → Bool → List Int → Bool → List Int → Option (Bool × List Int)
  | 0, _, _, _, _, _, _ => none
  | k + 1, x5, x6, x166000, x166001, x167000, x167001 => if x6 < 2 then (if 6 ≤ 35184372088832 then (computusref01_Times.l1 k x5 x6 (List.replicate 6 0) 0 0 x166000 x166001 x167000 x167001) else (none)) else (if (x166000 != x167000) = true then ((computusref01_zero.f k x5).bind fun t171 => (some (!t171, x5))) else (some (false, x5)))
def computusref01_Times.l1 : Nat → List Int → Int → List Int → Int → Int → Bool → List Int → Bool → List Int → Option (Bool × List Int)
  | 0, _, _, _, _, _, _, _, _, _ => none
  | k + 1, x5, x6, x7, x8, x9, x166000, x166001, x167000, x167001 => if x9 < 3 then (if 0 ≤ x6 then (if x6 < (x166001.length : Int) then (if 0 ≤ x9 then (if x9 < (x167001.length : Int) then (if 0 ≤ (wrap64 (x6 + x9)) then (if (wrap64 (x6 + x9)) < (x7.length : Int) then (computusref01_Times.l1 k x5 x6 (x7.set ((wrap64 (x6 + x9)) : Int).toNat (Go.bits .and .u64 (IntKind.u64.wrap (x8 + (IntKind.u64.wrap ((rd x166001 x6) * (rd x167001 x9))))) 4294967295)) ((IntKind.u64.wrap (x8 + (IntKind.u64.wrap ((rd x166001 x6) * (rd x167001 x9))))) / 4294967296) (wrap64 (x9 + 1)) x166000 x166001 x167000 x167001) else (none)) else (none)) else (none)) else (none)) else (none)) else (none)) else ((computusref01_add.f k x5 x7).bind fun t178 => (computusref01_Times.l0 k t178 (wrap64 (x6 + 1)) x166000 x166001 x167000 x167001))
end
def computusref01_Times.f (k : Nat) (a0_0 : Bool) (l0_1 : List Int) (a1_0 : Bool) (l1_1 : List Int) : Option (Bool × List Int) := if 6 ≤ 35184372088832 then (computusref01_Times.l0 k (List.replicate 6 0) 0 a0_0 l0_1 a1_0 l1_1) else (none)
theorem computusref01_Times.mono_l : ∀ k, (∀ y0 y1 y2 y3 y4 y5, LeO (computusref01_Times.l0 k y0 y1 y2 y3 y4 y5) (computusref01_Times.l0 (k + 1) y0 y1 y2 y3 y4 y5)) ∧ (∀ y0 y1 y2 y3 y4 y5 y6 y7 y8, LeO (computusref01_Times.l1 k y0 y1 y2 y3 y4 y5 y6 y7 y8) (computusref01_Times.l1 (k + 1) y0 y1 y2 y3 y4 y5 y6 y7 y8))
  | 0 => ⟨fun _ _ _ _ _ _ r h => by simp [computusref01_Times.l0] at h, fun _ _ _ _ _ _ _ _ _ r h => by simp [computusref01_Times.l1] at h⟩
  | k + 1 => by
    obtain ⟨ih0, ih1⟩ := computusref01_Times.mono_l k
    refine ⟨?_, ?_⟩
    · intro y0 y1 y2 y3 y4 y5
      unfold computusref01_Times.l0
      repeat' first
      | (with_reducible exact ih0 _ _ _ _ _ _)
      | (with_reducible exact ih1 _ _ _ _ _ _ _ _ _)
      | (with_reducible exact computusref01_add.mono _ _ _)
      | (with_reducible exact computusref01_zero.mono _ _)
      | (with_reducible exact LeO.refl _)
      | (with_reducible exact LeO.none _)
      | (with_reducible refine LeO.ite ?_ ?_)
      | (with_reducible refine LeO.bind ?_ (fun _ => ?_))
      | exact ih0 _ _ _ _ _ _
      | exact ih1 _ _ _ _ _ _ _ _ _
      | exact computusref01_add.mono _ _ _
      | exact computusref01_zero.mono _ _
      | exact LeO.none _
      | refine LeO.ite ?_ ?_
      | refine LeO.bind ?_ (fun _ => ?_)
    · intro y0 y1 y2 y3 y4 y5 y6 y7 y8
      unfold computusref01_Times.l1
      repeat' first
      | (with_reducible exact ih0 _ _ _ _ _ _)
      | (with_reducible exact ih1 _ _ _ _ _ _ _ _ _)
      | (with_reducible exact computusref01_add.mono _ _ _)
      | (with_reducible exact computusref01_zero.mono _ _)
      | (with_reducible exact LeO.refl _)
      | (with_reducible exact LeO.none _)
      | (with_reducible refine LeO.ite ?_ ?_)
      | (with_reducible refine LeO.bind ?_ (fun _ => ?_))
      | exact ih0 _ _ _ _ _ _
      | exact ih1 _ _ _ _ _ _ _ _ _
      | exact computusref01_add.mono _ _ _
      | exact computusref01_zero.mono _ _
      | exact LeO.none _
      | refine LeO.ite ?_ ?_
      | refine LeO.bind ?_ (fun _ => ?_)
theorem computusref01_Times.mono : ∀ a0 a1 a2 a3 k, LeO (computusref01_Times.f k a0 a1 a2 a3) (computusref01_Times.f (k + 1) a0 a1 a2 a3) := by
  intro a0 a1 a2 a3 k
  obtain ⟨ih0, ih1⟩ := computusref01_Times.mono_l k
  unfold computusref01_Times.f
  repeat' first
      | (with_reducible exact ih0 _ _ _ _ _ _)
      | (with_reducible exact ih1 _ _ _ _ _ _ _ _ _)
      | (with_reducible exact computusref01_add.mono _ _ _)
      | (with_reducible exact computusref01_zero.mono _ _)
      | (with_reducible exact LeO.refl _)
      | (with_reducible exact LeO.none _)
      | (with_reducible refine LeO.ite ?_ ?_)
      | (with_reducible refine LeO.bind ?_ (fun _ => ?_))
      | exact ih0 _ _ _ _ _ _
      | exact ih1 _ _ _ _ _ _ _ _ _
      | exact computusref01_add.mono _ _ _
      | exact computusref01_zero.mono _ _
      | exact LeO.none _
      | refine LeO.ite ?_ ?_
      | refine LeO.bind ?_ (fun _ => ?_)
set_option maxHeartbeats 8000000 in
set_option maxRecDepth 100000 in
theorem computusref01_Times.calls (k : Nat) (a0_0 : Bool) (A0_1 : Option Addr) (c0_1 : Nat) (l0_1 : List Int) (a1_0 : Bool) (A1_1 : Option Addr) (c1_1 : Nat) (l1_1 : List Int) (r1 : Bool) (r2 : List Int) (w : World) (hr0_1 : Kd.C (Kd.int .u64) w A0_1 l0_1.length l0_1) (hc0_1 : l0_1.length ≤ c0_1) (hr1_1 : Kd.C (Kd.int .u64) w A1_1 l1_1.length l1_1) (hc1_1 : l1_1.length ≤ c1_1) (h : computusref01_Times.f k a0_0 l0_1 a1_0 l1_1 = some (r1, r2)) :
    Calls Try.prog 38 #[.agg #[.bool a0_0, .slice A0_1 l0_1.length c0_1], .agg #[.bool a1_0, .slice A1_1 l1_1.length c1_1]] w fun e w' => ∃ v1_ : Value, e = .returned (.agg #[.bool r1, v1_]) ∧ Kd.R (Kd.int .u64) 52 w' w.heap.size (fun _ => True) v1_ r2 ∧ Below w.heap.size w w' := by
  have hu60 := Try.underlying60
  have HR0_1 := Aside0.mk hr0_1
  have HC0_1 := Aside0.mk hc0_1
  clear hr0_1 hc0_1
  have HR1_1 := Aside0.mk hr1_1
  have HC1_1 := Aside0.mk hc1_1
  clear hr1_1 hc1_1
  have HB := Aside0.mk (Below.refl w.heap.size w)
  have H : (if 6 ≤ 35184372088832 then (computusref01_Times.l0 k (List.replicate 6 0) 0 a0_0 l0_1 a1_0 l1_1) else (none)) = some (r1, r2) := h
  clear h
  by_cases c3 : 6 ≤ 35184372088832
  · rw [if_pos c3] at H
    have c3b0 := eq_true c3
    have c3b1 : decide (6 ≤ 35184372088832) = true := decide_eq_true c3
    clear c3
    obtain ⟨y168, hy168⟩ : ∃ y_ : List Int, y_ = (List.replicate 6 0) := ⟨_, rfl⟩
    replace H : (computusref01_Times.l0 k y168 0 a0_0 l0_1 a1_0 l1_1) = some (r1, r2) := by first | (rw [hy168]; with_reducible exact H) | (have H2_ := (Option.bind_some _ _).symm.trans H; rw [hy168]; with_reducible exact H2_) | (have H2_ := (Option.bind_some _ _).symm.trans H; with_reducible exact H2_) | with_reducible exact H | (rw [hy168]; exact H) | exact H
    have Ny168 := Aside0.mk hy168
    clear hy168
    have H' := Aside0.mk H
    clear H
    go_enter Try.func38, Try.ntmps38
    go_wp2_with (first | ((with_reducible refine gate_dst (N := 2) rfl ?_); refine box_event ?hg (N := 2) ?hd (cs := #[.bool a0_0, .slice A0_1 l0_1.length c0_1]) (t := 60) ?hr ?_; (case hd => rfl); (case hg => rfl); (case hr => first | (go_simp; done) | (go_simp; rfl)); intro gb165 hg w4 hbox hb; have n0_ := Aside0.mk (kL (by repeat (first | (with_reducible first | exact HB.out | apply kF | apply kB | apply kG) | exact HB.out)) hb); have n1_ := Aside0.mk (hbox); have n2_ := Aside0.mk ((by rw [hg]; exact (kK (by repeat (first | (with_reducible first | exact HB.out | apply kF | apply kB | apply kG) | exact HB.out))) : w.heap.size ≤ gb165)); have n3_ := Aside0.mk ((by rw [hg]; exact (kK (by repeat (first | (with_reducible first | exact HB.out | apply kF | apply kB | apply kG) | exact HB.out))) : w.heap.size ≤ gb165)); clear HB; have HB := n0_; have BK165 := n1_; have GW165 := n2_; have GE165 := n3_; clear n0_ n1_ n2_ n3_; clear hb hbox hg) | ((with_reducible refine gate_dst (N := 3) rfl ?_); refine box_event ?hg (N := 3) ?hd (cs := #[.bool a1_0, .slice A1_1 l1_1.length c1_1]) (t := 60) ?hr ?_; (case hd => rfl); (case hg => rfl); (case hr => first | (go_simp; done) | (go_simp; rfl)); intro gb166 hg w5 hbox hb; have n0_ := Aside0.mk (kI (g := gb165) (o := .cells #[.bool a0_0, .slice A0_1 l0_1.length c0_1] 60 (0, 0)) (by (with_reducible repeat (first | refine kC ?_ _ | refine kE ?_ | refine kD ?_ _)); exact BK165.out) hb); have n1_ := Aside0.mk (kL (by repeat (first | (with_reducible first | exact HB.out | apply kF | apply kB | apply kG | refine kA ?_ GE165.out) | exact HB.out)) hb); have n2_ := Aside0.mk (hbox); have n3_ := Aside0.mk ((by rw [hg]; exact (kK (by repeat (first | (with_reducible first | exact HB.out | apply kF | apply kB | apply kG | refine kA ?_ GE165.out) | exact HB.out))) : w.heap.size ≤ gb166)); have n4_ := Aside0.mk ((by rw [hg]; exact (kK (by repeat (first | (with_reducible first | exact HB.out | apply kF | apply kB | apply kG | refine kA ?_ GE165.out) | exact HB.out))) : w.heap.size ≤ gb166)); have n5_ := Aside0.mk ((by rw [hg]; exact Nat.ne_of_lt (kM (g := gb165) (o := .cells #[.bool a0_0, .slice A0_1 l0_1.length c0_1] 60 (0, 0)) (by (with_reducible repeat (first | refine kC ?_ _ | refine kE ?_ | refine kD ?_ _)); exact BK165.out)) : gb165 ≠ gb166)); have n6_ := Aside0.mk ((by rw [hg]; exact Nat.ne_of_gt (kM (g := gb165) (o := .cells #[.bool a0_0, .slice A0_1 l0_1.length c0_1] 60 (0, 0)) (by (with_reducible repeat (first | refine kC ?_ _ | refine kE ?_ | refine kD ?_ _)); exact BK165.out)) : gb166 ≠ gb165)); clear BK165; clear HB; have BK165 := n0_; have HB := n1_; have BK166 := n2_; have GW166 := n3_; have GE166 := n4_; have NB165_166 := n5_; have NB166_165 := n6_; clear n0_ n1_ n2_ n3_ n4_ n5_ n6_; clear hb hbox hg) | ((with_reducible refine gate_dst (N := 4) rfl ?_); refine box_event ?hg (N := 4) ?hd (cs := #[.bool false, .slice none 0 0]) (t := 60) ?hr ?_; (case hd => rfl); (case hg => rfl); (case hr => first | (go_simp; done) | (go_simp; rfl)); intro gb167 hg w6 hbox hb; have n0_ := Aside0.mk (kI (g := gb165) (o := .cells #[.bool a0_0, .slice A0_1 l0_1.length c0_1] 60 (0, 0)) (by (with_reducible repeat (first | refine kC ?_ _ | refine kE ?_ | refine kD ?_ _)); exact BK165.out) hb); have n1_ := Aside0.mk (kI (g := gb166) (o := .cells #[.bool a1_0, .slice A1_1 l1_1.length c1_1] 60 (0, 0)) (by (with_reducible repeat (first | refine kC ?_ _ | refine kE ?_ | refine kD ?_ _)); exact BK166.out) hb); have n2_ := Aside0.mk (kL (by repeat (first | (with_reducible first | exact HB.out | apply kF | apply kB | apply kG | refine kA ?_ GE165.out | refine kA ?_ GE166.out) | exact HB.out)) hb); have n3_ := Aside0.mk (hbox); have n4_ := Aside0.mk ((by rw [hg]; exact (kK (by repeat (first | (with_reducible first | exact HB.out | apply kF | apply kB | apply kG | refine kA ?_ GE165.out | refine kA ?_ GE166.out) | exact HB.out))) : w.heap.size ≤ gb167)); have n5_ := Aside0.mk ((by rw [hg]; exact (kK (by repeat (first | (with_reducible first | exact HB.out | apply kF | apply kB | apply kG | refine kA ?_ GE165.out | refine kA ?_ GE166.out) | exact HB.out))) : w.heap.size ≤ gb167)); have n6_ := Aside0.mk ((by rw [hg]; exact Nat.ne_of_lt (kM (g := gb165) (o := .cells #[.bool a0_0, .slice A0_1 l0_1.length c0_1] 60 (0, 0)) (by (with_reducible repeat (first | refine kC ?_ _ | refine kE ?_ | refine kD ?_ _)); exact BK165.out)) : gb165 ≠ gb167)); have n7_ := Aside0.mk ((by rw [hg]; exact Nat.ne_of_gt (kM (g := gb165) (o := .cells #[.bool a0_0, .slice A0_1 l0_1.length c0_1] 60 (0, 0)) (by (with_reducible repeat (first | refine kC ?_ _ | refine kE ?_ | refine kD ?_ _)); exact BK165.out)) : gb167 ≠ gb165)); have n8_ := Aside0.mk ((by rw [hg]; exact Nat.ne_of_lt (kM (g := gb166) (o := .cells #[.bool a1_0, .slice A1_1 l1_1.length c1_1] 60 (0, 0)) (by (with_reducible repeat (first | refine kC ?_ _ | refine kE ?_ | refine kD ?_ _)); exact BK166.out)) : gb166 ≠ gb167)); have n9_ := Aside0.mk ((by rw [hg]; exact Nat.ne_of_gt (kM (g := gb166) (o := .cells #[.bool a1_0, .slice A1_1 l1_1.length c1_1] 60 (0, 0)) (by (with_reducible repeat (first | refine kC ?_ _ | refine kE ?_ | refine kD ?_ _)); exact BK166.out)) : gb167 ≠ gb166)); clear BK165; clear BK166; clear HB; have BK165 := n0_; have BK166 := n1_; have HB := n2_; have BK167 := n3_; have GW167 := n4_; have GE167 := n5_; have NB165_167 := n6_; have NB167_165 := n7_; have NB166_167 := n8_; have NB167_166 := n9_; clear n0_ n1_ n2_ n3_ n4_ n5_ n6_ n7_ n8_ n9_; clear hb hbox hg) | ((with_reducible refine gate_dst (N := 10) rfl ?_); refine Kd.R_make (Kd.int .u64) _ 52 rfl (N := 10) rfl 58 _ _ rfl 6 rfl rfl Try.underlying58 (.int .u64 0) 8 info52 rfl (by decide) (by omega) 0 (ok := fun _ => True) (okp := fun _ => True) rfl (fun _ hk => hk) trivial (by omega) (by omega) (Below.refl _ _) (Nat.le_refl _) ?_; intro v169 w7 ho8 hb hg_ hnew_; clear hg_ hnew_; (first | rw [← Ny168.out] at ho8 | (simp only [Int.reduceToNat] at ho8; rw [← Ny168.out] at ho8)); have n0_ := Aside0.mk (Kd.R_lower ho8 (kK (by repeat (first | (with_reducible first | exact HB.out | apply kF | apply kB | apply kG | refine kA ?_ GE165.out | refine kA ?_ GE166.out | refine kA ?_ GE167.out) | exact HB.out)))); have n1_ := Aside0.mk (kI (g := gb165) (o := .cells #[.bool a0_0, .slice A0_1 l0_1.length c0_1] 60 (0, 0)) (by (with_reducible repeat (first | refine kC ?_ _ | refine kE ?_ | refine kD ?_ _)); exact BK165.out) hb); have n2_ := Aside0.mk (kI (g := gb166) (o := .cells #[.bool a1_0, .slice A1_1 l1_1.length c1_1] 60 (0, 0)) (by (with_reducible repeat (first | refine kC ?_ _ | refine kE ?_ | refine kD ?_ _)); exact BK166.out) hb); have n3_ := Aside0.mk (kI (g := gb167) (o := .cells #[.bool false, .slice none 0 0] 60 (0, 0)) (by (with_reducible repeat (first | refine kC ?_ _ | refine kE ?_ | refine kD ?_ _)); exact BK167.out) hb); have n4_ := Aside0.mk (kL (by repeat (first | (with_reducible first | exact HB.out | apply kF | apply kB | apply kG | refine kA ?_ GE165.out | refine kA ?_ GE166.out | refine kA ?_ GE167.out) | exact HB.out)) hb); clear BK165; clear BK166; clear BK167; clear HB; have HO170 := n0_; have BK165 := n1_; have BK166 := n2_; have BK167 := n3_; have HB := n4_; clear n0_ n1_ n2_ n3_ n4_; clear hb ho8))
    repeat (go_quiet (first | ((with_reducible refine gate_dst (N := 2) rfl ?_); refine box_event ?hg (N := 2) ?hd (cs := #[.bool a0_0, .slice A0_1 l0_1.length c0_1]) (t := 60) ?hr ?_; (case hd => rfl); (case hg => rfl); (case hr => first | (go_simp; done) | (go_simp; rfl)); intro gb165 hg w4 hbox hb; have n0_ := Aside0.mk (kL (by repeat (first | (with_reducible first | exact HB.out | apply kF | apply kB | apply kG) | exact HB.out)) hb); have n1_ := Aside0.mk (hbox); have n2_ := Aside0.mk ((by rw [hg]; exact (kK (by repeat (first | (with_reducible first | exact HB.out | apply kF | apply kB | apply kG) | exact HB.out))) : w.heap.size ≤ gb165)); have n3_ := Aside0.mk ((by rw [hg]; exact (kK (by repeat (first | (with_reducible first | exact HB.out | apply kF | apply kB | apply kG) | exact HB.out))) : w.heap.size ≤ gb165)); clear HB; have HB := n0_; have BK165 := n1_; have GW165 := n2_; have GE165 := n3_; clear n0_ n1_ n2_ n3_; clear hb hbox hg) | ((with_reducible refine gate_dst (N := 3) rfl ?_); refine box_event ?hg (N := 3) ?hd (cs := #[.bool a1_0, .slice A1_1 l1_1.length c1_1]) (t := 60) ?hr ?_; (case hd => rfl); (case hg => rfl); (case hr => first | (go_simp; done) | (go_simp; rfl)); intro gb166 hg w5 hbox hb; have n0_ := Aside0.mk (kI (g := gb165) (o := .cells #[.bool a0_0, .slice A0_1 l0_1.length c0_1] 60 (0, 0)) (by (with_reducible repeat (first | refine kC ?_ _ | refine kE ?_ | refine kD ?_ _)); exact BK165.out) hb); have n1_ := Aside0.mk (kL (by repeat (first | (with_reducible first | exact HB.out | apply kF | apply kB | apply kG | refine kA ?_ GE165.out) | exact HB.out)) hb); have n2_ := Aside0.mk (hbox); have n3_ := Aside0.mk ((by rw [hg]; exact (kK (by repeat (first | (with_reducible first | exact HB.out | apply kF | apply kB | apply kG | refine kA ?_ GE165.out) | exact HB.out))) : w.heap.size ≤ gb166)); have n4_ := Aside0.mk ((by rw [hg]; exact (kK (by repeat (first | (with_reducible first | exact HB.out | apply kF | apply kB | apply kG | refine kA ?_ GE165.out) | exact HB.out))) : w.heap.size ≤ gb166)); have n5_ := Aside0.mk ((by rw [hg]; exact Nat.ne_of_lt (kM (g := gb165) (o := .cells #[.bool a0_0, .slice A0_1 l0_1.length c0_1] 60 (0, 0)) (by (with_reducible repeat (first | refine kC ?_ _ | refine kE ?_ | refine kD ?_ _)); exact BK165.out)) : gb165 ≠ gb166)); have n6_ := Aside0.mk ((by rw [hg]; exact Nat.ne_of_gt (kM (g := gb165) (o := .cells #[.bool a0_0, .slice A0_1 l0_1.length c0_1] 60 (0, 0)) (by (with_reducible repeat (first | refine kC ?_ _ | refine kE ?_ | refine kD ?_ _)); exact BK165.out)) : gb166 ≠ gb165)); clear BK165; clear HB; have BK165 := n0_; have HB := n1_; have BK166 := n2_; have GW166 := n3_; have GE166 := n4_; have NB165_166 := n5_; have NB166_165 := n6_; clear n0_ n1_ n2_ n3_ n4_ n5_ n6_; clear hb hbox hg) | ((with_reducible refine gate_dst (N := 4) rfl ?_); refine box_event ?hg (N := 4) ?hd (cs := #[.bool false, .slice none 0 0]) (t := 60) ?hr ?_; (case hd => rfl); (case hg => rfl); (case hr => first | (go_simp; done) | (go_simp; rfl)); intro gb167 hg w6 hbox hb; have n0_ := Aside0.mk (kI (g := gb165) (o := .cells #[.bool a0_0, .slice A0_1 l0_1.length c0_1] 60 (0, 0)) (by (with_reducible repeat (first | refine kC ?_ _ | refine kE ?_ | refine kD ?_ _)); exact BK165.out) hb); have n1_ := Aside0.mk (kI (g := gb166) (o := .cells #[.bool a1_0, .slice A1_1 l1_1.length c1_1] 60 (0, 0)) (by (with_reducible repeat (first | refine kC ?_ _ | refine kE ?_ | refine kD ?_ _)); exact BK166.out) hb); have n2_ := Aside0.mk (kL (by repeat (first | (with_reducible first | exact HB.out | apply kF | apply kB | apply kG | refine kA ?_ GE165.out | refine kA ?_ GE166.out) | exact HB.out)) hb); have n3_ := Aside0.mk (hbox); have n4_ := Aside0.mk ((by rw [hg]; exact (kK (by repeat (first | (with_reducible first | exact HB.out | apply kF | apply kB | apply kG | refine kA ?_ GE165.out | refine kA ?_ GE166.out) | exact HB.out))) : w.heap.size ≤ gb167)); have n5_ := Aside0.mk ((by rw [hg]; exact (kK (by repeat (first | (with_reducible first | exact HB.out | apply kF | apply kB | apply kG | refine kA ?_ GE165.out | refine kA ?_ GE166.out) | exact HB.out))) : w.heap.size ≤ gb167)); have n6_ := Aside0.mk ((by rw [hg]; exact Nat.ne_of_lt (kM (g := gb165) (o := .cells #[.bool a0_0, .slice A0_1 l0_1.length c0_1] 60 (0, 0)) (by (with_reducible repeat (first | refine kC ?_ _ | refine kE ?_ | refine kD ?_ _)); exact BK165.out)) : gb165 ≠ gb167)); have n7_ := Aside0.mk ((by rw [hg]; exact Nat.ne_of_gt (kM (g := gb165) (o := .cells #[.bool a0_0, .slice A0_1 l0_1.length c0_1] 60 (0, 0)) (by (with_reducible repeat (first | refine kC ?_ _ | refine kE ?_ | refine kD ?_ _)); exact BK165.out)) : gb167 ≠ gb165)); have n8_ := Aside0.mk ((by rw [hg]; exact Nat.ne_of_lt (kM (g := gb166) (o := .cells #[.bool a1_0, .slice A1_1 l1_1.length c1_1] 60 (0, 0)) (by (with_reducible repeat (first | refine kC ?_ _ | refine kE ?_ | refine kD ?_ _)); exact BK166.out)) : gb166 ≠ gb167)); have n9_ := Aside0.mk ((by rw [hg]; exact Nat.ne_of_gt (kM (g := gb166) (o := .cells #[.bool a1_0, .slice A1_1 l1_1.length c1_1] 60 (0, 0)) (by (with_reducible repeat (first | refine kC ?_ _ | refine kE ?_ | refine kD ?_ _)); exact BK166.out)) : gb167 ≠ gb166)); clear BK165; clear BK166; clear HB; have BK165 := n0_; have BK166 := n1_; have HB := n2_; have BK167 := n3_; have GW167 := n4_; have GE167 := n5_; have NB165_167 := n6_; have NB167_165 := n7_; have NB166_167 := n8_; have NB167_166 := n9_; clear n0_ n1_ n2_ n3_ n4_ n5_ n6_ n7_ n8_ n9_; clear hb hbox hg) | ((with_reducible refine gate_dst (N := 10) rfl ?_); refine Kd.R_make (Kd.int .u64) _ 52 rfl (N := 10) rfl 58 _ _ rfl 6 rfl rfl Try.underlying58 (.int .u64 0) 8 info52 rfl (by decide) (by omega) 0 (ok := fun _ => True) (okp := fun _ => True) rfl (fun _ hk => hk) trivial (by omega) (by omega) (Below.refl _ _) (Nat.le_refl _) ?_; intro v169 w7 ho8 hb hg_ hnew_; clear hg_ hnew_; (first | rw [← Ny168.out] at ho8 | (simp only [Int.reduceToNat] at ho8; rw [← Ny168.out] at ho8)); have n0_ := Aside0.mk (Kd.R_lower ho8 (kK (by repeat (first | (with_reducible first | exact HB.out | apply kF | apply kB | apply kG | refine kA ?_ GE165.out | refine kA ?_ GE166.out | refine kA ?_ GE167.out) | exact HB.out)))); have n1_ := Aside0.mk (kI (g := gb165) (o := .cells #[.bool a0_0, .slice A0_1 l0_1.length c0_1] 60 (0, 0)) (by (with_reducible repeat (first | refine kC ?_ _ | refine kE ?_ | refine kD ?_ _)); exact BK165.out) hb); have n2_ := Aside0.mk (kI (g := gb166) (o := .cells #[.bool a1_0, .slice A1_1 l1_1.length c1_1] 60 (0, 0)) (by (with_reducible repeat (first | refine kC ?_ _ | refine kE ?_ | refine kD ?_ _)); exact BK166.out) hb); have n3_ := Aside0.mk (kI (g := gb167) (o := .cells #[.bool false, .slice none 0 0] 60 (0, 0)) (by (with_reducible repeat (first | refine kC ?_ _ | refine kE ?_ | refine kD ?_ _)); exact BK167.out) hb); have n4_ := Aside0.mk (kL (by repeat (first | (with_reducible first | exact HB.out | apply kF | apply kB | apply kG | refine kA ?_ GE165.out | refine kA ?_ GE166.out | refine kA ?_ GE167.out) | exact HB.out)) hb); clear BK165; clear BK166; clear BK167; clear HB; have HO170 := n0_; have BK165 := n1_; have BK166 := n2_; have BK167 := n3_; have HB := n4_; clear n0_ n1_ n2_ n3_ n4_; clear hb ho8)); try go_wp2_with (first | ((with_reducible refine gate_dst (N := 2) rfl ?_); refine box_event ?hg (N := 2) ?hd (cs := #[.bool a0_0, .slice A0_1 l0_1.length c0_1]) (t := 60) ?hr ?_; (case hd => rfl); (case hg => rfl); (case hr => first | (go_simp; done) | (go_simp; rfl)); intro gb165 hg w4 hbox hb; have n0_ := Aside0.mk (kL (by repeat (first | (with_reducible first | exact HB.out | apply kF | apply kB | apply kG) | exact HB.out)) hb); have n1_ := Aside0.mk (hbox); have n2_ := Aside0.mk ((by rw [hg]; exact (kK (by repeat (first | (with_reducible first | exact HB.out | apply kF | apply kB | apply kG) | exact HB.out))) : w.heap.size ≤ gb165)); have n3_ := Aside0.mk ((by rw [hg]; exact (kK (by repeat (first | (with_reducible first | exact HB.out | apply kF | apply kB | apply kG) | exact HB.out))) : w.heap.size ≤ gb165)); clear HB; have HB := n0_; have BK165 := n1_; have GW165 := n2_; have GE165 := n3_; clear n0_ n1_ n2_ n3_; clear hb hbox hg) | ((with_reducible refine gate_dst (N := 3) rfl ?_); refine box_event ?hg (N := 3) ?hd (cs := #[.bool a1_0, .slice A1_1 l1_1.length c1_1]) (t := 60) ?hr ?_; (case hd => rfl); (case hg => rfl); (case hr => first | (go_simp; done) | (go_simp; rfl)); intro gb166 hg w5 hbox hb; have n0_ := Aside0.mk (kI (g := gb165) (o := .cells #[.bool a0_0, .slice A0_1 l0_1.length c0_1] 60 (0, 0)) (by (with_reducible repeat (first | refine kC ?_ _ | refine kE ?_ | refine kD ?_ _)); exact BK165.out) hb); have n1_ := Aside0.mk (kL (by repeat (first | (with_reducible first | exact HB.out | apply kF | apply kB | apply kG | refine kA ?_ GE165.out) | exact HB.out)) hb); have n2_ := Aside0.mk (hbox); have n3_ := Aside0.mk ((by rw [hg]; exact (kK (by repeat (first | (with_reducible first | exact HB.out | apply kF | apply kB | apply kG | refine kA ?_ GE165.out) | exact HB.out))) : w.heap.size ≤ gb166)); have n4_ := Aside0.mk ((by rw [hg]; exact (kK (by repeat (first | (with_reducible first | exact HB.out | apply kF | apply kB | apply kG | refine kA ?_ GE165.out) | exact HB.out))) : w.heap.size ≤ gb166)); have n5_ := Aside0.mk ((by rw [hg]; exact Nat.ne_of_lt (kM (g := gb165) (o := .cells #[.bool a0_0, .slice A0_1 l0_1.length c0_1] 60 (0, 0)) (by (with_reducible repeat (first | refine kC ?_ _ | refine kE ?_ | refine kD ?_ _)); exact BK165.out)) : gb165 ≠ gb166)); have n6_ := Aside0.mk ((by rw [hg]; exact Nat.ne_of_gt (kM (g := gb165) (o := .cells #[.bool a0_0, .slice A0_1 l0_1.length c0_1] 60 (0, 0)) (by (with_reducible repeat (first | refine kC ?_ _ | refine kE ?_ | refine kD ?_ _)); exact BK165.out)) : gb166 ≠ gb165)); clear BK165; clear HB; have BK165 := n0_; have HB := n1_; have BK166 := n2_; have GW166 := n3_; have GE166 := n4_; have NB165_166 := n5_; have NB166_165 := n6_; clear n0_ n1_ n2_ n3_ n4_ n5_ n6_; clear hb hbox hg) | ((with_reducible refine gate_dst (N := 4) rfl ?_); refine box_event ?hg (N := 4) ?hd (cs := #[.bool false, .slice none 0 0]) (t := 60) ?hr ?_; (case hd => rfl); (case hg => rfl); (case hr => first | (go_simp; done) | (go_simp; rfl)); intro gb167 hg w6 hbox hb; have n0_ := Aside0.mk (kI (g := gb165) (o := .cells #[.bool a0_0, .slice A0_1 l0_1.length c0_1] 60 (0, 0)) (by (with_reducible repeat (first | refine kC ?_ _ | refine kE ?_ | refine kD ?_ _)); exact BK165.out) hb); have n1_ := Aside0.mk (kI (g := gb166) (o := .cells #[.bool a1_0, .slice A1_1 l1_1.length c1_1] 60 (0, 0)) (by (with_reducible repeat (first | refine kC ?_ _ | refine kE ?_ | refine kD ?_ _)); exact BK166.out) hb); have n2_ := Aside0.mk (kL (by repeat (first | (with_reducible first | exact HB.out | apply kF | apply kB | apply kG | refine kA ?_ GE165.out | refine kA ?_ GE166.out) | exact HB.out)) hb); have n3_ := Aside0.mk (hbox); have n4_ := Aside0.mk ((by rw [hg]; exact (kK (by repeat (first | (with_reducible first | exact HB.out | apply kF | apply kB | apply kG | refine kA ?_ GE165.out | refine kA ?_ GE166.out) | exact HB.out))) : w.heap.size ≤ gb167)); have n5_ := Aside0.mk ((by rw [hg]; exact (kK (by repeat (first | (with_reducible first | exact HB.out | apply kF | apply kB | apply kG | refine kA ?_ GE165.out | refine kA ?_ GE166.out) | exact HB.out))) : w.heap.size ≤ gb167)); have n6_ := Aside0.mk ((by rw [hg]; exact Nat.ne_of_lt (kM (g := gb165) (o := .cells #[.bool a0_0, .slice A0_1 l0_1.length c0_1] 60 (0, 0)) (by (with_reducible repeat (first | refine kC ?_ _ | refine kE ?_ | refine kD ?_ _)); exact BK165.out)) : gb165 ≠ gb167)); have n7_ := Aside0.mk ((by rw [hg]; exact Nat.ne_of_gt (kM (g := gb165) (o := .cells #[.bool a0_0, .slice A0_1 l0_1.length c0_1] 60 (0, 0)) (by (with_reducible repeat (first | refine kC ?_ _ | refine kE ?_ | refine kD ?_ _)); exact BK165.out)) : gb167 ≠ gb165)); have n8_ := Aside0.mk ((by rw [hg]; exact Nat.ne_of_lt (kM (g := gb166) (o := .cells #[.bool a1_0, .slice A1_1 l1_1.length c1_1] 60 (0, 0)) (by (with_reducible repeat (first | refine kC ?_ _ | refine kE ?_ | refine kD ?_ _)); exact BK166.out)) : gb166 ≠ gb167)); have n9_ := Aside0.mk ((by rw [hg]; exact Nat.ne_of_gt (kM (g := gb166) (o := .cells #[.bool a1_0, .slice A1_1 l1_1.length c1_1] 60 (0, 0)) (by (with_reducible repeat (first | refine kC ?_ _ | refine kE ?_ | refine kD ?_ _)); exact BK166.out)) : gb167 ≠ gb166)); clear BK165; clear BK166; clear HB; have BK165 := n0_; have BK166 := n1_; have HB := n2_; have BK167 := n3_; have GW167 := n4_; have GE167 := n5_; have NB165_167 := n6_; have NB167_165 := n7_; have NB166_167 := n8_; have NB167_166 := n9_; clear n0_ n1_ n2_ n3_ n4_ n5_ n6_ n7_ n8_ n9_; clear hb hbox hg) | ((with_reducible refine gate_dst (N := 10) rfl ?_); refine Kd.R_make (Kd.int .u64) _ 52 rfl (N := 10) rfl 58 _ _ rfl 6 rfl rfl Try.underlying58 (.int .u64 0) 8 info52 rfl (by decide) (by omega) 0 (ok := fun _ => True) (okp := fun _ => True) rfl (fun _ hk => hk) trivial (by omega) (by omega) (Below.refl _ _) (Nat.le_refl _) ?_; intro v169 w7 ho8 hb hg_ hnew_; clear hg_ hnew_; (first | rw [← Ny168.out] at ho8 | (simp only [Int.reduceToNat] at ho8; rw [← Ny168.out] at ho8)); have n0_ := Aside0.mk (Kd.R_lower ho8 (kK (by repeat (first | (with_reducible first | exact HB.out | apply kF | apply kB | apply kG | refine kA ?_ GE165.out | refine kA ?_ GE166.out | refine kA ?_ GE167.out) | exact HB.out)))); have n1_ := Aside0.mk (kI (g := gb165) (o := .cells #[.bool a0_0, .slice A0_1 l0_1.length c0_1] 60 (0, 0)) (by (with_reducible repeat (first | refine kC ?_ _ | refine kE ?_ | refine kD ?_ _)); exact BK165.out) hb); have n2_ := Aside0.mk (kI (g := gb166) (o := .cells #[.bool a1_0, .slice A1_1 l1_1.length c1_1] 60 (0, 0)) (by (with_reducible repeat (first | refine kC ?_ _ | refine kE ?_ | refine kD ?_ _)); exact BK166.out) hb); have n3_ := Aside0.mk (kI (g := gb167) (o := .cells #[.bool false, .slice none 0 0] 60 (0, 0)) (by (with_reducible repeat (first | refine kC ?_ _ | refine kE ?_ | refine kD ?_ _)); exact BK167.out) hb); have n4_ := Aside0.mk (kL (by repeat (first | (with_reducible first | exact HB.out | apply kF | apply kB | apply kG | refine kA ?_ GE165.out | refine kA ?_ GE166.out | refine kA ?_ GE167.out) | exact HB.out)) hb); clear BK165; clear BK166; clear BK167; clear HB; have HO170 := n0_; have BK165 := n1_; have BK166 := n2_; have BK167 := n3_; have HB := n4_; clear n0_ n1_ n2_ n3_ n4_; clear hb ho8)))
    go_loopg [5, 6] k (fun kq v5 v6 w' => ∃ (x5_1 : List Int) (x6_1 : Int), v6 = .int .i64 x6_1 ∧ Aside0 (computusref01_Times.l0 kq x5_1 x6_1 a0_0 l0_1 a1_0 l1_1 = some (r1, r2)) ∧ Aside0 (kq ≤ k) ∧ Aside0 (Kd.R (Kd.int .u64) 52 w' w.heap.size (fun _ => True) v5 x5_1) ∧ Aside0 (w'.heap[gb165]? = some (.cells #[.bool a0_0, (.slice A0_1 l0_1.length c0_1)] 60 (0, 0))) ∧ Aside0 (w'.heap[gb166]? = some (.cells #[.bool a1_0, (.slice A1_1 l1_1.length c1_1)] 60 (0, 0))) ∧ Aside0 (w'.heap[gb167]? = some (.cells #[.bool false, (.slice none 0 0)] 60 (0, 0))) ∧ Aside0 (Below w.heap.size w w'))
    case atStart => exact ⟨(y168), (0), (by first | rfl | (simp; done) | (simp [*]; done)), H', ⟨Nat.le_refl _⟩, ⟨by (with_reducible repeat (first | apply Kd.R_alloc | apply Kd.R_drewN | apply Kd.R_drew)); exact HO170.out⟩, ⟨by (with_reducible repeat (first | refine kC ?_ _ | refine kE ?_ | refine kD ?_ _)); exact BK165.out⟩, ⟨by (with_reducible repeat (first | refine kC ?_ _ | refine kE ?_ | refine kD ?_ _)); exact BK166.out⟩, ⟨by (with_reducible repeat (first | refine kC ?_ _ | refine kE ?_ | refine kD ?_ _)); exact BK167.out⟩, ⟨by repeat (first | (with_reducible first | exact HB.out | apply kF | apply kB | apply kG | refine kA ?_ GE165.out | refine kA ?_ GE166.out | refine kA ?_ GE167.out) | exact HB.out)⟩⟩
    case round =>
      clear H'
      try clear c1
      try clear p2
      try clear c3
      try clear c3b0
      try clear c3b1
      obtain ⟨x5_1, x6_1, rfl, HA, HK1, HO_5, BK165, BK166, BK167, HB⟩ := hrel
      cases gk with
      | zero => exact absurd HA.out (by simp [computusref01_Times.l0])
      | succ k1 =>
        have H := HA.out
        clear HA
        simp only [computusref01_Times.l0] at H
        by_cases c9 : x6_1 < 2
        · rw [if_pos c9] at H
          have c9b0 : decide (x6_1 < 2) = true := decide_eq_true c9
          clear c9
          by_cases c10 : 6 ≤ 35184372088832
          · rw [if_pos c10] at H
            have c10b0 := eq_true c10
            have c10b1 : decide (6 ≤ 35184372088832) = true := decide_eq_true c10
            clear c10
            obtain ⟨y172, hy172⟩ : ∃ y_ : List Int, y_ = (List.replicate 6 0) := ⟨_, rfl⟩
            replace H : (computusref01_Times.l1 k1 x5_1 x6_1 y172 0 0 a0_0 l0_1 a1_0 l1_1) = some (r1, r2) := by first | (rw [hy172]; with_reducible exact H) | (have H2_ := (Option.bind_some _ _).symm.trans H; rw [hy172]; with_reducible exact H2_) | (have H2_ := (Option.bind_some _ _).symm.trans H; with_reducible exact H2_) | with_reducible exact H | (rw [hy172]; exact H) | exact H
            have Ny172 := Aside0.mk hy172
            clear hy172
            have H' := Aside0.mk H
            clear H
            go_wp2_with (first | ((with_reducible refine gate_dst (N := 15) rfl ?_); refine Kd.R_make (Kd.int .u64) _ 52 rfl (N := 15) rfl 58 _ _ rfl 6 rfl rfl Try.underlying58 (.int .u64 0) 8 info52 rfl (by decide) (by omega) 0 (ok := fun _ => True) (okp := fun _ => True) rfl (fun _ hk => hk) trivial (by omega) (by omega) (Below.refl _ _) (Nat.le_refl _) ?_; intro v173 w11 ho12 hb hg_ hnew_; clear hg_ hnew_; (first | rw [← Ny172.out] at ho12 | (simp only [Int.reduceToNat] at ho12; rw [← Ny172.out] at ho12)); have n0_ := Aside0.mk (Kd.R_elder' (by (with_reducible repeat (first | apply Kd.R_alloc | apply Kd.R_drewN | apply Kd.R_drew)); exact HO_5.out) (Kd.R_base ho12) hb); have n1_ := Aside0.mk (Kd.R_lower (Kd.R_new' ho12 (Kd.R_lt (by (with_reducible repeat (first | apply Kd.R_alloc | apply Kd.R_drewN | apply Kd.R_drew)); exact HO_5.out))) (kK (by repeat (first | (with_reducible first | exact HB.out | apply kF | apply kB | apply kG | refine kA ?_ GE165.out | refine kA ?_ GE166.out | refine kA ?_ GE167.out) | exact HB.out)))); have n2_ := Aside0.mk (kI (g := gb165) (o := .cells #[.bool a0_0, .slice A0_1 l0_1.length c0_1] 60 (0, 0)) (by (with_reducible repeat (first | refine kC ?_ _ | refine kE ?_ | refine kD ?_ _)); exact BK165.out) hb); have n3_ := Aside0.mk (kI (g := gb166) (o := .cells #[.bool a1_0, .slice A1_1 l1_1.length c1_1] 60 (0, 0)) (by (with_reducible repeat (first | refine kC ?_ _ | refine kE ?_ | refine kD ?_ _)); exact BK166.out) hb); have n4_ := Aside0.mk (kI (g := gb167) (o := .cells #[.bool false, .slice none 0 0] 60 (0, 0)) (by (with_reducible repeat (first | refine kC ?_ _ | refine kE ?_ | refine kD ?_ _)); exact BK167.out) hb); have n5_ := Aside0.mk (kL (by repeat (first | (with_reducible first | exact HB.out | apply kF | apply kB | apply kG | refine kA ?_ GE165.out | refine kA ?_ GE166.out | refine kA ?_ GE167.out) | exact HB.out)) hb); clear HO_5; clear BK165; clear BK166; clear BK167; clear HB; have HO_5 := n0_; have HO174 := n1_; have BK165 := n2_; have BK166 := n3_; have BK167 := n4_; have HB := n5_; clear n0_ n1_ n2_ n3_ n4_ n5_; clear hb ho12))
            repeat (go_quiet (first | ((with_reducible refine gate_dst (N := 15) rfl ?_); refine Kd.R_make (Kd.int .u64) _ 52 rfl (N := 15) rfl 58 _ _ rfl 6 rfl rfl Try.underlying58 (.int .u64 0) 8 info52 rfl (by decide) (by omega) 0 (ok := fun _ => True) (okp := fun _ => True) rfl (fun _ hk => hk) trivial (by omega) (by omega) (Below.refl _ _) (Nat.le_refl _) ?_; intro v173 w11 ho12 hb hg_ hnew_; clear hg_ hnew_; (first | rw [← Ny172.out] at ho12 | (simp only [Int.reduceToNat] at ho12; rw [← Ny172.out] at ho12)); have n0_ := Aside0.mk (Kd.R_elder' (by (with_reducible repeat (first | apply Kd.R_alloc | apply Kd.R_drewN | apply Kd.R_drew)); exact HO_5.out) (Kd.R_base ho12) hb); have n1_ := Aside0.mk (Kd.R_lower (Kd.R_new' ho12 (Kd.R_lt (by (with_reducible repeat (first | apply Kd.R_alloc | apply Kd.R_drewN | apply Kd.R_drew)); exact HO_5.out))) (kK (by repeat (first | (with_reducible first | exact HB.out | apply kF | apply kB | apply kG | refine kA ?_ GE165.out | refine kA ?_ GE166.out | refine kA ?_ GE167.out) | exact HB.out)))); have n2_ := Aside0.mk (kI (g := gb165) (o := .cells #[.bool a0_0, .slice A0_1 l0_1.length c0_1] 60 (0, 0)) (by (with_reducible repeat (first | refine kC ?_ _ | refine kE ?_ | refine kD ?_ _)); exact BK165.out) hb); have n3_ := Aside0.mk (kI (g := gb166) (o := .cells #[.bool a1_0, .slice A1_1 l1_1.length c1_1] 60 (0, 0)) (by (with_reducible repeat (first | refine kC ?_ _ | refine kE ?_ | refine kD ?_ _)); exact BK166.out) hb); have n4_ := Aside0.mk (kI (g := gb167) (o := .cells #[.bool false, .slice none 0 0] 60 (0, 0)) (by (with_reducible repeat (first | refine kC ?_ _ | refine kE ?_ | refine kD ?_ _)); exact BK167.out) hb); have n5_ := Aside0.mk (kL (by repeat (first | (with_reducible first | exact HB.out | apply kF | apply kB | apply kG | refine kA ?_ GE165.out | refine kA ?_ GE166.out | refine kA ?_ GE167.out) | exact HB.out)) hb); clear HO_5; clear BK165; clear BK166; clear BK167; clear HB; have HO_5 := n0_; have HO174 := n1_; have BK165 := n2_; have BK166 := n3_; have BK167 := n4_; have HB := n5_; clear n0_ n1_ n2_ n3_ n4_ n5_; clear hb ho12)); try go_wp2_with (first | ((with_reducible refine gate_dst (N := 15) rfl ?_); refine Kd.R_make (Kd.int .u64) _ 52 rfl (N := 15) rfl 58 _ _ rfl 6 rfl rfl Try.underlying58 (.int .u64 0) 8 info52 rfl (by decide) (by omega) 0 (ok := fun _ => True) (okp := fun _ => True) rfl (fun _ hk => hk) trivial (by omega) (by omega) (Below.refl _ _) (Nat.le_refl _) ?_; intro v173 w11 ho12 hb hg_ hnew_; clear hg_ hnew_; (first | rw [← Ny172.out] at ho12 | (simp only [Int.reduceToNat] at ho12; rw [← Ny172.out] at ho12)); have n0_ := Aside0.mk (Kd.R_elder' (by (with_reducible repeat (first | apply Kd.R_alloc | apply Kd.R_drewN | apply Kd.R_drew)); exact HO_5.out) (Kd.R_base ho12) hb); have n1_ := Aside0.mk (Kd.R_lower (Kd.R_new' ho12 (Kd.R_lt (by (with_reducible repeat (first | apply Kd.R_alloc | apply Kd.R_drewN | apply Kd.R_drew)); exact HO_5.out))) (kK (by repeat (first | (with_reducible first | exact HB.out | apply kF | apply kB | apply kG | refine kA ?_ GE165.out | refine kA ?_ GE166.out | refine kA ?_ GE167.out) | exact HB.out)))); have n2_ := Aside0.mk (kI (g := gb165) (o := .cells #[.bool a0_0, .slice A0_1 l0_1.length c0_1] 60 (0, 0)) (by (with_reducible repeat (first | refine kC ?_ _ | refine kE ?_ | refine kD ?_ _)); exact BK165.out) hb); have n3_ := Aside0.mk (kI (g := gb166) (o := .cells #[.bool a1_0, .slice A1_1 l1_1.length c1_1] 60 (0, 0)) (by (with_reducible repeat (first | refine kC ?_ _ | refine kE ?_ | refine kD ?_ _)); exact BK166.out) hb); have n4_ := Aside0.mk (kI (g := gb167) (o := .cells #[.bool false, .slice none 0 0] 60 (0, 0)) (by (with_reducible repeat (first | refine kC ?_ _ | refine kE ?_ | refine kD ?_ _)); exact BK167.out) hb); have n5_ := Aside0.mk (kL (by repeat (first | (with_reducible first | exact HB.out | apply kF | apply kB | apply kG | refine kA ?_ GE165.out | refine kA ?_ GE166.out | refine kA ?_ GE167.out) | exact HB.out)) hb); clear HO_5; clear BK165; clear BK166; clear BK167; clear HB; have HO_5 := n0_; have HO174 := n1_; have BK165 := n2_; have BK166 := n3_; have BK167 := n4_; have HB := n5_; clear n0_ n1_ n2_ n3_ n4_ n5_; clear hb ho12)))
            go_loopg [8, 9] k1 (fun kq v8 v9 w' => ∃ (x7_2 : List Int) (x8_2 : Int) (x9_2 : Int), v8 = .int .u64 x8_2 ∧ v9 = .int .i64 x9_2 ∧ Aside0 (computusref01_Times.l1 kq x5_1 x6_1 x7_2 x8_2 x9_2 a0_0 l0_1 a1_0 l1_1 = some (r1, r2)) ∧ Aside0 (kq ≤ k1) ∧ Aside0 (Kd.R (Kd.int .u64) 52 w' w.heap.size (fun k_ => some k_ ≠ (v173 : Value).ownBlock) u5 x5_1) ∧ Aside0 (Kd.R (Kd.int .u64) 52 w' w.heap.size (fun k_ => some k_ ≠ (u5 : Value).ownBlock) v173 x7_2) ∧ Aside0 (w'.heap[gb165]? = some (.cells #[.bool a0_0, (.slice A0_1 l0_1.length c0_1)] 60 (0, 0))) ∧ Aside0 (w'.heap[gb166]? = some (.cells #[.bool a1_0, (.slice A1_1 l1_1.length c1_1)] 60 (0, 0))) ∧ Aside0 (w'.heap[gb167]? = some (.cells #[.bool false, (.slice none 0 0)] 60 (0, 0))) ∧ Aside0 (Below w.heap.size w w'))
            case atStart => exact ⟨(y172), (0), (0), (by first | rfl | (simp; done) | (simp [*]; done)), (by first | rfl | (simp; done) | (simp [*]; done)), H', ⟨Nat.le_refl _⟩, ⟨by (with_reducible repeat (first | apply Kd.R_alloc | apply Kd.R_drewN | apply Kd.R_drew)); exact Kd.R_mono HO_5.out (fun _ hk => hk.2)⟩, ⟨by (with_reducible repeat (first | apply Kd.R_alloc | apply Kd.R_drewN | apply Kd.R_drew)); exact Kd.R_mono HO174.out (fun _ hk => hk.2)⟩, ⟨by (with_reducible repeat (first | refine kC ?_ _ | refine kE ?_ | refine kD ?_ _)); exact BK165.out⟩, ⟨by (with_reducible repeat (first | refine kC ?_ _ | refine kE ?_ | refine kD ?_ _)); exact BK166.out⟩, ⟨by (with_reducible repeat (first | refine kC ?_ _ | refine kE ?_ | refine kD ?_ _)); exact BK167.out⟩, ⟨by repeat (first | (with_reducible first | exact HB.out | apply kF | apply kB | apply kG | refine kA ?_ GE165.out | refine kA ?_ GE166.out | refine kA ?_ GE167.out) | exact HB.out)⟩⟩
            case round =>
              clear H'
              try clear c1
              try clear p2
              try clear c3
              try clear c3b0
              try clear c3b1
              try clear c9
              try clear c9b0
              try clear c10
              try clear c10b0
              try clear c10b1
              try clear p2
              obtain ⟨x7_2, x8_2, x9_2, rfl, rfl, HA, HK2, HO_5, HO_7, BK165, BK166, BK167, HB⟩ := hrel
              cases gk with
              | zero => exact absurd HA.out (by simp [computusref01_Times.l1])
              | succ k2 =>
                have H := HA.out
                clear HA
                simp only [computusref01_Times.l1] at H
                by_cases c13 : x9_2 < 3
                · rw [if_pos c13] at H
                  have c13b0 : decide (x9_2 < 3) = true := decide_eq_true c13
                  clear c13
                  by_cases c14 : 0 ≤ x6_1
                  · rw [if_pos c14] at H
                    have c14b0 : decide (0 ≤ x6_1) = true := decide_eq_true c14
                    clear c14
                    by_cases c15 : x6_1 < (l0_1.length : Int)
                    · rw [if_pos c15] at H
                      have c15b0 : decide (x6_1 < (l0_1.length : Int)) = true := decide_eq_true c15
                      clear c15
                      by_cases c16 : 0 ≤ x9_2
                      · rw [if_pos c16] at H
                        have c16b0 : decide (0 ≤ x9_2) = true := decide_eq_true c16
                        clear c16
                        by_cases c17 : x9_2 < (l1_1.length : Int)
                        · rw [if_pos c17] at H
                          have c17b0 : decide (x9_2 < (l1_1.length : Int)) = true := decide_eq_true c17
                          clear c17
                          obtain ⟨ji18, hji18⟩ : ∃ j_ : Int, (wrap64 (x6_1 + x9_2)) = j_ := ⟨_, rfl⟩
                          replace H : (if 0 ≤ (ji18) then (if (ji18) < (x7_2.length : Int) then (computusref01_Times.l1 k2 x5_1 x6_1 (x7_2.set ((ji18) : Int).toNat (Go.bits .and .u64 (IntKind.u64.wrap (x8_2 + (IntKind.u64.wrap ((rd l0_1 x6_1) * (rd l1_1 x9_2))))) 4294967295)) ((IntKind.u64.wrap (x8_2 + (IntKind.u64.wrap ((rd l0_1 x6_1) * (rd l1_1 x9_2))))) / 4294967296) (wrap64 (x9_2 + 1)) a0_0 l0_1 a1_0 l1_1) else (none)) else (none)) = some (r1, r2) := by first | (rw [hji18] at H; exact H) | (simp only [hji18] at H ⊢; exact H)
                          have hji18w : (IntKind.i64.wrap (x6_1 + x9_2)) = ji18 := (i64_w _).trans hji18
                          by_cases c19 : 0 ≤ (ji18)
                          · rw [if_pos c19] at H
                            have c19b0 : decide (0 ≤ (ji18)) = true := decide_eq_true c19
                            clear c19
                            by_cases c20 : (ji18) < (x7_2.length : Int)
                            · rw [if_pos c20] at H
                              have c20b0 : decide ((ji18) < (x7_2.length : Int)) = true := decide_eq_true c20
                              clear c20
                              obtain ⟨y177, hy177⟩ : ∃ y_ : List Int, y_ = (x7_2.set ((ji18) : Int).toNat (Go.bits .and .u64 (IntKind.u64.wrap (x8_2 + (IntKind.u64.wrap ((rd l0_1 x6_1) * (rd l1_1 x9_2))))) 4294967295)) := ⟨_, rfl⟩
                              replace H : (computusref01_Times.l1 k2 x5_1 x6_1 y177 ((IntKind.u64.wrap (x8_2 + (IntKind.u64.wrap ((rd l0_1 x6_1) * (rd l1_1 x9_2))))) / 4294967296) (wrap64 (x9_2 + 1)) a0_0 l0_1 a1_0 l1_1) = some (r1, r2) := by first | (rw [hy177]; with_reducible exact H) | (have H2_ := (Option.bind_some _ _).symm.trans H; rw [hy177]; with_reducible exact H2_) | (have H2_ := (Option.bind_some _ _).symm.trans H; with_reducible exact H2_) | with_reducible exact H | (rw [hy177]; exact H) | exact H
                              have Ny177 := Aside0.mk hy177
                              clear hy177
                              have H' := Aside0.mk H
                              clear H
                              have hnb22 := NB165_166.out
                              have hnc22 := NB166_165.out
                              have hnb23 := NB165_167.out
                              have hnc23 := NB167_165.out
                              have hcz24_0 : wr.cell? ⟨gb165, 0, none⟩ = some (.bool a0_0) := (kH BK165.out 0).trans rfl
                              have hcz24_1 : wr.cell? ⟨gb165, 1, none⟩ = some (.slice A0_1 l0_1.length c0_1) := (kH BK165.out 1).trans rfl
                              have hfz24_0 := kJ BK165.out 0
                              have hfz24_1 := kJ BK165.out 1
                              have p175 : 0 ≤ (x6_1 : Int) := of_decide_eq_true (by first | (with_reducible assumption) | assumption)
                              have q175 : x6_1 < (l0_1.length : Int) := of_decide_eq_true (by first | (with_reducible assumption) | assumption)
                              obtain ⟨ad175, e175, hx175_0⟩ := Kd.at_int HR0_1.out x6_1 p175 q175
                              cases e175
                              replace hx175_0 := (HB.out.cell (World.block_lt_of_cell? w _ hx175_0)).trans hx175_0
                              replace p175 := eq_true p175
                              replace q175 := eq_true q175
                              have hnb25 := NB166_167.out
                              have hnc25 := NB167_166.out
                              have hcz26_0 : wr.cell? ⟨gb166, 0, none⟩ = some (.bool a1_0) := (kH BK166.out 0).trans rfl
                              have hcz26_1 : wr.cell? ⟨gb166, 1, none⟩ = some (.slice A1_1 l1_1.length c1_1) := (kH BK166.out 1).trans rfl
                              have hfz26_0 := kJ BK166.out 0
                              have hfz26_1 := kJ BK166.out 1
                              have p176 : 0 ≤ (x9_2 : Int) := of_decide_eq_true (by first | (with_reducible assumption) | assumption)
                              have q176 : x9_2 < (l1_1.length : Int) := of_decide_eq_true (by first | (with_reducible assumption) | assumption)
                              obtain ⟨ad176, e176, hx176_0⟩ := Kd.at_int HR1_1.out x9_2 p176 q176
                              cases e176
                              replace hx176_0 := (HB.out.cell (World.block_lt_of_cell? w _ hx176_0)).trans hx176_0
                              replace p176 := eq_true p176
                              replace q176 := eq_true q176
                              have p21 : 0 ≤ ((ji18) : Int) := of_decide_eq_true (by first | (with_reducible assumption) | assumption)
                              have q21 : ((ji18) : Int) < ((x7_2.length : Int) : Int) := of_decide_eq_true (by first | (with_reducible assumption) | assumption)
                              obtain ⟨go21, co21, eo21, gb21, gl21, cl21, HG21⟩ := Kd.R_form HO_7.out (by omega)
                              (first | cases eo21 | (injection eo21 with ea_ en_ ec_; (first | subst ea_ | (injection ea_ with ea_; subst ea_)); subst ec_; clear en_))
                              have GB21 := Aside0.mk gb21
                              have GG21 := Aside0.mk HG21
                              clear gb21 gl21 HG21
                              obtain ⟨hx21_0, hf21_0⟩ := Kd.R_celln 0 HO_7.out ((ji18) : Int) p21 q21
                              replace p21 := eq_true p21
                              replace q21 := eq_true q21
                              have HP27 := Kd.R_putg HO_7.out ((ji18) : Int) (Go.bits .and .u64 (IntKind.u64.wrap (x8_2 + (IntKind.u64.wrap ((rd l0_1 x6_1) * (rd l1_1 x9_2))))) 4294967295)
                              go_wp2_with (first | ((with_reducible refine gate_store (t := 52) (p := 39) rfl ?_); (try (rw [drewN_self wr]; generalize hq_ : World.drewN wr _ = wr; have n0_ := Aside0.mk (Kd.R_at hq_ HO_5.out); have n1_ := Aside0.mk (Kd.R_at hq_ HO_7.out); have n2_ := Aside0.mk (blk_at hq_ BK165.out); have n3_ := Aside0.mk (blk_at hq_ BK166.out); have n4_ := Aside0.mk (blk_at hq_ BK167.out); have n5_ := Aside0.mk (below_at hq_ HB.out); clear hq_ HO_5 HO_7 BK165 BK166 BK167 HB; have HO_5 := n0_; have HO_7 := n1_; have BK165 := n2_; have BK166 := n3_; have BK167 := n4_; have HB := n5_; clear n0_ n1_ n2_ n3_ n4_ n5_; (try (obtain ⟨hxr_, hfr_⟩ := Kd.R_celln 0 HO_7.out ((ji18) : Int) (of_eq_true p21) (of_eq_true q21))); (try (have HP27 := Kd.R_putg HO_7.out ((ji18) : Int) (Go.bits .and .u64 (IntKind.u64.wrap (x8_2 + (IntKind.u64.wrap ((rd l0_1 x6_1) * (rd l1_1 x9_2))))) 4294967295))))); refine store_event (t := 52) (p := 39) (v := ?vo_w28) (w1 := (wr.setCell ⟨go21, ((ji18) : Int).toNat, none⟩ (.int .u64 (Go.bits .and .u64 (IntKind.u64.wrap (x8_2 + (IntKind.u64.wrap ((rd l0_1 x6_1) * (rd l1_1 x9_2))))) 4294967295)))) ?hg ?ho ?hn ?hr ?_; (case ho => rfl); (case hg => rfl); (case hn => rfl); (case hr => first | (go_simp; done) | (go_simp; rfl)); intro w28 hw; have hg : wr.grownBy w28 (some go21) := (by rw [hw]; exact HP27.2); have hp_ : Kd.R (Kd.int .u64) 52 w28 w.heap.size (fun k_ => some k_ ≠ (u5 : Value).ownBlock) (.slice (some ⟨go21, 0, none⟩) x7_2.length co21) y177 := (by rw [hw, Ny177.out]; exact HP27.1); clear HP27; have n0_ := Aside0.mk (Kd.R_after (v := (.slice (some ⟨go21, 0, none⟩) x7_2.length co21)) (v1 := (.slice (some ⟨go21, 0, none⟩) x7_2.length co21)) (ok := (fun _ => True)) (by (with_reducible repeat (first | apply Kd.R_alloc | apply Kd.R_drewN | apply Kd.R_drew)); exact Kd.R_mono HO_5.out (fun _ hk => ⟨trivial, hk⟩)) hg (.inl rfl)); have n1_ := Aside0.mk (hp_); have n2_ := Aside0.mk (blk_grown (g := gb165) (o := .cells #[.bool a0_0, .slice (some ad175) l0_1.length c0_1] 60 (0, 0)) (by (with_reducible repeat (first | refine kC ?_ _ | refine kE ?_ | refine kD ?_ _)); exact BK165.out) hg (Kd.R_ne HO_7.out BK165.out (by decide))); have n3_ := Aside0.mk (blk_grown (g := gb166) (o := .cells #[.bool a1_0, .slice (some ad176) l1_1.length c1_1] 60 (0, 0)) (by (with_reducible repeat (first | refine kC ?_ _ | refine kE ?_ | refine kD ?_ _)); exact BK166.out) hg (Kd.R_ne HO_7.out BK166.out (by decide))); have n4_ := Aside0.mk (blk_grown (g := gb167) (o := .cells #[.bool false, .slice none 0 0] 60 (0, 0)) (by (with_reducible repeat (first | refine kC ?_ _ | refine kE ?_ | refine kD ?_ _)); exact BK167.out) hg (Kd.R_ne HO_7.out BK167.out (by decide))); have n5_ := Aside0.mk ((by rw [hw]; exact kA (HB.out) GB21.out : Below w.heap.size w w28)); clear HO_5; clear HO_7; clear BK165; clear BK166; clear BK167; clear HB; have HO_5 := n0_; have HO_7 := n1_; have BK165 := n2_; have BK166 := n3_; have BK167 := n4_; have HB := n5_; clear n0_ n1_ n2_ n3_ n4_ n5_; clear hg hw hp_))
                              repeat (go_quiet (first | ((with_reducible refine gate_store (t := 52) (p := 39) rfl ?_); (try (rw [drewN_self wr]; generalize hq_ : World.drewN wr _ = wr; have n0_ := Aside0.mk (Kd.R_at hq_ HO_5.out); have n1_ := Aside0.mk (Kd.R_at hq_ HO_7.out); have n2_ := Aside0.mk (blk_at hq_ BK165.out); have n3_ := Aside0.mk (blk_at hq_ BK166.out); have n4_ := Aside0.mk (blk_at hq_ BK167.out); have n5_ := Aside0.mk (below_at hq_ HB.out); clear hq_ HO_5 HO_7 BK165 BK166 BK167 HB; have HO_5 := n0_; have HO_7 := n1_; have BK165 := n2_; have BK166 := n3_; have BK167 := n4_; have HB := n5_; clear n0_ n1_ n2_ n3_ n4_ n5_; (try (obtain ⟨hxr_, hfr_⟩ := Kd.R_celln 0 HO_7.out ((ji18) : Int) (of_eq_true p21) (of_eq_true q21))); (try (have HP27 := Kd.R_putg HO_7.out ((ji18) : Int) (Go.bits .and .u64 (IntKind.u64.wrap (x8_2 + (IntKind.u64.wrap ((rd l0_1 x6_1) * (rd l1_1 x9_2))))) 4294967295))))); refine store_event (t := 52) (p := 39) (v := ?vo_w28) (w1 := (wr.setCell ⟨go21, ((ji18) : Int).toNat, none⟩ (.int .u64 (Go.bits .and .u64 (IntKind.u64.wrap (x8_2 + (IntKind.u64.wrap ((rd l0_1 x6_1) * (rd l1_1 x9_2))))) 4294967295)))) ?hg ?ho ?hn ?hr ?_; (case ho => rfl); (case hg => rfl); (case hn => rfl); (case hr => first | (go_simp; done) | (go_simp; rfl)); intro w28 hw; have hg : wr.grownBy w28 (some go21) := (by rw [hw]; exact HP27.2); have hp_ : Kd.R (Kd.int .u64) 52 w28 w.heap.size (fun k_ => some k_ ≠ (u5 : Value).ownBlock) (.slice (some ⟨go21, 0, none⟩) x7_2.length co21) y177 := (by rw [hw, Ny177.out]; exact HP27.1); clear HP27; have n0_ := Aside0.mk (Kd.R_after (v := (.slice (some ⟨go21, 0, none⟩) x7_2.length co21)) (v1 := (.slice (some ⟨go21, 0, none⟩) x7_2.length co21)) (ok := (fun _ => True)) (by (with_reducible repeat (first | apply Kd.R_alloc | apply Kd.R_drewN | apply Kd.R_drew)); exact Kd.R_mono HO_5.out (fun _ hk => ⟨trivial, hk⟩)) hg (.inl rfl)); have n1_ := Aside0.mk (hp_); have n2_ := Aside0.mk (blk_grown (g := gb165) (o := .cells #[.bool a0_0, .slice (some ad175) l0_1.length c0_1] 60 (0, 0)) (by (with_reducible repeat (first | refine kC ?_ _ | refine kE ?_ | refine kD ?_ _)); exact BK165.out) hg (Kd.R_ne HO_7.out BK165.out (by decide))); have n3_ := Aside0.mk (blk_grown (g := gb166) (o := .cells #[.bool a1_0, .slice (some ad176) l1_1.length c1_1] 60 (0, 0)) (by (with_reducible repeat (first | refine kC ?_ _ | refine kE ?_ | refine kD ?_ _)); exact BK166.out) hg (Kd.R_ne HO_7.out BK166.out (by decide))); have n4_ := Aside0.mk (blk_grown (g := gb167) (o := .cells #[.bool false, .slice none 0 0] 60 (0, 0)) (by (with_reducible repeat (first | refine kC ?_ _ | refine kE ?_ | refine kD ?_ _)); exact BK167.out) hg (Kd.R_ne HO_7.out BK167.out (by decide))); have n5_ := Aside0.mk ((by rw [hw]; exact kA (HB.out) GB21.out : Below w.heap.size w w28)); clear HO_5; clear HO_7; clear BK165; clear BK166; clear BK167; clear HB; have HO_5 := n0_; have HO_7 := n1_; have BK165 := n2_; have BK166 := n3_; have BK167 := n4_; have HB := n5_; clear n0_ n1_ n2_ n3_ n4_ n5_; clear hg hw hp_)); try go_wp2_with (first | ((with_reducible refine gate_store (t := 52) (p := 39) rfl ?_); (try (rw [drewN_self wr]; generalize hq_ : World.drewN wr _ = wr; have n0_ := Aside0.mk (Kd.R_at hq_ HO_5.out); have n1_ := Aside0.mk (Kd.R_at hq_ HO_7.out); have n2_ := Aside0.mk (blk_at hq_ BK165.out); have n3_ := Aside0.mk (blk_at hq_ BK166.out); have n4_ := Aside0.mk (blk_at hq_ BK167.out); have n5_ := Aside0.mk (below_at hq_ HB.out); clear hq_ HO_5 HO_7 BK165 BK166 BK167 HB; have HO_5 := n0_; have HO_7 := n1_; have BK165 := n2_; have BK166 := n3_; have BK167 := n4_; have HB := n5_; clear n0_ n1_ n2_ n3_ n4_ n5_; (try (obtain ⟨hxr_, hfr_⟩ := Kd.R_celln 0 HO_7.out ((ji18) : Int) (of_eq_true p21) (of_eq_true q21))); (try (have HP27 := Kd.R_putg HO_7.out ((ji18) : Int) (Go.bits .and .u64 (IntKind.u64.wrap (x8_2 + (IntKind.u64.wrap ((rd l0_1 x6_1) * (rd l1_1 x9_2))))) 4294967295))))); refine store_event (t := 52) (p := 39) (v := ?vo_w28) (w1 := (wr.setCell ⟨go21, ((ji18) : Int).toNat, none⟩ (.int .u64 (Go.bits .and .u64 (IntKind.u64.wrap (x8_2 + (IntKind.u64.wrap ((rd l0_1 x6_1) * (rd l1_1 x9_2))))) 4294967295)))) ?hg ?ho ?hn ?hr ?_; (case ho => rfl); (case hg => rfl); (case hn => rfl); (case hr => first | (go_simp; done) | (go_simp; rfl)); intro w28 hw; have hg : wr.grownBy w28 (some go21) := (by rw [hw]; exact HP27.2); have hp_ : Kd.R (Kd.int .u64) 52 w28 w.heap.size (fun k_ => some k_ ≠ (u5 : Value).ownBlock) (.slice (some ⟨go21, 0, none⟩) x7_2.length co21) y177 := (by rw [hw, Ny177.out]; exact HP27.1); clear HP27; have n0_ := Aside0.mk (Kd.R_after (v := (.slice (some ⟨go21, 0, none⟩) x7_2.length co21)) (v1 := (.slice (some ⟨go21, 0, none⟩) x7_2.length co21)) (ok := (fun _ => True)) (by (with_reducible repeat (first | apply Kd.R_alloc | apply Kd.R_drewN | apply Kd.R_drew)); exact Kd.R_mono HO_5.out (fun _ hk => ⟨trivial, hk⟩)) hg (.inl rfl)); have n1_ := Aside0.mk (hp_); have n2_ := Aside0.mk (blk_grown (g := gb165) (o := .cells #[.bool a0_0, .slice (some ad175) l0_1.length c0_1] 60 (0, 0)) (by (with_reducible repeat (first | refine kC ?_ _ | refine kE ?_ | refine kD ?_ _)); exact BK165.out) hg (Kd.R_ne HO_7.out BK165.out (by decide))); have n3_ := Aside0.mk (blk_grown (g := gb166) (o := .cells #[.bool a1_0, .slice (some ad176) l1_1.length c1_1] 60 (0, 0)) (by (with_reducible repeat (first | refine kC ?_ _ | refine kE ?_ | refine kD ?_ _)); exact BK166.out) hg (Kd.R_ne HO_7.out BK166.out (by decide))); have n4_ := Aside0.mk (blk_grown (g := gb167) (o := .cells #[.bool false, .slice none 0 0] 60 (0, 0)) (by (with_reducible repeat (first | refine kC ?_ _ | refine kE ?_ | refine kD ?_ _)); exact BK167.out) hg (Kd.R_ne HO_7.out BK167.out (by decide))); have n5_ := Aside0.mk ((by rw [hw]; exact kA (HB.out) GB21.out : Below w.heap.size w w28)); clear HO_5; clear HO_7; clear BK165; clear BK166; clear BK167; clear HB; have HO_5 := n0_; have HO_7 := n1_; have BK165 := n2_; have BK166 := n3_; have BK167 := n4_; have HB := n5_; clear n0_ n1_ n2_ n3_ n4_ n5_; clear hg hw hp_)))
                              go_roundg k2
                              case measure => have := HK1.out; have := HK2.out; omega
                              case rel => exact ⟨(y177), ((IntKind.u64.wrap (x8_2 + (IntKind.u64.wrap ((rd l0_1 x6_1) * (rd l1_1 x9_2))))) / 4294967296), (wrap64 (x9_2 + 1)), (by first | rfl | (simp; done) | (simp [*]; done)), (by first | rfl | (simp; done) | (simp [*]; done)), H', ⟨by have := HK1.out; have := HK2.out; omega⟩, ⟨by (with_reducible repeat (first | apply Kd.R_alloc | apply Kd.R_drewN | apply Kd.R_drew)); exact Kd.R_mono HO_5.out (fun _ hk => hk.2)⟩, ⟨by (with_reducible repeat (first | apply Kd.R_alloc | apply Kd.R_drewN | apply Kd.R_drew)); exact HO_7.out⟩, ⟨by (with_reducible repeat (first | refine kC ?_ _ | refine kE ?_ | refine kD ?_ _)); exact BK165.out⟩, ⟨by (with_reducible repeat (first | refine kC ?_ _ | refine kE ?_ | refine kD ?_ _)); exact BK166.out⟩, ⟨by (with_reducible repeat (first | refine kC ?_ _ | refine kE ?_ | refine kD ?_ _)); exact BK167.out⟩, ⟨by repeat (first | (with_reducible first | exact HB.out | apply kF | apply kB | apply kG | refine kA ?_ GE165.out | refine kA ?_ GE166.out | refine kA ?_ GE167.out) | exact HB.out)⟩⟩
                            · rw [if_neg c20] at H
                              exact absurd H (by simp)
                          · rw [if_neg c19] at H
                            exact absurd H (by simp)
                        · rw [if_neg c17] at H
                          exact absurd H (by simp)
                      · rw [if_neg c16] at H
                        exact absurd H (by simp)
                    · rw [if_neg c15] at H
                      exact absurd H (by simp)
                  · rw [if_neg c14] at H
                    exact absurd H (by simp)
                · rw [if_neg c13] at H
                  have c13b0 : decide (x9_2 < 3) = false := decide_eq_false c13
                  clear c13
                  replace H := Option.bind_eq_some_iff.mp H
                  obtain ⟨t178, A290, H⟩ := H
                  replace H : (computusref01_Times.l0 k2 t178 (wrap64 (x6_1 + 1)) a0_0 l0_1 a1_0 l1_1) = some (r1, r2) := H
                  have A29 := Aside0.mk A290
                  clear A290
                  have H' := Aside0.mk H
                  clear H
                  obtain ⟨Ao30, co30, eo30⟩ := Kd.R_slice HO_5.out
                  subst eo30
                  obtain ⟨Ao31, co31, eo31⟩ := Kd.R_slice HO_7.out
                  subst eo31
                  go_wp2_with (first | (go_at_call 55; (with_reducible refine (computusref01_add.calls k2 _ _ x5_1 _ _ x7_2 t178 _ ?side1 ?side2 ?side3 ?side4 A29.out).mono ?_); (case side1 => repeat (first | exact (Kd.R_reads' HO_5.out).2.2 | (with_reducible refine Kd.C_alloc ?_ _) | (with_reducible refine Kd.C_drewN ?_ _) | (with_reducible refine Kd.C_drew ?_))); (case side2 => exact (Kd.R_reads' HO_5.out).2.1); (case side3 => repeat (first | exact (Kd.R_reads' HO_7.out).2.2 | (with_reducible refine Kd.C_alloc ?_ _) | (with_reducible refine Kd.C_drewN ?_ _) | (with_reducible refine Kd.C_drew ?_))); (case side4 => exact (Kd.R_reads' HO_7.out).2.1); rintro e w32 ⟨v179, rfl, ho0, hb⟩; have n0_ := Aside0.mk (Kd.R_elder' (by (with_reducible repeat (first | apply Kd.R_alloc | apply Kd.R_drewN | apply Kd.R_drew)); exact HO_5.out) (Kd.R_base ho0) hb); have n1_ := Aside0.mk (Kd.R_elder' (by (with_reducible repeat (first | apply Kd.R_alloc | apply Kd.R_drewN | apply Kd.R_drew)); exact HO_7.out) (Kd.R_base ho0) hb); have n2_ := Aside0.mk (Kd.R_lower (Kd.R_new' (Kd.R_new' ho0 (Kd.R_lt (by (with_reducible repeat (first | apply Kd.R_alloc | apply Kd.R_drewN | apply Kd.R_drew)); exact HO_5.out))) (Kd.R_lt (by (with_reducible repeat (first | apply Kd.R_alloc | apply Kd.R_drewN | apply Kd.R_drew)); exact HO_7.out))) (kK (by repeat (first | (with_reducible first | exact HB.out | apply kF | apply kB | apply kG | refine kA ?_ GE165.out | refine kA ?_ GE166.out | refine kA ?_ GE167.out) | exact HB.out)))); have n3_ := Aside0.mk (kI (g := gb165) (o := .cells #[.bool a0_0, .slice A0_1 l0_1.length c0_1] 60 (0, 0)) (by (with_reducible repeat (first | refine kC ?_ _ | refine kE ?_ | refine kD ?_ _)); exact BK165.out) hb); have n4_ := Aside0.mk (kI (g := gb166) (o := .cells #[.bool a1_0, .slice A1_1 l1_1.length c1_1] 60 (0, 0)) (by (with_reducible repeat (first | refine kC ?_ _ | refine kE ?_ | refine kD ?_ _)); exact BK166.out) hb); have n5_ := Aside0.mk (kI (g := gb167) (o := .cells #[.bool false, .slice none 0 0] 60 (0, 0)) (by (with_reducible repeat (first | refine kC ?_ _ | refine kE ?_ | refine kD ?_ _)); exact BK167.out) hb); have n6_ := Aside0.mk (kL (by repeat (first | (with_reducible first | exact HB.out | apply kF | apply kB | apply kG | refine kA ?_ GE165.out | refine kA ?_ GE166.out | refine kA ?_ GE167.out) | exact HB.out)) hb); clear HO_5; clear HO_7; clear BK165; clear BK166; clear BK167; clear HB; have HO_5 := n0_; have HO_7 := n1_; have HO180 := n2_; have BK165 := n3_; have BK166 := n4_; have BK167 := n5_; have HB := n6_; clear n0_ n1_ n2_ n3_ n4_ n5_ n6_; (try clear hb); (try clear hb2); (try clear hk); (try clear hi); (try clear ho0)))
                  repeat (go_quiet (first | (go_at_call 55; (with_reducible refine (computusref01_add.calls k2 _ _ x5_1 _ _ x7_2 t178 _ ?side1 ?side2 ?side3 ?side4 A29.out).mono ?_); (case side1 => repeat (first | exact (Kd.R_reads' HO_5.out).2.2 | (with_reducible refine Kd.C_alloc ?_ _) | (with_reducible refine Kd.C_drewN ?_ _) | (with_reducible refine Kd.C_drew ?_))); (case side2 => exact (Kd.R_reads' HO_5.out).2.1); (case side3 => repeat (first | exact (Kd.R_reads' HO_7.out).2.2 | (with_reducible refine Kd.C_alloc ?_ _) | (with_reducible refine Kd.C_drewN ?_ _) | (with_reducible refine Kd.C_drew ?_))); (case side4 => exact (Kd.R_reads' HO_7.out).2.1); rintro e w32 ⟨v179, rfl, ho0, hb⟩; have n0_ := Aside0.mk (Kd.R_elder' (by (with_reducible repeat (first | apply Kd.R_alloc | apply Kd.R_drewN | apply Kd.R_drew)); exact HO_5.out) (Kd.R_base ho0) hb); have n1_ := Aside0.mk (Kd.R_elder' (by (with_reducible repeat (first | apply Kd.R_alloc | apply Kd.R_drewN | apply Kd.R_drew)); exact HO_7.out) (Kd.R_base ho0) hb); have n2_ := Aside0.mk (Kd.R_lower (Kd.R_new' (Kd.R_new' ho0 (Kd.R_lt (by (with_reducible repeat (first | apply Kd.R_alloc | apply Kd.R_drewN | apply Kd.R_drew)); exact HO_5.out))) (Kd.R_lt (by (with_reducible repeat (first | apply Kd.R_alloc | apply Kd.R_drewN | apply Kd.R_drew)); exact HO_7.out))) (kK (by repeat (first | (with_reducible first | exact HB.out | apply kF | apply kB | apply kG | refine kA ?_ GE165.out | refine kA ?_ GE166.out | refine kA ?_ GE167.out) | exact HB.out)))); have n3_ := Aside0.mk (kI (g := gb165) (o := .cells #[.bool a0_0, .slice A0_1 l0_1.length c0_1] 60 (0, 0)) (by (with_reducible repeat (first | refine kC ?_ _ | refine kE ?_ | refine kD ?_ _)); exact BK165.out) hb); have n4_ := Aside0.mk (kI (g := gb166) (o := .cells #[.bool a1_0, .slice A1_1 l1_1.length c1_1] 60 (0, 0)) (by (with_reducible repeat (first | refine kC ?_ _ | refine kE ?_ | refine kD ?_ _)); exact BK166.out) hb); have n5_ := Aside0.mk (kI (g := gb167) (o := .cells #[.bool false, .slice none 0 0] 60 (0, 0)) (by (with_reducible repeat (first | refine kC ?_ _ | refine kE ?_ | refine kD ?_ _)); exact BK167.out) hb); have n6_ := Aside0.mk (kL (by repeat (first | (with_reducible first | exact HB.out | apply kF | apply kB | apply kG | refine kA ?_ GE165.out | refine kA ?_ GE166.out | refine kA ?_ GE167.out) | exact HB.out)) hb); clear HO_5; clear HO_7; clear BK165; clear BK166; clear BK167; clear HB; have HO_5 := n0_; have HO_7 := n1_; have HO180 := n2_; have BK165 := n3_; have BK166 := n4_; have BK167 := n5_; have HB := n6_; clear n0_ n1_ n2_ n3_ n4_ n5_ n6_; (try clear hb); (try clear hb2); (try clear hk); (try clear hi); (try clear ho0))); try go_wp2_with (first | (go_at_call 55; (with_reducible refine (computusref01_add.calls k2 _ _ x5_1 _ _ x7_2 t178 _ ?side1 ?side2 ?side3 ?side4 A29.out).mono ?_); (case side1 => repeat (first | exact (Kd.R_reads' HO_5.out).2.2 | (with_reducible refine Kd.C_alloc ?_ _) | (with_reducible refine Kd.C_drewN ?_ _) | (with_reducible refine Kd.C_drew ?_))); (case side2 => exact (Kd.R_reads' HO_5.out).2.1); (case side3 => repeat (first | exact (Kd.R_reads' HO_7.out).2.2 | (with_reducible refine Kd.C_alloc ?_ _) | (with_reducible refine Kd.C_drewN ?_ _) | (with_reducible refine Kd.C_drew ?_))); (case side4 => exact (Kd.R_reads' HO_7.out).2.1); rintro e w32 ⟨v179, rfl, ho0, hb⟩; have n0_ := Aside0.mk (Kd.R_elder' (by (with_reducible repeat (first | apply Kd.R_alloc | apply Kd.R_drewN | apply Kd.R_drew)); exact HO_5.out) (Kd.R_base ho0) hb); have n1_ := Aside0.mk (Kd.R_elder' (by (with_reducible repeat (first | apply Kd.R_alloc | apply Kd.R_drewN | apply Kd.R_drew)); exact HO_7.out) (Kd.R_base ho0) hb); have n2_ := Aside0.mk (Kd.R_lower (Kd.R_new' (Kd.R_new' ho0 (Kd.R_lt (by (with_reducible repeat (first | apply Kd.R_alloc | apply Kd.R_drewN | apply Kd.R_drew)); exact HO_5.out))) (Kd.R_lt (by (with_reducible repeat (first | apply Kd.R_alloc | apply Kd.R_drewN | apply Kd.R_drew)); exact HO_7.out))) (kK (by repeat (first | (with_reducible first | exact HB.out | apply kF | apply kB | apply kG | refine kA ?_ GE165.out | refine kA ?_ GE166.out | refine kA ?_ GE167.out) | exact HB.out)))); have n3_ := Aside0.mk (kI (g := gb165) (o := .cells #[.bool a0_0, .slice A0_1 l0_1.length c0_1] 60 (0, 0)) (by (with_reducible repeat (first | refine kC ?_ _ | refine kE ?_ | refine kD ?_ _)); exact BK165.out) hb); have n4_ := Aside0.mk (kI (g := gb166) (o := .cells #[.bool a1_0, .slice A1_1 l1_1.length c1_1] 60 (0, 0)) (by (with_reducible repeat (first | refine kC ?_ _ | refine kE ?_ | refine kD ?_ _)); exact BK166.out) hb); have n5_ := Aside0.mk (kI (g := gb167) (o := .cells #[.bool false, .slice none 0 0] 60 (0, 0)) (by (with_reducible repeat (first | refine kC ?_ _ | refine kE ?_ | refine kD ?_ _)); exact BK167.out) hb); have n6_ := Aside0.mk (kL (by repeat (first | (with_reducible first | exact HB.out | apply kF | apply kB | apply kG | refine kA ?_ GE165.out | refine kA ?_ GE166.out | refine kA ?_ GE167.out) | exact HB.out)) hb); clear HO_5; clear HO_7; clear BK165; clear BK166; clear BK167; clear HB; have HO_5 := n0_; have HO_7 := n1_; have HO180 := n2_; have BK165 := n3_; have BK166 := n4_; have BK167 := n5_; have HB := n6_; clear n0_ n1_ n2_ n3_ n4_ n5_ n6_; (try clear hb); (try clear hb2); (try clear hk); (try clear hi); (try clear ho0))))
                  go_roundg k2
                  case measure => have := HK1.out; have := HK2.out; omega
                  case rel => exact ⟨(t178), (wrap64 (x6_1 + 1)), (by first | rfl | (simp; done) | (simp [*]; done)), H', ⟨by have := HK1.out; have := HK2.out; omega⟩, ⟨by (with_reducible repeat (first | apply Kd.R_alloc | apply Kd.R_drewN | apply Kd.R_drew)); exact Kd.R_mono HO180.out (fun _ hk => trivial)⟩, ⟨by (with_reducible repeat (first | refine kC ?_ _ | refine kE ?_ | refine kD ?_ _)); exact BK165.out⟩, ⟨by (with_reducible repeat (first | refine kC ?_ _ | refine kE ?_ | refine kD ?_ _)); exact BK166.out⟩, ⟨by (with_reducible repeat (first | refine kC ?_ _ | refine kE ?_ | refine kD ?_ _)); exact BK167.out⟩, ⟨by repeat (first | (with_reducible first | exact HB.out | apply kF | apply kB | apply kG | refine kA ?_ GE165.out | refine kA ?_ GE166.out | refine kA ?_ GE167.out) | exact HB.out)⟩⟩
          · rw [if_neg c10] at H
            exact absurd H (by simp)
        · rw [if_neg c9] at H
          have c9b0 : decide (x6_1 < 2) = false := decide_eq_false c9
          clear c9
          by_cases c33 : (a0_0 != a1_0) = true
          · rw [if_pos c33] at H
            have c33b0 : (a0_0 != a1_0) = true := c33
            (try (have c33b1 : decide (a0_0 = a1_0) = false := by simpa using c33))
            (try (have c33b2 : (a0_0 == a1_0) = false := by simpa using c33))
            (try (have c33b3 : ¬ (a0_0 = a1_0) := by simpa using c33))
            clear c33
            replace H := Option.bind_eq_some_iff.mp H
            obtain ⟨t171, A340, H⟩ := H
            replace H : (some (!t171, x5_1)) = some (r1, r2) := H
            have A34 := Aside0.mk A340
            clear A340
            simp only [Option.some.injEq, Prod.mk.injEq] at H
            obtain ⟨rfl, rfl⟩ := H
            have hnb35 := NB165_166.out
            have hnc35 := NB166_165.out
            have hnb36 := NB165_167.out
            have hnc36 := NB167_165.out
            have hcz37_0 : wr.cell? ⟨gb165, 0, none⟩ = some (.bool a0_0) := (kH BK165.out 0).trans rfl
            have hcz37_1 : wr.cell? ⟨gb165, 1, none⟩ = some (.slice A0_1 l0_1.length c0_1) := (kH BK165.out 1).trans rfl
            have hfz37_0 := kJ BK165.out 0
            have hfz37_1 := kJ BK165.out 1
            have hnb38 := NB166_167.out
            have hnc38 := NB167_166.out
            have hcz39_0 : wr.cell? ⟨gb166, 0, none⟩ = some (.bool a1_0) := (kH BK166.out 0).trans rfl
            have hcz39_1 : wr.cell? ⟨gb166, 1, none⟩ = some (.slice A1_1 l1_1.length c1_1) := (kH BK166.out 1).trans rfl
            have hfz39_0 := kJ BK166.out 0
            have hfz39_1 := kJ BK166.out 1
            obtain ⟨Ao40, co40, eo40⟩ := Kd.R_slice HO_5.out
            subst eo40
            go_wp2_with (first | (go_at_call 58; (with_reducible refine (computusref01_zero.calls k1 _ _ x5_1 t171 _ ?side1 ?side2 A34.out).mono ?_); (case side1 => repeat (first | exact (Kd.R_reads' HO_5.out).2.2 | (with_reducible refine Kd.C_alloc ?_ _) | (with_reducible refine Kd.C_drewN ?_ _) | (with_reducible refine Kd.C_drew ?_))); (case side2 => exact (Kd.R_reads' HO_5.out).2.1); rintro e w41 ⟨rfl, hb⟩; have n0_ := Aside0.mk (Kd.R_below (by (with_reducible repeat (first | apply Kd.R_alloc | apply Kd.R_drewN | apply Kd.R_drew)); exact HO_5.out) hb); have n1_ := Aside0.mk (kI (g := gb165) (o := .cells #[.bool a0_0, .slice A0_1 l0_1.length c0_1] 60 (0, 0)) (by (with_reducible repeat (first | refine kC ?_ _ | refine kE ?_ | refine kD ?_ _)); exact BK165.out) hb); have n2_ := Aside0.mk (kI (g := gb166) (o := .cells #[.bool a1_0, .slice A1_1 l1_1.length c1_1] 60 (0, 0)) (by (with_reducible repeat (first | refine kC ?_ _ | refine kE ?_ | refine kD ?_ _)); exact BK166.out) hb); have n3_ := Aside0.mk (kI (g := gb167) (o := .cells #[.bool false, .slice none 0 0] 60 (0, 0)) (by (with_reducible repeat (first | refine kC ?_ _ | refine kE ?_ | refine kD ?_ _)); exact BK167.out) hb); have n4_ := Aside0.mk (kL (by repeat (first | (with_reducible first | exact HB.out | apply kF | apply kB | apply kG | refine kA ?_ GE165.out | refine kA ?_ GE166.out | refine kA ?_ GE167.out) | exact HB.out)) hb); clear HO_5; clear BK165; clear BK166; clear BK167; clear HB; have HO_5 := n0_; have BK165 := n1_; have BK166 := n2_; have BK167 := n3_; have HB := n4_; clear n0_ n1_ n2_ n3_ n4_; (try clear hb); (try clear hb2); (try clear hk); (try clear hi); have hcz42_0 : w41.cell? ⟨gb167, 0, none⟩ = some (.bool false) := (kH BK167.out 0).trans rfl; have hcz42_1 : w41.cell? ⟨gb167, 1, none⟩ = some (.slice none 0 0) := (kH BK167.out 1).trans rfl; have hfz42_0 := kJ BK167.out 0; have hfz42_1 := kJ BK167.out 1))
            repeat (go_quiet (first | (go_at_call 58; (with_reducible refine (computusref01_zero.calls k1 _ _ x5_1 t171 _ ?side1 ?side2 A34.out).mono ?_); (case side1 => repeat (first | exact (Kd.R_reads' HO_5.out).2.2 | (with_reducible refine Kd.C_alloc ?_ _) | (with_reducible refine Kd.C_drewN ?_ _) | (with_reducible refine Kd.C_drew ?_))); (case side2 => exact (Kd.R_reads' HO_5.out).2.1); rintro e w41 ⟨rfl, hb⟩; have n0_ := Aside0.mk (Kd.R_below (by (with_reducible repeat (first | apply Kd.R_alloc | apply Kd.R_drewN | apply Kd.R_drew)); exact HO_5.out) hb); have n1_ := Aside0.mk (kI (g := gb165) (o := .cells #[.bool a0_0, .slice A0_1 l0_1.length c0_1] 60 (0, 0)) (by (with_reducible repeat (first | refine kC ?_ _ | refine kE ?_ | refine kD ?_ _)); exact BK165.out) hb); have n2_ := Aside0.mk (kI (g := gb166) (o := .cells #[.bool a1_0, .slice A1_1 l1_1.length c1_1] 60 (0, 0)) (by (with_reducible repeat (first | refine kC ?_ _ | refine kE ?_ | refine kD ?_ _)); exact BK166.out) hb); have n3_ := Aside0.mk (kI (g := gb167) (o := .cells #[.bool false, .slice none 0 0] 60 (0, 0)) (by (with_reducible repeat (first | refine kC ?_ _ | refine kE ?_ | refine kD ?_ _)); exact BK167.out) hb); have n4_ := Aside0.mk (kL (by repeat (first | (with_reducible first | exact HB.out | apply kF | apply kB | apply kG | refine kA ?_ GE165.out | refine kA ?_ GE166.out | refine kA ?_ GE167.out) | exact HB.out)) hb); clear HO_5; clear BK165; clear BK166; clear BK167; clear HB; have HO_5 := n0_; have BK165 := n1_; have BK166 := n2_; have BK167 := n3_; have HB := n4_; clear n0_ n1_ n2_ n3_ n4_; (try clear hb); (try clear hb2); (try clear hk); (try clear hi); have hcz42_0 : w41.cell? ⟨gb167, 0, none⟩ = some (.bool false) := (kH BK167.out 0).trans rfl; have hcz42_1 : w41.cell? ⟨gb167, 1, none⟩ = some (.slice none 0 0) := (kH BK167.out 1).trans rfl; have hfz42_0 := kJ BK167.out 0; have hfz42_1 := kJ BK167.out 1)); try go_wp2_with (first | (go_at_call 58; (with_reducible refine (computusref01_zero.calls k1 _ _ x5_1 t171 _ ?side1 ?side2 A34.out).mono ?_); (case side1 => repeat (first | exact (Kd.R_reads' HO_5.out).2.2 | (with_reducible refine Kd.C_alloc ?_ _) | (with_reducible refine Kd.C_drewN ?_ _) | (with_reducible refine Kd.C_drew ?_))); (case side2 => exact (Kd.R_reads' HO_5.out).2.1); rintro e w41 ⟨rfl, hb⟩; have n0_ := Aside0.mk (Kd.R_below (by (with_reducible repeat (first | apply Kd.R_alloc | apply Kd.R_drewN | apply Kd.R_drew)); exact HO_5.out) hb); have n1_ := Aside0.mk (kI (g := gb165) (o := .cells #[.bool a0_0, .slice A0_1 l0_1.length c0_1] 60 (0, 0)) (by (with_reducible repeat (first | refine kC ?_ _ | refine kE ?_ | refine kD ?_ _)); exact BK165.out) hb); have n2_ := Aside0.mk (kI (g := gb166) (o := .cells #[.bool a1_0, .slice A1_1 l1_1.length c1_1] 60 (0, 0)) (by (with_reducible repeat (first | refine kC ?_ _ | refine kE ?_ | refine kD ?_ _)); exact BK166.out) hb); have n3_ := Aside0.mk (kI (g := gb167) (o := .cells #[.bool false, .slice none 0 0] 60 (0, 0)) (by (with_reducible repeat (first | refine kC ?_ _ | refine kE ?_ | refine kD ?_ _)); exact BK167.out) hb); have n4_ := Aside0.mk (kL (by repeat (first | (with_reducible first | exact HB.out | apply kF | apply kB | apply kG | refine kA ?_ GE165.out | refine kA ?_ GE166.out | refine kA ?_ GE167.out) | exact HB.out)) hb); clear HO_5; clear BK165; clear BK166; clear BK167; clear HB; have HO_5 := n0_; have BK165 := n1_; have BK166 := n2_; have BK167 := n3_; have HB := n4_; clear n0_ n1_ n2_ n3_ n4_; (try clear hb); (try clear hb2); (try clear hk); (try clear hi); have hcz42_0 : w41.cell? ⟨gb167, 0, none⟩ = some (.bool false) := (kH BK167.out 0).trans rfl; have hcz42_1 : w41.cell? ⟨gb167, 1, none⟩ = some (.slice none 0 0) := (kH BK167.out 1).trans rfl; have hfz42_0 := kJ BK167.out 0; have hfz42_1 := kJ BK167.out 1)))
            refine bodyPost_ret (results_cell_row rfl _ _ gb167 60 #[.bool (!t171), .slice Ao40 x5_1.length co40] (0, 0) _ rfl (by (with_reducible repeat (first | refine kC ?_ _ | refine kE ?_ | refine kD ?_ _)); refine blk_put (cs := #[.bool (!t171), .slice none 0 0]) ?_ 1 _ rfl; (with_reducible repeat (first | refine kC ?_ _ | refine kE ?_ | refine kD ?_ _)); refine blk_put (cs := #[.bool false, .slice none 0 0]) ?_ 0 _ rfl; (with_reducible repeat (first | refine kC ?_ _ | refine kE ?_ | refine kD ?_ _)); exact BK167.out) Try.underlying60 rfl (by kernel_rfl)) rfl ?_
            exact ⟨_, by first | rfl | (simp [errW_none, errW_some] <;> rfl) | (simp [*, errW_none, errW_some] <;> rfl), by (with_reducible repeat (first | apply Kd.R_alloc | apply Kd.R_drewN | apply Kd.R_drew)); exact Kd.R_mono (Kd.R_far (p := ⟨gb167, 1, none⟩) (Kd.R_far (p := ⟨gb167, 0, none⟩) (Kd.R_types HO_5.out BK167.out (by decide)) (fun _ hk => hk.2) (.bool (!t171))) (fun _ hk => hk.2) (.slice Ao40 x5_1.length co40)) (fun _ hk => trivial), by repeat (first | (with_reducible first | exact HB.out | apply kF | apply kB | apply kG | refine kA ?_ GE165.out | refine kA ?_ GE166.out | refine kA ?_ GE167.out) | exact HB.out)⟩
          · rw [if_neg c33] at H
            have c33b0 : (a0_0 != a1_0) = false := by simpa using c33
            (try (have c33b1 : decide (a0_0 = a1_0) = true := by simpa using c33))
            (try (have c33b2 : (a0_0 == a1_0) = true := by simpa using c33))
            clear c33
            simp only [Option.some.injEq, Prod.mk.injEq] at H
            obtain ⟨rfl, rfl⟩ := H
            have hnb43 := NB165_166.out
            have hnc43 := NB166_165.out
            have hnb44 := NB165_167.out
            have hnc44 := NB167_165.out
            have hcz45_0 : wr.cell? ⟨gb165, 0, none⟩ = some (.bool a0_0) := (kH BK165.out 0).trans rfl
            have hcz45_1 : wr.cell? ⟨gb165, 1, none⟩ = some (.slice A0_1 l0_1.length c0_1) := (kH BK165.out 1).trans rfl
            have hfz45_0 := kJ BK165.out 0
            have hfz45_1 := kJ BK165.out 1
            have hnb46 := NB166_167.out
            have hnc46 := NB167_166.out
            have hcz47_0 : wr.cell? ⟨gb166, 0, none⟩ = some (.bool a1_0) := (kH BK166.out 0).trans rfl
            have hcz47_1 : wr.cell? ⟨gb166, 1, none⟩ = some (.slice A1_1 l1_1.length c1_1) := (kH BK166.out 1).trans rfl
            have hfz47_0 := kJ BK166.out 0
            have hfz47_1 := kJ BK166.out 1
            obtain ⟨Ao48, co48, eo48⟩ := Kd.R_slice HO_5.out
            subst eo48
            have hcz49_0 : wr.cell? ⟨gb167, 0, none⟩ = some (.bool false) := (kH BK167.out 0).trans rfl
            have hcz49_1 : wr.cell? ⟨gb167, 1, none⟩ = some (.slice none 0 0) := (kH BK167.out 1).trans rfl
            have hfz49_0 := kJ BK167.out 0
            have hfz49_1 := kJ BK167.out 1
            go_wp2
            repeat (go_quiet (fail); try go_wp2)
            refine bodyPost_ret (results_cell_row rfl _ _ gb167 60 #[.bool false, .slice Ao48 x5_1.length co48] (0, 0) _ rfl (by (with_reducible repeat (first | refine kC ?_ _ | refine kE ?_ | refine kD ?_ _)); refine blk_put (cs := #[.bool false, .slice none 0 0]) ?_ 1 _ rfl; (with_reducible repeat (first | refine kC ?_ _ | refine kE ?_ | refine kD ?_ _)); refine blk_put (cs := #[.bool false, .slice none 0 0]) ?_ 0 _ rfl; (with_reducible repeat (first | refine kC ?_ _ | refine kE ?_ | refine kD ?_ _)); exact BK167.out) Try.underlying60 rfl (by kernel_rfl)) rfl ?_
            exact ⟨_, by first | rfl | (simp [errW_none, errW_some] <;> rfl) | (simp [*, errW_none, errW_some] <;> rfl), by (with_reducible repeat (first | apply Kd.R_alloc | apply Kd.R_drewN | apply Kd.R_drew)); exact Kd.R_mono (Kd.R_far (p := ⟨gb167, 1, none⟩) (Kd.R_far (p := ⟨gb167, 0, none⟩) (Kd.R_types HO_5.out BK167.out (by decide)) (fun _ hk => hk.2) (.bool false)) (fun _ hk => hk.2) (.slice Ao48 x5_1.length co48)) (fun _ hk => trivial), by repeat (first | (with_reducible first | exact HB.out | apply kF | apply kB | apply kG | refine kA ?_ GE165.out | refine kA ?_ GE166.out | refine kA ?_ GE167.out) | exact HB.out)⟩
  · rw [if_neg c3] at H
    exact absurd H (by simp)
end Go.Proofs.Ytkongoedgngfhaa.P
namespace Go.Proofs.Ytkongoedgngfhaa.P
open Go.RowKit Go.Proofs.YtkongoedgngfhaaW.PrintWords Go.Proofs.YtkongoedgngfhaaW.PrintLast Go.Proofs.YtkongoedgngfhaaW.PrintMore
attribute [local go_sem] max2_int min2_int max_two min_two max_three min_three max_four min_four   -- for this text's walks alone
set_option linter.unusedVariables false
set_option linter.unusedSimpArgs false
mutual
def computusref01_Small.l0 : Nat → Int → Bool → List Int → Option (Int × Int)
  | 0, _, _, _ => none
  | k + 1, x4, x185000, x185001 => if x4 < 6 then (if 0 ≤ x4 then (if x4 < (x185001.length : Int) then (if (rd x185001 x4) = 0 then (computusref01_Small.l0 k (wrap64 (x4 + 1)) x185000 x185001) else (some (0, 10))) else (none)) else (none)) else (if 1 < (x185001.length : Int) then (if 0 < (x185001.length : Int) then (if x185000 = true then (computusref01_Small.j1 k (Go.bits .or .u64 (IntKind.u64.wrap ((rd x185001 1) * 4294967296)) (rd x185001 0)) (decide ((Go.bits .or .u64 (IntKind.u64.wrap ((rd x185001 1) * 4294967296)) (rd x185001 0)) ≤ 9223372036854775808)) x185000 x185001) else (computusref01_Small.j1 k (Go.bits .or .u64 (IntKind.u64.wrap ((rd x185001 1) * 4294967296)) (rd x185001 0)) false x185000 x185001)) else (none)) else (none))
def computusref01_Small.j1 : Nat → Int → Bool → Bool → List Int → Option (Int × Int)
  | 0, _, _, _, _ => none
  | k + 1, x5, x31, x185000, x185001 => if x31 = true then (some (wrap64 (IntKind.u64.wrap (-x5)), 0)) else (if x185000 = true then (some (0, 10)) else (if x5 ≥ 9223372036854775808 then (some (0, 10)) else (some (wrap64 (x5), 0))))
end
def computusref01_Small.f (k : Nat) (a0_0 : Bool) (l0_1 : List Int) : Option (Int × Int) := computusref01_Small.l0 k 2 a0_0 l0_1
theorem computusref01_Small.mono_l : ∀ k, (∀ y0 y1 y2, LeO (computusref01_Small.l0 k y0 y1 y2) (computusref01_Small.l0 (k + 1) y0 y1 y2)) ∧ (∀ y0 y1 y2 y3, LeO (computusref01_Small.j1 k y0 y1 y2 y3) (computusref01_Small.j1 (k + 1) y0 y1 y2 y3))
  | 0 => ⟨fun _ _ _ r h => by simp [computusref01_Small.l0] at h, fun _ _ _ _ r h => by simp [computusref01_Small.j1] at h⟩
  | k + 1 => by
    obtain ⟨ih0, ih1⟩ := computusref01_Small.mono_l k
    refine ⟨?_, ?_⟩
    · intro y0 y1 y2
      unfold computusref01_Small.l0
      repeat' first
      | (with_reducible exact ih0 _ _ _)
      | (with_reducible exact ih1 _ _ _ _)
      | (with_reducible exact LeO.refl _)
      | (with_reducible exact LeO.none _)
      | (with_reducible refine LeO.ite ?_ ?_)
      | (with_reducible refine LeO.bind ?_ (fun _ => ?_))
      | exact ih0 _ _ _
      | exact ih1 _ _ _ _
      | exact LeO.none _
      | refine LeO.ite ?_ ?_
      | refine LeO.bind ?_ (fun _ => ?_)
    · intro y0 y1 y2 y3
      unfold computusref01_Small.j1
      repeat' first
      | (with_reducible exact ih0 _ _ _)
      | (with_reducible exact ih1 _ _ _ _)
      | (with_reducible exact LeO.refl _)
      | (with_reducible exact LeO.none _)
      | (with_reducible refine LeO.ite ?_ ?_)
      | (with_reducible refine LeO.bind ?_ (fun _ => ?_))
      | exact ih0 _ _ _
      | exact ih1 _ _ _ _
      | exact LeO.none _
      | refine LeO.ite ?_ ?_
      | refine LeO.bind ?_ (fun _ => ?_)
theorem computusref01_Small.mono : ∀ a0 a1 k, LeO (computusref01_Small.f k a0 a1) (computusref01_Small.f (k + 1) a0 a1) := by
  intro a0 a1 k
  obtain ⟨ih0, ih1⟩ := computusref01_Small.mono_l k
  unfold computusref01_Small.f
  repeat' first
      | (with_reducible exact ih0 _ _ _)
      | (with_reducible exact ih1 _ _ _ _)
      | (with_reducible exact LeO.refl _)
      | (with_reducible exact LeO.none _)
      | (with_reducible refine LeO.ite ?_ ?_)
      | (with_reducible refine LeO.bind ?_ (fun _ => ?_))
      | exact ih0 _ _ _
      | exact ih1 _ _ _ _
      | exact LeO.none _
      | refine LeO.ite ?_ ?_
      | refine LeO.bind ?_ (fun _ => ?_)
set_option maxHeartbeats 8000000 in
set_option maxRecDepth 100000 in
theorem computusref01_Small.calls (k : Nat) (a0_0 : Bool) (A0_1 : Option Addr) (c0_1 : Nat) (l0_1 : List Int) (r1 : Int) (r2 : Int) (w : World) (hr0_1 : Kd.C (Kd.int .u64) w A0_1 l0_1.length l0_1) (hc0_1 : l0_1.length ≤ c0_1) (h : computusref01_Small.f k a0_0 l0_1 = some (r1, r2)) :
    Calls Try.prog 40 #[.agg #[.bool a0_0, .slice A0_1 l0_1.length c0_1]] w fun e w' => e = .returned (.tuple #[.int .i64 r1, .int .i64 r2]) ∧ Below w.heap.size w w' := by
  have hu60 := Try.underlying60
  have HR0_1 := Aside0.mk hr0_1
  have HC0_1 := Aside0.mk hc0_1
  clear hr0_1 hc0_1
  have HB := Aside0.mk (Below.refl w.heap.size w)
  have H : (computusref01_Small.l0 k 2 a0_0 l0_1) = some (r1, r2) := h
  clear h
  have H' := Aside0.mk H
  clear H
  go_enter Try.func40, Try.ntmps40
  go_wp2_with (first | ((with_reducible refine gate_dst (N := 1) rfl ?_); refine box_event ?hg (N := 1) ?hd (cs := #[.bool a0_0, .slice A0_1 l0_1.length c0_1]) (t := 60) ?hr ?_; (case hd => rfl); (case hg => rfl); (case hr => first | (go_simp; done) | (go_simp; rfl)); intro gb184 hg w2 hbox hb; have n0_ := Aside0.mk (kL (by repeat (first | (with_reducible first | exact HB.out | apply kF | apply kB | apply kG) | exact HB.out)) hb); have n1_ := Aside0.mk (hbox); have n2_ := Aside0.mk ((by rw [hg]; exact (kK (by repeat (first | (with_reducible first | exact HB.out | apply kF | apply kB | apply kG) | exact HB.out))) : w.heap.size ≤ gb184)); have n3_ := Aside0.mk ((by rw [hg]; exact (kK (by repeat (first | (with_reducible first | exact HB.out | apply kF | apply kB | apply kG) | exact HB.out))) : w.heap.size ≤ gb184)); clear HB; have HB := n0_; have BK184 := n1_; have GW184 := n2_; have GE184 := n3_; clear n0_ n1_ n2_ n3_; clear hb hbox hg))
  repeat (go_quiet (first | ((with_reducible refine gate_dst (N := 1) rfl ?_); refine box_event ?hg (N := 1) ?hd (cs := #[.bool a0_0, .slice A0_1 l0_1.length c0_1]) (t := 60) ?hr ?_; (case hd => rfl); (case hg => rfl); (case hr => first | (go_simp; done) | (go_simp; rfl)); intro gb184 hg w2 hbox hb; have n0_ := Aside0.mk (kL (by repeat (first | (with_reducible first | exact HB.out | apply kF | apply kB | apply kG) | exact HB.out)) hb); have n1_ := Aside0.mk (hbox); have n2_ := Aside0.mk ((by rw [hg]; exact (kK (by repeat (first | (with_reducible first | exact HB.out | apply kF | apply kB | apply kG) | exact HB.out))) : w.heap.size ≤ gb184)); have n3_ := Aside0.mk ((by rw [hg]; exact (kK (by repeat (first | (with_reducible first | exact HB.out | apply kF | apply kB | apply kG) | exact HB.out))) : w.heap.size ≤ gb184)); clear HB; have HB := n0_; have BK184 := n1_; have GW184 := n2_; have GE184 := n3_; clear n0_ n1_ n2_ n3_; clear hb hbox hg)); try go_wp2_with (first | ((with_reducible refine gate_dst (N := 1) rfl ?_); refine box_event ?hg (N := 1) ?hd (cs := #[.bool a0_0, .slice A0_1 l0_1.length c0_1]) (t := 60) ?hr ?_; (case hd => rfl); (case hg => rfl); (case hr => first | (go_simp; done) | (go_simp; rfl)); intro gb184 hg w2 hbox hb; have n0_ := Aside0.mk (kL (by repeat (first | (with_reducible first | exact HB.out | apply kF | apply kB | apply kG) | exact HB.out)) hb); have n1_ := Aside0.mk (hbox); have n2_ := Aside0.mk ((by rw [hg]; exact (kK (by repeat (first | (with_reducible first | exact HB.out | apply kF | apply kB | apply kG) | exact HB.out))) : w.heap.size ≤ gb184)); have n3_ := Aside0.mk ((by rw [hg]; exact (kK (by repeat (first | (with_reducible first | exact HB.out | apply kF | apply kB | apply kG) | exact HB.out))) : w.heap.size ≤ gb184)); clear HB; have HB := n0_; have BK184 := n1_; have GW184 := n2_; have GE184 := n3_; clear n0_ n1_ n2_ n3_; clear hb hbox hg)))
  go_loopg [4] k (fun kq v4 w' => ∃ (x4_1 : Int), v4 = .int .i64 x4_1 ∧ Aside0 (computusref01_Small.l0 kq x4_1 a0_0 l0_1 = some (r1, r2)) ∧ Aside0 (kq ≤ k) ∧ Aside0 (w'.heap[gb184]? = some (.cells #[.bool a0_0, (.slice A0_1 l0_1.length c0_1)] 60 (0, 0))) ∧ Aside0 (Below w.heap.size w w'))
  case atStart => exact ⟨(2), (by first | rfl | (simp; done) | (simp [*]; done)), H', ⟨Nat.le_refl _⟩, ⟨by (with_reducible repeat (first | refine kC ?_ _ | refine kE ?_ | refine kD ?_ _)); exact BK184.out⟩, ⟨by repeat (first | (with_reducible first | exact HB.out | apply kF | apply kB | apply kG | refine kA ?_ GE184.out) | exact HB.out)⟩⟩
  case round =>
    clear H'
    try clear p2
    obtain ⟨x4_1, rfl, HA, HK1, BK184, HB⟩ := hrel
    cases gk with
    | zero => exact absurd HA.out (by simp [computusref01_Small.l0])
    | succ k1 =>
      have H := HA.out
      clear HA
      simp only [computusref01_Small.l0] at H
      by_cases c3 : x4_1 < 6
      · rw [if_pos c3] at H
        have c3b0 : decide (x4_1 < 6) = true := decide_eq_true c3
        clear c3
        by_cases c4 : 0 ≤ x4_1
        · rw [if_pos c4] at H
          have c4b0 : decide (0 ≤ x4_1) = true := decide_eq_true c4
          clear c4
          by_cases c5 : x4_1 < (l0_1.length : Int)
          · rw [if_pos c5] at H
            have c5b0 : decide (x4_1 < (l0_1.length : Int)) = true := decide_eq_true c5
            clear c5
            by_cases c6 : (rd l0_1 x4_1) = 0
            · rw [if_pos c6] at H
              have c6b0 : ((rd l0_1 x4_1) == 0) = true := beq_iff_eq.mpr c6
              have c6b1 : ((rd l0_1 x4_1) != 0) = false := bne_eq_false_iff_eq.mpr c6
              clear c6
              have H' := Aside0.mk H
              clear H
              have hcz7_0 : wr.cell? ⟨gb184, 0, none⟩ = some (.bool a0_0) := (kH BK184.out 0).trans rfl
              have hcz7_1 : wr.cell? ⟨gb184, 1, none⟩ = some (.slice A0_1 l0_1.length c0_1) := (kH BK184.out 1).trans rfl
              have hfz7_0 := kJ BK184.out 0
              have hfz7_1 := kJ BK184.out 1
              have p185 : 0 ≤ (x4_1 : Int) := of_decide_eq_true (by first | (with_reducible assumption) | assumption)
              have q185 : x4_1 < (l0_1.length : Int) := of_decide_eq_true (by first | (with_reducible assumption) | assumption)
              obtain ⟨ad185, e185, hx185_0⟩ := Kd.at_int HR0_1.out x4_1 p185 q185
              cases e185
              replace hx185_0 := (HB.out.cell (World.block_lt_of_cell? w _ hx185_0)).trans hx185_0
              replace p185 := eq_true p185
              replace q185 := eq_true q185
              go_wp2
              repeat (go_quiet (fail); try go_wp2)
              go_roundg k1
              case measure => have := HK1.out; omega
              case rel => exact ⟨(wrap64 (x4_1 + 1)), (by first | rfl | (simp; done) | (simp [*]; done)), H', ⟨by have := HK1.out; omega⟩, ⟨by (with_reducible repeat (first | refine kC ?_ _ | refine kE ?_ | refine kD ?_ _)); exact BK184.out⟩, ⟨by repeat (first | (with_reducible first | exact HB.out | apply kF | apply kB | apply kG | refine kA ?_ GE184.out) | exact HB.out)⟩⟩
            · rw [if_neg c6] at H
              have c6b0 : ((rd l0_1 x4_1) == 0) = false := beq_eq_false_iff_ne.mpr c6
              have c6b1 : ((rd l0_1 x4_1) != 0) = true := bne_iff_ne.mpr c6
              simp only [Option.some.injEq, Prod.mk.injEq] at H
              obtain ⟨rfl, rfl⟩ := H
              have hcz8_0 : wr.cell? ⟨gb184, 0, none⟩ = some (.bool a0_0) := (kH BK184.out 0).trans rfl
              have hcz8_1 : wr.cell? ⟨gb184, 1, none⟩ = some (.slice A0_1 l0_1.length c0_1) := (kH BK184.out 1).trans rfl
              have hfz8_0 := kJ BK184.out 0
              have hfz8_1 := kJ BK184.out 1
              have p185 : 0 ≤ (x4_1 : Int) := of_decide_eq_true (by first | (with_reducible assumption) | assumption)
              have q185 : x4_1 < (l0_1.length : Int) := of_decide_eq_true (by first | (with_reducible assumption) | assumption)
              obtain ⟨ad185, e185, hx185_0⟩ := Kd.at_int HR0_1.out x4_1 p185 q185
              cases e185
              replace hx185_0 := (HB.out.cell (World.block_lt_of_cell? w _ hx185_0)).trans hx185_0
              replace p185 := eq_true p185
              replace q185 := eq_true q185
              go_wp2
              repeat (go_quiet (fail); try go_wp2)
              go_ret2
              exact ⟨by first | rfl | (simp [errW_none, errW_some] <;> rfl) | (simp [*, errW_none, errW_some] <;> rfl), by repeat (first | (with_reducible first | exact HB.out | apply kF | apply kB | apply kG | refine kA ?_ GE184.out) | exact HB.out)⟩
          · rw [if_neg c5] at H
            exact absurd H (by simp)
        · rw [if_neg c4] at H
          exact absurd H (by simp)
      · rw [if_neg c3] at H
        have c3b0 : decide (x4_1 < 6) = false := decide_eq_false c3
        clear c3
        by_cases c9 : 1 < (l0_1.length : Int)
        · rw [if_pos c9] at H
          have c9b0 : decide (1 < (l0_1.length : Int)) = true := decide_eq_true c9
          have c9b1 : decide (1 < l0_1.length) = true := decide_eq_true (by omega)
          clear c9
          by_cases c10 : 0 < (l0_1.length : Int)
          · rw [if_pos c10] at H
            have c10b0 : decide (0 < (l0_1.length : Int)) = true := decide_eq_true c10
            have c10b1 : decide (0 < l0_1.length) = true := decide_eq_true (by omega)
            clear c10
            have HC11 := Aside0.mk H
            clear H
            have hcz12_0 : wr.cell? ⟨gb184, 0, none⟩ = some (.bool a0_0) := (kH BK184.out 0).trans rfl
            have hcz12_1 : wr.cell? ⟨gb184, 1, none⟩ = some (.slice A0_1 l0_1.length c0_1) := (kH BK184.out 1).trans rfl
            have hfz12_0 := kJ BK184.out 0
            have hfz12_1 := kJ BK184.out 1
            have p186 : 0 ≤ (1 : Int) := (by omega)
            have q186 : 1 < (l0_1.length : Int) := of_decide_eq_true (by first | (with_reducible assumption) | assumption)
            obtain ⟨ad186, e186, hx186_0⟩ := Kd.at_int HR0_1.out 1 p186 q186
            cases e186
            (try simp only [show (1 : Int).toNat = 1 from rfl, Nat.reduceMul, Nat.reduceEqDiff, Go.Addr.add, ↓reduceIte] at hx186_0)
            have qi186 : (1 < l0_1.length) = True := eq_true (by omega)
            (try rw [show ((1 : Int)).toNat = 1 from rfl] at hx186_0)
            replace hx186_0 := (HB.out.cell (World.block_lt_of_cell? w _ hx186_0)).trans hx186_0
            replace p186 := eq_true p186
            replace q186 := eq_true q186
            have p187 : 0 ≤ (0 : Int) := (by omega)
            have q187 : 0 < (l0_1.length : Int) := of_decide_eq_true (by first | (with_reducible assumption) | assumption)
            obtain ⟨ad187, e187, hx187_0⟩ := Kd.at_int HR0_1.out 0 p187 q187
            obtain rfl : ad186 = ad187 := (by injection e187)
            have qi187 : (0 < l0_1.length) = True := eq_true (by omega)
            (try rw [show ((0 : Int)).toNat = 0 from rfl] at hx187_0)
            (try rw [Addr.add_zero'] at hx187_0)
            replace hx187_0 := (HB.out.cell (World.block_lt_of_cell? w _ hx187_0)).trans hx187_0
            replace p187 := eq_true p187
            replace q187 := eq_true q187
            go_upto_region 7 with (fail)
            repeat (go_quiet (fail); go_upto_region 7 with (fail))
            go_cut [31] (fun v31 wc => ∃ (kq : Nat) (x31_10 : Bool), v31 = .bool x31_10 ∧ Aside0 (computusref01_Small.j1 kq (Go.bits .or .u64 (IntKind.u64.wrap ((rd l0_1 1) * 4294967296)) (rd l0_1 0)) x31_10 a0_0 l0_1 = some (r1, r2)) ∧ Aside0 (kq ≤ k1) ∧ Aside0 (wc.heap[gb184]? = some (.cells #[.bool a0_0, (.slice (some ad186) l0_1.length c0_1)] 60 (0, 0))) ∧ Aside0 (Below w.heap.size w wc))
            case first =>
              have H := HC11.out
              clear HC11
              by_cases c13 : a0_0 = true
              · subst c13
                have H1 : (computusref01_Small.j1 k1 (Go.bits .or .u64 (IntKind.u64.wrap ((rd l0_1 1) * 4294967296)) (rd l0_1 0)) (decide ((Go.bits .or .u64 (IntKind.u64.wrap ((rd l0_1 1) * 4294967296)) (rd l0_1 0)) ≤ 9223372036854775808)) true l0_1) = some (r1, r2) := by rw [if_pos rfl] at H; exact H
                clear H
                have H := H1
                clear H1
                have H' := Aside0.mk H
                clear H
                have hcz14_0 : wr.cell? ⟨gb184, 0, none⟩ = some (.bool true) := (kH BK184.out 0).trans rfl
                have hcz14_1 : wr.cell? ⟨gb184, 1, none⟩ = some (.slice (some ad186) l0_1.length c0_1) := (kH BK184.out 1).trans rfl
                have hfz14_0 := kJ BK184.out 0
                have hfz14_1 := kJ BK184.out 1
                go_wp2
                repeat (go_quiet (fail); try go_wp2)
                go_meet
                case rel => exact ⟨_, (decide ((Go.bits .or .u64 (IntKind.u64.wrap ((rd l0_1 1) * 4294967296)) (rd l0_1 0)) ≤ 9223372036854775808)), (by first | rfl | (simp; done) | (simp [*]; done)), H', ⟨by have := HK1.out; first | omega | exact Nat.le_refl _⟩, ⟨by (with_reducible repeat (first | refine kC ?_ _ | refine kE ?_ | refine kD ?_ _)); exact BK184.out⟩, ⟨by repeat (first | (with_reducible first | exact HB.out | apply kF | apply kB | apply kG | refine kA ?_ GE184.out) | exact HB.out)⟩⟩
              · replace c13 := Bool.eq_false_iff.mpr c13
                subst c13
                have H1 : (computusref01_Small.j1 k1 (Go.bits .or .u64 (IntKind.u64.wrap ((rd l0_1 1) * 4294967296)) (rd l0_1 0)) false false l0_1) = some (r1, r2) := by rw [if_neg (show ¬ (false = true) by decide)] at H; exact H
                clear H
                have H := H1
                clear H1
                have H' := Aside0.mk H
                clear H
                have hcz15_0 : wr.cell? ⟨gb184, 0, none⟩ = some (.bool false) := (kH BK184.out 0).trans rfl
                have hcz15_1 : wr.cell? ⟨gb184, 1, none⟩ = some (.slice (some ad186) l0_1.length c0_1) := (kH BK184.out 1).trans rfl
                have hfz15_0 := kJ BK184.out 0
                have hfz15_1 := kJ BK184.out 1
                go_wp2
                repeat (go_quiet (fail); try go_wp2)
                go_meet
                case rel => exact ⟨_, (false), (by first | rfl | (simp; done) | (simp [*]; done)), H', ⟨by have := HK1.out; first | omega | exact Nat.le_refl _⟩, ⟨by (with_reducible repeat (first | refine kC ?_ _ | refine kE ?_ | refine kD ?_ _)); exact BK184.out⟩, ⟨by repeat (first | (with_reducible first | exact HB.out | apply kF | apply kB | apply kG | refine kA ?_ GE184.out) | exact HB.out)⟩⟩
            case rest =>
              clear HC11
              try clear c1
              try clear p1
              try clear q1
              try clear hx1
              try clear qi1
              try clear p2
              try clear c3
              try clear c3b0
              try clear c4
              try clear c4b0
              try clear c5
              try clear c5b0
              try clear c6
              try clear c6b0
              try clear c6b1
              try clear p6
              try clear c9
              try clear c9b0
              try clear c9b1
              try clear c10
              try clear c10b0
              try clear c10b1
              try clear c13
              try clear hcz12_0
              try clear hcz12_1
              try clear hcz14_0
              try clear hcz14_1
              try clear hcz15_0
              try clear hcz15_1
              try clear hcz7_0
              try clear hcz7_1
              try clear hcz8_0
              try clear hcz8_1
              try clear hfz12_0
              try clear hfz12_1
              try clear hfz14_0
              try clear hfz14_1
              try clear hfz15_0
              try clear hfz15_1
              try clear hfz7_0
              try clear hfz7_1
              try clear hfz8_0
              try clear hfz8_1
              try clear hx185_0
              try clear hx186_0
              try clear hx187_0
              try clear p185
              try clear p186
              try clear p187
              try clear p2
              try clear q185
              try clear q186
              try clear q187
              obtain ⟨kq, x31_10, rfl, HA, HJ10, BK184, HB⟩ := hcut
              cases kq with
              | zero => exact absurd HA.out (by simp [computusref01_Small.j1])
              | succ kj10 =>
                have H := HA.out
                clear HA
                simp only [computusref01_Small.j1] at H
                by_cases c16 : x31_10 = true
                · subst c16
                  have H1 : (some (wrap64 (IntKind.u64.wrap (-(Go.bits .or .u64 (IntKind.u64.wrap ((rd l0_1 1) * 4294967296)) (rd l0_1 0)))), 0)) = some (r1, r2) := by rw [if_pos rfl] at H; exact H
                  clear H
                  have H := H1
                  clear H1
                  simp only [Option.some.injEq, Prod.mk.injEq] at H
                  obtain ⟨rfl, rfl⟩ := H
                  go_wp2
                  repeat (go_quiet (fail); try go_wp2)
                  go_ret2
                  exact ⟨by first | rfl | (simp [errW_none, errW_some] <;> rfl) | (simp [*, errW_none, errW_some] <;> rfl), by repeat (first | (with_reducible first | exact HB.out | apply kF | apply kB | apply kG | refine kA ?_ GE184.out) | exact HB.out)⟩
                · replace c16 := Bool.eq_false_iff.mpr c16
                  subst c16
                  have H1 : (if a0_0 = true then (some (0, 10)) else (if (Go.bits .or .u64 (IntKind.u64.wrap ((rd l0_1 1) * 4294967296)) (rd l0_1 0)) ≥ 9223372036854775808 then (some (0, 10)) else (some (wrap64 ((Go.bits .or .u64 (IntKind.u64.wrap ((rd l0_1 1) * 4294967296)) (rd l0_1 0))), 0)))) = some (r1, r2) := by rw [if_neg (show ¬ (false = true) by decide)] at H; exact H
                  clear H
                  have H := H1
                  clear H1
                  by_cases c17 : a0_0 = true
                  · subst c17
                    have H1 : (some (0, 10)) = some (r1, r2) := by rw [if_pos rfl] at H; exact H
                    clear H
                    have H := H1
                    clear H1
                    simp only [Option.some.injEq, Prod.mk.injEq] at H
                    obtain ⟨rfl, rfl⟩ := H
                    have hcz18_0 : wc.cell? ⟨gb184, 0, none⟩ = some (.bool true) := (kH BK184.out 0).trans rfl
                    have hcz18_1 : wc.cell? ⟨gb184, 1, none⟩ = some (.slice (some ad186) l0_1.length c0_1) := (kH BK184.out 1).trans rfl
                    have hfz18_0 := kJ BK184.out 0
                    have hfz18_1 := kJ BK184.out 1
                    go_wp2
                    repeat (go_quiet (fail); try go_wp2)
                    go_ret2
                    exact ⟨by first | rfl | (simp [errW_none, errW_some] <;> rfl) | (simp [*, errW_none, errW_some] <;> rfl), by repeat (first | (with_reducible first | exact HB.out | apply kF | apply kB | apply kG | refine kA ?_ GE184.out) | exact HB.out)⟩
                  · replace c17 := Bool.eq_false_iff.mpr c17
                    subst c17
                    have H1 : (if (Go.bits .or .u64 (IntKind.u64.wrap ((rd l0_1 1) * 4294967296)) (rd l0_1 0)) ≥ 9223372036854775808 then (some (0, 10)) else (some (wrap64 ((Go.bits .or .u64 (IntKind.u64.wrap ((rd l0_1 1) * 4294967296)) (rd l0_1 0))), 0))) = some (r1, r2) := by rw [if_neg (show ¬ (false = true) by decide)] at H; exact H
                    clear H
                    have H := H1
                    clear H1
                    by_cases c19 : (Go.bits .or .u64 (IntKind.u64.wrap ((rd l0_1 1) * 4294967296)) (rd l0_1 0)) ≥ 9223372036854775808
                    · rw [if_pos c19] at H
                      have c19b0 : decide (9223372036854775808 ≤ (Go.bits .or .u64 (IntKind.u64.wrap ((rd l0_1 1) * 4294967296)) (rd l0_1 0))) = true := decide_eq_true c19
                      clear c19
                      simp only [Option.some.injEq, Prod.mk.injEq] at H
                      obtain ⟨rfl, rfl⟩ := H
                      have hcz20_0 : wc.cell? ⟨gb184, 0, none⟩ = some (.bool false) := (kH BK184.out 0).trans rfl
                      have hcz20_1 : wc.cell? ⟨gb184, 1, none⟩ = some (.slice (some ad186) l0_1.length c0_1) := (kH BK184.out 1).trans rfl
                      have hfz20_0 := kJ BK184.out 0
                      have hfz20_1 := kJ BK184.out 1
                      go_wp2
                      repeat (go_quiet (fail); try go_wp2)
                      go_ret2
                      exact ⟨by first | rfl | (simp [errW_none, errW_some] <;> rfl) | (simp [*, errW_none, errW_some] <;> rfl), by repeat (first | (with_reducible first | exact HB.out | apply kF | apply kB | apply kG | refine kA ?_ GE184.out) | exact HB.out)⟩
                    · rw [if_neg c19] at H
                      have c19b0 : decide (9223372036854775808 ≤ (Go.bits .or .u64 (IntKind.u64.wrap ((rd l0_1 1) * 4294967296)) (rd l0_1 0))) = false := decide_eq_false c19
                      clear c19
                      simp only [Option.some.injEq, Prod.mk.injEq] at H
                      obtain ⟨rfl, rfl⟩ := H
                      have hcz21_0 : wc.cell? ⟨gb184, 0, none⟩ = some (.bool false) := (kH BK184.out 0).trans rfl
                      have hcz21_1 : wc.cell? ⟨gb184, 1, none⟩ = some (.slice (some ad186) l0_1.length c0_1) := (kH BK184.out 1).trans rfl
                      have hfz21_0 := kJ BK184.out 0
                      have hfz21_1 := kJ BK184.out 1
                      go_wp2
                      repeat (go_quiet (fail); try go_wp2)
                      go_ret2
                      exact ⟨by first | rfl | (simp [errW_none, errW_some] <;> rfl) | (simp [*, errW_none, errW_some] <;> rfl), by repeat (first | (with_reducible first | exact HB.out | apply kF | apply kB | apply kG | refine kA ?_ GE184.out) | exact HB.out)⟩
          · rw [if_neg c10] at H
            exact absurd H (by simp)
        · rw [if_neg c9] at H
          exact absurd H (by simp)
end Go.Proofs.Ytkongoedgngfhaa.P
