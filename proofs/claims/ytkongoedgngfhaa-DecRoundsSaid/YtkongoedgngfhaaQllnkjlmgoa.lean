-- Written by a program of the session (a print of the seat's translation, functions given by hand among it). Lean checks it.
import Derived.Test.YtkongoedgngfhaaQfkleinmccf
import Derived.Test.YtkongoedgngfhaaQhijcfepdca
import Derived.Test.YtkongoedgngfhaaQcfpbadapkf
namespace Go.Proofs.Ytkongoedgngfhaa.P
open Go.RowKit Go.Proofs.YtkongoedgngfhaaW.PrintWords Go.Proofs.YtkongoedgngfhaaW.PrintLast Go.Proofs.YtkongoedgngfhaaW.PrintMore
attribute [local go_sem] max2_int min2_int max_two min_two max_three min_three max_four min_four   -- for this text's walks alone
set_option linter.unusedVariables false
set_option linter.unusedSimpArgs false
mutual
def computusref01_Times.l0 : Nat → List Int → Int → Bool → List Int → Bool → List Int → Option (Bool × List Int)
  | 0, _, _, _, _, _, _ => none
  | k + 1, x5, x6, x166000, x166001, x167000, x167001 => if x6 < 2 then (if 6 ≤ 35184372088832 then (computusref01_Times.l1 k x5 x6 (List.replicate 6 0) 0 0 x166000 x166001 x167000 x167001) else (none)) else (if (x166000 != x167000) = true then ((computusref01_zero.f k x5).bind fun t171 => (some (!t171, x5))) else (some (false, x5)))
def computusref01_Times.l1 : Nat → List Int → Int → List Int → Int → Int → Bool → List Int → Bool → List Int → Option (Bool × List Int)
  | 0, _, _, _, _, _, _, _, _, _ => none
  | k + 1, x5, x6, x7, x8, x9, x166000, x166001, x167000, x167001 => if x9 < 3 then (if 0 ≤ x6 then (if x6 < (x166001.length : Int) then (if 0 ≤ x9 then (if x9 < (x167001.length : Int) then (if 0 ≤ (wrap64 (x6 + x9)) then (if (wrap64 (x6 + x9)) < (x7.length : Int) then (computusref01_Times.l1 k x5 x6 (x7.set ((wrap64 (x6 + x9)) : Int).toNat (Go.bits .and .u64 (IntKind.u64.wrap (x8 + (IntKind.u64.wrap ((rd x166001 x6) * (rd x167001 x9))))) 4294967295)) ((IntKind.u64.wrap (x8 + (IntKind.u64.wrap ((rd x166001 x6) * (rd x167001 x9))))) / 4294967296) (wrap64 (x9 + 1)) x166000 x166001 x167000 x167001) else (none)) else (none)) else (none)) else (none)) else (none)) else (none)) else ((computusref01_add.f k x5 x7).bind fun t178 => (computusref01_Times.l0 k t178 (wrap64 (x6 + 1)) x166000 x166001 x167000 x167001))
end
def computusref01_Times.f (k : Nat) (a0_0 : Bool) (l0_1 : List Int) (a1_0 : Bool) (l1_1 : List Int) : Option (Bool × List Int) := if 6 ≤ 35184372088832 then (computusref01_Times.l0 k (List.replicate 6 0) 0 a0_0 l0_1 a1_0 l1_1) else (none)
set_option maxHeartbeats 8000000 in
set_option maxRecDepth 100000 in
theorem computusref01_Times.calls (k : Nat) (a0_0 : Bool) (A0_1 : Option Addr) (c0_1 : Nat) (l0_1 : List Int) (a1_0 : Bool) (A1_1 : Option Addr) (c1_1 : Nat) (l1_1 : List Int) (r1 : Bool) (r2 : List Int) (w : World) (hr0_1 : Kd.C (Kd.int .u64) w A0_1 l0_1.length l0_1) (hc0_1 : l0_1.length ≤ c0_1) (hr1_1 : Kd.C (Kd.int .u64) w A1_1 l1_1.length l1_1) (hc1_1 : l1_1.length ≤ c1_1) (h : computusref01_Times.f k a0_0 l0_1 a1_0 l1_1 = some (r1, r2)) :
    Calls Try.prog 38 #[.agg #[.bool a0_0, .slice A0_1 l0_1.length c0_1], .agg #[.bool a1_0, .slice A1_1 l1_1.length c1_1]] w fun e w' => ∃ v1_ : Value, e = .returned (.agg #[.bool r1, v1_]) ∧ Kd.R (Kd.int .u64) 52 w' w.heap.size (fun _ => True) v1_ r2 ∧ Below w.heap.size w w' := by
  have hu60 := Try.underlying60
  have HR0_1 := Aside0.mk hr0_1
  have HC0_1 := Aside0.mk hc0_1
  clear hr0_1 hc0_1
  have HR1_1 := Aside0.mk hr1_1
  have HC1_1 := Aside0.mk hc1_1
  clear hr1_1 hc1_1
  have HB := Aside0.mk (Below.refl w.heap.size w)
  have H : (if 6 ≤ 35184372088832 then (computusref01_Times.l0 k (List.replicate 6 0) 0 a0_0 l0_1 a1_0 l1_1) else (none)) = some (r1, r2) := h
  clear h
  by_cases c3 : 6 ≤ 35184372088832
  · rw [if_pos c3] at H
    have c3b0 := eq_true c3
    have c3b1 : decide (6 ≤ 35184372088832) = true := decide_eq_true c3
    clear c3
    obtain ⟨y168, hy168⟩ : ∃ y_ : List Int, y_ = (List.replicate 6 0) := ⟨_, rfl⟩
    replace H : (computusref01_Times.l0 k y168 0 a0_0 l0_1 a1_0 l1_1) = some (r1, r2) := by first | (rw [hy168]; with_reducible exact H) | (have H2_ := (Option.bind_some _ _).symm.trans H; rw [hy168]; with_reducible exact H2_) | (have H2_ := (Option.bind_some _ _).symm.trans H; with_reducible exact H2_) | with_reducible exact H | (rw [hy168]; exact H) | exact H
    have Ny168 := Aside0.mk hy168
    clear hy168
    have H' := Aside0.mk H
    clear H
    go_enter Try.func38, Try.ntmps38
    go_wp2_with (first | ((with_reducible refine gate_dst (N := 2) rfl ?_); refine box_event ?hg (N := 2) ?hd (cs := #[.bool a0_0, .slice A0_1 l0_1.length c0_1]) (t := 60) ?hr ?_; (case hd => rfl); (case hg => rfl); (case hr => first | (go_simp; done) | (go_simp; rfl)); intro gb165 hg w4 hbox hb; have n0_ := Aside0.mk (kL (by repeat (first | (with_reducible first | exact HB.out | apply kC | apply kA | apply kD) | exact HB.out)) hb); have n1_ := Aside0.mk (hbox); have n2_ := Aside0.mk ((by rw [hg]; exact (kK (by repeat (first | (with_reducible first | exact HB.out | apply kC | apply kA | apply kD) | exact HB.out))) : w.heap.size ≤ gb165)); have n3_ := Aside0.mk ((by rw [hg]; exact (kK (by repeat (first | (with_reducible first | exact HB.out | apply kC | apply kA | apply kD) | exact HB.out))) : w.heap.size ≤ gb165)); clear HB; have HB := n0_; have BK165 := n1_; have GW165 := n2_; have GE165 := n3_; clear n0_ n1_ n2_ n3_; clear hb hbox hg) | ((with_reducible refine gate_dst (N := 3) rfl ?_); refine box_event ?hg (N := 3) ?hd (cs := #[.bool a1_0, .slice A1_1 l1_1.length c1_1]) (t := 60) ?hr ?_; (case hd => rfl); (case hg => rfl); (case hr => first | (go_simp; done) | (go_simp; rfl)); intro gb166 hg w5 hbox hb; have n0_ := Aside0.mk (kJ (g := gb165) (o := .cells #[.bool a0_0, .slice A0_1 l0_1.length c0_1] 60 (0, 0)) (by (with_reducible repeat (first | refine kE ?_ _ | refine kG ?_ | refine kF ?_ _)); exact BK165.out) hb); have n1_ := Aside0.mk (kL (by repeat (first | (with_reducible first | exact HB.out | apply kC | apply kA | apply kD | refine kB ?_ GE165.out) | exact HB.out)) hb); have n2_ := Aside0.mk (hbox); have n3_ := Aside0.mk ((by rw [hg]; exact (kK (by repeat (first | (with_reducible first | exact HB.out | apply kC | apply kA | apply kD | refine kB ?_ GE165.out) | exact HB.out))) : w.heap.size ≤ gb166)); have n4_ := Aside0.mk ((by rw [hg]; exact (kK (by repeat (first | (with_reducible first | exact HB.out | apply kC | apply kA | apply kD | refine kB ?_ GE165.out) | exact HB.out))) : w.heap.size ≤ gb166)); have n5_ := Aside0.mk ((by rw [hg]; exact Nat.ne_of_lt (blk_lt (g := gb165) (o := .cells #[.bool a0_0, .slice A0_1 l0_1.length c0_1] 60 (0, 0)) (by (with_reducible repeat (first | refine kE ?_ _ | refine kG ?_ | refine kF ?_ _)); exact BK165.out)) : gb165 ≠ gb166)); have n6_ := Aside0.mk ((by rw [hg]; exact Nat.ne_of_gt (blk_lt (g := gb165) (o := .cells #[.bool a0_0, .slice A0_1 l0_1.length c0_1] 60 (0, 0)) (by (with_reducible repeat (first | refine kE ?_ _ | refine kG ?_ | refine kF ?_ _)); exact BK165.out)) : gb166 ≠ gb165)); clear BK165; clear HB; have BK165 := n0_; have HB := n1_; have BK166 := n2_; have GW166 := n3_; have GE166 := n4_; have NB165_166 := n5_; have NB166_165 := n6_; clear n0_ n1_ n2_ n3_ n4_ n5_ n6_; clear hb hbox hg) | ((with_reducible refine gate_dst (N := 4) rfl ?_); refine box_event ?hg (N := 4) ?hd (cs := #[.bool false, .slice none 0 0]) (t := 60) ?hr ?_; (case hd => rfl); (case hg => rfl); (case hr => first | (go_simp; done) | (go_simp; rfl)); intro gb167 hg w6 hbox hb; have n0_ := Aside0.mk (kJ (g := gb165) (o := .cells #[.bool a0_0, .slice A0_1 l0_1.length c0_1] 60 (0, 0)) (by (with_reducible repeat (first | refine kE ?_ _ | refine kG ?_ | refine kF ?_ _)); exact BK165.out) hb); have n1_ := Aside0.mk (kJ (g := gb166) (o := .cells #[.bool a1_0, .slice A1_1 l1_1.length c1_1] 60 (0, 0)) (by (with_reducible repeat (first | refine kE ?_ _ | refine kG ?_ | refine kF ?_ _)); exact BK166.out) hb); have n2_ := Aside0.mk (kL (by repeat (first | (with_reducible first | exact HB.out | apply kC | apply kA | apply kD | refine kB ?_ GE165.out | refine kB ?_ GE166.out) | exact HB.out)) hb); have n3_ := Aside0.mk (hbox); have n4_ := Aside0.mk ((by rw [hg]; exact (kK (by repeat (first | (with_reducible first | exact HB.out | apply kC | apply kA | apply kD | refine kB ?_ GE165.out | refine kB ?_ GE166.out) | exact HB.out))) : w.heap.size ≤ gb167)); have n5_ := Aside0.mk ((by rw [hg]; exact (kK (by repeat (first | (with_reducible first | exact HB.out | apply kC | apply kA | apply kD | refine kB ?_ GE165.out | refine kB ?_ GE166.out) | exact HB.out))) : w.heap.size ≤ gb167)); have n6_ := Aside0.mk ((by rw [hg]; exact Nat.ne_of_lt (blk_lt (g := gb165) (o := .cells #[.bool a0_0, .slice A0_1 l0_1.length c0_1] 60 (0, 0)) (by (with_reducible repeat (first | refine kE ?_ _ | refine kG ?_ | refine kF ?_ _)); exact BK165.out)) : gb165 ≠ gb167)); have n7_ := Aside0.mk ((by rw [hg]; exact Nat.ne_of_gt (blk_lt (g := gb165) (o := .cells #[.bool a0_0, .slice A0_1 l0_1.length c0_1] 60 (0, 0)) (by (with_reducible repeat (first | refine kE ?_ _ | refine kG ?_ | refine kF ?_ _)); exact BK165.out)) : gb167 ≠ gb165)); have n8_ := Aside0.mk ((by rw [hg]; exact Nat.ne_of_lt (blk_lt (g := gb166) (o := .cells #[.bool a1_0, .slice A1_1 l1_1.length c1_1] 60 (0, 0)) (by (with_reducible repeat (first | refine kE ?_ _ | refine kG ?_ | refine kF ?_ _)); exact BK166.out)) : gb166 ≠ gb167)); have n9_ := Aside0.mk ((by rw [hg]; exact Nat.ne_of_gt (blk_lt (g := gb166) (o := .cells #[.bool a1_0, .slice A1_1 l1_1.length c1_1] 60 (0, 0)) (by (with_reducible repeat (first | refine kE ?_ _ | refine kG ?_ | refine kF ?_ _)); exact BK166.out)) : gb167 ≠ gb166)); clear BK165; clear BK166; clear HB; have BK165 := n0_; have BK166 := n1_; have HB := n2_; have BK167 := n3_; have GW167 := n4_; have GE167 := n5_; have NB165_167 := n6_; have NB167_165 := n7_; have NB166_167 := n8_; have NB167_166 := n9_; clear n0_ n1_ n2_ n3_ n4_ n5_ n6_ n7_ n8_ n9_; clear hb hbox hg) | ((with_reducible refine gate_dst (N := 10) rfl ?_); refine Kd.R_make (Kd.int .u64) _ 52 rfl (N := 10) rfl 58 _ _ rfl 6 rfl rfl Try.underlying58 (.int .u64 0) 8 info52 rfl (by decide) (by omega) 0 (ok := fun _ => True) (okp := fun _ => True) rfl (fun _ hk => hk) trivial (by omega) (by omega) (Below.refl _ _) (Nat.le_refl _) ?_; intro v169 w7 ho8 hb hg_ hnew_; clear hg_ hnew_; (first | rw [← Ny168.out] at ho8 | (simp only [Int.reduceToNat] at ho8; rw [← Ny168.out] at ho8)); have n0_ := Aside0.mk (Kd.R_lower ho8 (kK (by repeat (first | (with_reducible first | exact HB.out | apply kC | apply kA | apply kD | refine kB ?_ GE165.out | refine kB ?_ GE166.out | refine kB ?_ GE167.out) | exact HB.out)))); have n1_ := Aside0.mk (kJ (g := gb165) (o := .cells #[.bool a0_0, .slice A0_1 l0_1.length c0_1] 60 (0, 0)) (by (with_reducible repeat (first | refine kE ?_ _ | refine kG ?_ | refine kF ?_ _)); exact BK165.out) hb); have n2_ := Aside0.mk (kJ (g := gb166) (o := .cells #[.bool a1_0, .slice A1_1 l1_1.length c1_1] 60 (0, 0)) (by (with_reducible repeat (first | refine kE ?_ _ | refine kG ?_ | refine kF ?_ _)); exact BK166.out) hb); have n3_ := Aside0.mk (kJ (g := gb167) (o := .cells #[.bool false, .slice none 0 0] 60 (0, 0)) (by (with_reducible repeat (first | refine kE ?_ _ | refine kG ?_ | refine kF ?_ _)); exact BK167.out) hb); have n4_ := Aside0.mk (kL (by repeat (first | (with_reducible first | exact HB.out | apply kC | apply kA | apply kD | refine kB ?_ GE165.out | refine kB ?_ GE166.out | refine kB ?_ GE167.out) | exact HB.out)) hb); clear BK165; clear BK166; clear BK167; clear HB; have HO170 := n0_; have BK165 := n1_; have BK166 := n2_; have BK167 := n3_; have HB := n4_; clear n0_ n1_ n2_ n3_ n4_; clear hb ho8))
    repeat (go_quiet (first | ((with_reducible refine gate_dst (N := 2) rfl ?_); refine box_event ?hg (N := 2) ?hd (cs := #[.bool a0_0, .slice A0_1 l0_1.length c0_1]) (t := 60) ?hr ?_; (case hd => rfl); (case hg => rfl); (case hr => first | (go_simp; done) | (go_simp; rfl)); intro gb165 hg w4 hbox hb; have n0_ := Aside0.mk (kL (by repeat (first | (with_reducible first | exact HB.out | apply kC | apply kA | apply kD) | exact HB.out)) hb); have n1_ := Aside0.mk (hbox); have n2_ := Aside0.mk ((by rw [hg]; exact (kK (by repeat (first | (with_reducible first | exact HB.out | apply kC | apply kA | apply kD) | exact HB.out))) : w.heap.size ≤ gb165)); have n3_ := Aside0.mk ((by rw [hg]; exact (kK (by repeat (first | (with_reducible first | exact HB.out | apply kC | apply kA | apply kD) | exact HB.out))) : w.heap.size ≤ gb165)); clear HB; have HB := n0_; have BK165 := n1_; have GW165 := n2_; have GE165 := n3_; clear n0_ n1_ n2_ n3_; clear hb hbox hg) | ((with_reducible refine gate_dst (N := 3) rfl ?_); refine box_event ?hg (N := 3) ?hd (cs := #[.bool a1_0, .slice A1_1 l1_1.length c1_1]) (t := 60) ?hr ?_; (case hd => rfl); (case hg => rfl); (case hr => first | (go_simp; done) | (go_simp; rfl)); intro gb166 hg w5 hbox hb; have n0_ := Aside0.mk (kJ (g := gb165) (o := .cells #[.bool a0_0, .slice A0_1 l0_1.length c0_1] 60 (0, 0)) (by (with_reducible repeat (first | refine kE ?_ _ | refine kG ?_ | refine kF ?_ _)); exact BK165.out) hb); have n1_ := Aside0.mk (kL (by repeat (first | (with_reducible first | exact HB.out | apply kC | apply kA | apply kD | refine kB ?_ GE165.out) | exact HB.out)) hb); have n2_ := Aside0.mk (hbox); have n3_ := Aside0.mk ((by rw [hg]; exact (kK (by repeat (first | (with_reducible first | exact HB.out | apply kC | apply kA | apply kD | refine kB ?_ GE165.out) | exact HB.out))) : w.heap.size ≤ gb166)); have n4_ := Aside0.mk ((by rw [hg]; exact (kK (by repeat (first | (with_reducible first | exact HB.out | apply kC | apply kA | apply kD | refine kB ?_ GE165.out) | exact HB.out))) : w.heap.size ≤ gb166)); have n5_ := Aside0.mk ((by rw [hg]; exact Nat.ne_of_lt (blk_lt (g := gb165) (o := .cells #[.bool a0_0, .slice A0_1 l0_1.length c0_1] 60 (0, 0)) (by (with_reducible repeat (first | refine kE ?_ _ | refine kG ?_ | refine kF ?_ _)); exact BK165.out)) : gb165 ≠ gb166)); have n6_ := Aside0.mk ((by rw [hg]; exact Nat.ne_of_gt (blk_lt (g := gb165) (o := .cells #[.bool a0_0, .slice A0_1 l0_1.length c0_1] 60 (0, 0)) (by (with_reducible repeat (first | refine kE ?_ _ | refine kG ?_ | refine kF ?_ _)); exact BK165.out)) : gb166 ≠ gb165)); clear BK165; clear HB; have BK165 := n0_; have HB := n1_; have BK166 := n2_; have GW166 := n3_; have GE166 := n4_; have NB165_166 := n5_; have NB166_165 := n6_; clear n0_ n1_ n2_ n3_ n4_ n5_ n6_; clear hb hbox hg) | ((with_reducible refine gate_dst (N := 4) rfl ?_); refine box_event ?hg (N := 4) ?hd (cs := #[.bool false, .slice none 0 0]) (t := 60) ?hr ?_; (case hd => rfl); (case hg => rfl); (case hr => first | (go_simp; done) | (go_simp; rfl)); intro gb167 hg w6 hbox hb; have n0_ := Aside0.mk (kJ (g := gb165) (o := .cells #[.bool a0_0, .slice A0_1 l0_1.length c0_1] 60 (0, 0)) (by (with_reducible repeat (first | refine kE ?_ _ | refine kG ?_ | refine kF ?_ _)); exact BK165.out) hb); have n1_ := Aside0.mk (kJ (g := gb166) (o := .cells #[.bool a1_0, .slice A1_1 l1_1.length c1_1] 60 (0, 0)) (by (with_reducible repeat (first | refine kE ?_ _ | refine kG ?_ | refine kF ?_ _)); exact BK166.out) hb); have n2_ := Aside0.mk (kL (by repeat (first | (with_reducible first | exact HB.out | apply kC | apply kA | apply kD | refine kB ?_ GE165.out | refine kB ?_ GE166.out) | exact HB.out)) hb); have n3_ := Aside0.mk (hbox); have n4_ := Aside0.mk ((by rw [hg]; exact (kK (by repeat (first | (with_reducible first | exact HB.out | apply kC | apply kA | apply kD | refine kB ?_ GE165.out | refine kB ?_ GE166.out) | exact HB.out))) : w.heap.size ≤ gb167)); have n5_ := Aside0.mk ((by rw [hg]; exact (kK (by repeat (first | (with_reducible first | exact HB.out | apply kC | apply kA | apply kD | refine kB ?_ GE165.out | refine kB ?_ GE166.out) | exact HB.out))) : w.heap.size ≤ gb167)); have n6_ := Aside0.mk ((by rw [hg]; exact Nat.ne_of_lt (blk_lt (g := gb165) (o := .cells #[.bool a0_0, .slice A0_1 l0_1.length c0_1] 60 (0, 0)) (by (with_reducible repeat (first | refine kE ?_ _ | refine kG ?_ | refine kF ?_ _)); exact BK165.out)) : gb165 ≠ gb167)); have n7_ := Aside0.mk ((by rw [hg]; exact Nat.ne_of_gt (blk_lt (g := gb165) (o := .cells #[.bool a0_0, .slice A0_1 l0_1.length c0_1] 60 (0, 0)) (by (with_reducible repeat (first | refine kE ?_ _ | refine kG ?_ | refine kF ?_ _)); exact BK165.out)) : gb167 ≠ gb165)); have n8_ := Aside0.mk ((by rw [hg]; exact Nat.ne_of_lt (blk_lt (g := gb166) (o := .cells #[.bool a1_0, .slice A1_1 l1_1.length c1_1] 60 (0, 0)) (by (with_reducible repeat (first | refine kE ?_ _ | refine kG ?_ | refine kF ?_ _)); exact BK166.out)) : gb166 ≠ gb167)); have n9_ := Aside0.mk ((by rw [hg]; exact Nat.ne_of_gt (blk_lt (g := gb166) (o := .cells #[.bool a1_0, .slice A1_1 l1_1.length c1_1] 60 (0, 0)) (by (with_reducible repeat (first | refine kE ?_ _ | refine kG ?_ | refine kF ?_ _)); exact BK166.out)) : gb167 ≠ gb166)); clear BK165; clear BK166; clear HB; have BK165 := n0_; have BK166 := n1_; have HB := n2_; have BK167 := n3_; have GW167 := n4_; have GE167 := n5_; have NB165_167 := n6_; have NB167_165 := n7_; have NB166_167 := n8_; have NB167_166 := n9_; clear n0_ n1_ n2_ n3_ n4_ n5_ n6_ n7_ n8_ n9_; clear hb hbox hg) | ((with_reducible refine gate_dst (N := 10) rfl ?_); refine Kd.R_make (Kd.int .u64) _ 52 rfl (N := 10) rfl 58 _ _ rfl 6 rfl rfl Try.underlying58 (.int .u64 0) 8 info52 rfl (by decide) (by omega) 0 (ok := fun _ => True) (okp := fun _ => True) rfl (fun _ hk => hk) trivial (by omega) (by omega) (Below.refl _ _) (Nat.le_refl _) ?_; intro v169 w7 ho8 hb hg_ hnew_; clear hg_ hnew_; (first | rw [← Ny168.out] at ho8 | (simp only [Int.reduceToNat] at ho8; rw [← Ny168.out] at ho8)); have n0_ := Aside0.mk (Kd.R_lower ho8 (kK (by repeat (first | (with_reducible first | exact HB.out | apply kC | apply kA | apply kD | refine kB ?_ GE165.out | refine kB ?_ GE166.out | refine kB ?_ GE167.out) | exact HB.out)))); have n1_ := Aside0.mk (kJ (g := gb165) (o := .cells #[.bool a0_0, .slice A0_1 l0_1.length c0_1] 60 (0, 0)) (by (with_reducible repeat (first | refine kE ?_ _ | refine kG ?_ | refine kF ?_ _)); exact BK165.out) hb); have n2_ := Aside0.mk (kJ (g := gb166) (o := .cells #[.bool a1_0, .slice A1_1 l1_1.length c1_1] 60 (0, 0)) (by (with_reducible repeat (first | refine kE ?_ _ | refine kG ?_ | refine kF ?_ _)); exact BK166.out) hb); have n3_ := Aside0.mk (kJ (g := gb167) (o := .cells #[.bool false, .slice none 0 0] 60 (0, 0)) (by (with_reducible repeat (first | refine kE ?_ _ | refine kG ?_ | refine kF ?_ _)); exact BK167.out) hb); have n4_ := Aside0.mk (kL (by repeat (first | (with_reducible first | exact HB.out | apply kC | apply kA | apply kD | refine kB ?_ GE165.out | refine kB ?_ GE166.out | refine kB ?_ GE167.out) | exact HB.out)) hb); clear BK165; clear BK166; clear BK167; clear HB; have HO170 := n0_; have BK165 := n1_; have BK166 := n2_; have BK167 := n3_; have HB := n4_; clear n0_ n1_ n2_ n3_ n4_; clear hb ho8)); try go_wp2_with (first | ((with_reducible refine gate_dst (N := 2) rfl ?_); refine box_event ?hg (N := 2) ?hd (cs := #[.bool a0_0, .slice A0_1 l0_1.length c0_1]) (t := 60) ?hr ?_; (case hd => rfl); (case hg => rfl); (case hr => first | (go_simp; done) | (go_simp; rfl)); intro gb165 hg w4 hbox hb; have n0_ := Aside0.mk (kL (by repeat (first | (with_reducible first | exact HB.out | apply kC | apply kA | apply kD) | exact HB.out)) hb); have n1_ := Aside0.mk (hbox); have n2_ := Aside0.mk ((by rw [hg]; exact (kK (by repeat (first | (with_reducible first | exact HB.out | apply kC | apply kA | apply kD) | exact HB.out))) : w.heap.size ≤ gb165)); have n3_ := Aside0.mk ((by rw [hg]; exact (kK (by repeat (first | (with_reducible first | exact HB.out | apply kC | apply kA | apply kD) | exact HB.out))) : w.heap.size ≤ gb165)); clear HB; have HB := n0_; have BK165 := n1_; have GW165 := n2_; have GE165 := n3_; clear n0_ n1_ n2_ n3_; clear hb hbox hg) | ((with_reducible refine gate_dst (N := 3) rfl ?_); refine box_event ?hg (N := 3) ?hd (cs := #[.bool a1_0, .slice A1_1 l1_1.length c1_1]) (t := 60) ?hr ?_; (case hd => rfl); (case hg => rfl); (case hr => first | (go_simp; done) | (go_simp; rfl)); intro gb166 hg w5 hbox hb; have n0_ := Aside0.mk (kJ (g := gb165) (o := .cells #[.bool a0_0, .slice A0_1 l0_1.length c0_1] 60 (0, 0)) (by (with_reducible repeat (first | refine kE ?_ _ | refine kG ?_ | refine kF ?_ _)); exact BK165.out) hb); have n1_ := Aside0.mk (kL (by repeat (first | (with_reducible first | exact HB.out | apply kC | apply kA | apply kD | refine kB ?_ GE165.out) | exact HB.out)) hb); have n2_ := Aside0.mk (hbox); have n3_ := Aside0.mk ((by rw [hg]; exact (kK (by repeat (first | (with_reducible first | exact HB.out | apply kC | apply kA | apply kD | refine kB ?_ GE165.out) | exact HB.out))) : w.heap.size ≤ gb166)); have n4_ := Aside0.mk ((by rw [hg]; exact (kK (by repeat (first | (with_reducible first | exact HB.out | apply kC | apply kA | apply kD | refine kB ?_ GE165.out) | exact HB.out))) : w.heap.size ≤ gb166)); have n5_ := Aside0.mk ((by rw [hg]; exact Nat.ne_of_lt (blk_lt (g := gb165) (o := .cells #[.bool a0_0, .slice A0_1 l0_1.length c0_1] 60 (0, 0)) (by (with_reducible repeat (first | refine kE ?_ _ | refine kG ?_ | refine kF ?_ _)); exact BK165.out)) : gb165 ≠ gb166)); have n6_ := Aside0.mk ((by rw [hg]; exact Nat.ne_of_gt (blk_lt (g := gb165) (o := .cells #[.bool a0_0, .slice A0_1 l0_1.length c0_1] 60 (0, 0)) (by (with_reducible repeat (first | refine kE ?_ _ | refine kG ?_ | refine kF ?_ _)); exact BK165.out)) : gb166 ≠ gb165)); clear BK165; clear HB; have BK165 := n0_; have HB := n1_; have BK166 := n2_; have GW166 := n3_; have GE166 := n4_; have NB165_166 := n5_; have NB166_165 := n6_; clear n0_ n1_ n2_ n3_ n4_ n5_ n6_; clear hb hbox hg) | ((with_reducible refine gate_dst (N := 4) rfl ?_); refine box_event ?hg (N := 4) ?hd (cs := #[.bool false, .slice none 0 0]) (t := 60) ?hr ?_; (case hd => rfl); (case hg => rfl); (case hr => first | (go_simp; done) | (go_simp; rfl)); intro gb167 hg w6 hbox hb; have n0_ := Aside0.mk (kJ (g := gb165) (o := .cells #[.bool a0_0, .slice A0_1 l0_1.length c0_1] 60 (0, 0)) (by (with_reducible repeat (first | refine kE ?_ _ | refine kG ?_ | refine kF ?_ _)); exact BK165.out) hb); have n1_ := Aside0.mk (kJ (g := gb166) (o := .cells #[.bool a1_0, .slice A1_1 l1_1.length c1_1] 60 (0, 0)) (by (with_reducible repeat (first | refine kE ?_ _ | refine kG ?_ | refine kF ?_ _)); exact BK166.out) hb); have n2_ := Aside0.mk (kL (by repeat (first | (with_reducible first | exact HB.out | apply kC | apply kA | apply kD | refine kB ?_ GE165.out | refine kB ?_ GE166.out) | exact HB.out)) hb); have n3_ := Aside0.mk (hbox); have n4_ := Aside0.mk ((by rw [hg]; exact (kK (by repeat (first | (with_reducible first | exact HB.out | apply kC | apply kA | apply kD | refine kB ?_ GE165.out | refine kB ?_ GE166.out) | exact HB.out))) : w.heap.size ≤ gb167)); have n5_ := Aside0.mk ((by rw [hg]; exact (kK (by repeat (first | (with_reducible first | exact HB.out | apply kC | apply kA | apply kD | refine kB ?_ GE165.out | refine kB ?_ GE166.out) | exact HB.out))) : w.heap.size ≤ gb167)); have n6_ := Aside0.mk ((by rw [hg]; exact Nat.ne_of_lt (blk_lt (g := gb165) (o := .cells #[.bool a0_0, .slice A0_1 l0_1.length c0_1] 60 (0, 0)) (by (with_reducible repeat (first | refine kE ?_ _ | refine kG ?_ | refine kF ?_ _)); exact BK165.out)) : gb165 ≠ gb167)); have n7_ := Aside0.mk ((by rw [hg]; exact Nat.ne_of_gt (blk_lt (g := gb165) (o := .cells #[.bool a0_0, .slice A0_1 l0_1.length c0_1] 60 (0, 0)) (by (with_reducible repeat (first | refine kE ?_ _ | refine kG ?_ | refine kF ?_ _)); exact BK165.out)) : gb167 ≠ gb165)); have n8_ := Aside0.mk ((by rw [hg]; exact Nat.ne_of_lt (blk_lt (g := gb166) (o := .cells #[.bool a1_0, .slice A1_1 l1_1.length c1_1] 60 (0, 0)) (by (with_reducible repeat (first | refine kE ?_ _ | refine kG ?_ | refine kF ?_ _)); exact BK166.out)) : gb166 ≠ gb167)); have n9_ := Aside0.mk ((by rw [hg]; exact Nat.ne_of_gt (blk_lt (g := gb166) (o := .cells #[.bool a1_0, .slice A1_1 l1_1.length c1_1] 60 (0, 0)) (by (with_reducible repeat (first | refine kE ?_ _ | refine kG ?_ | refine kF ?_ _)); exact BK166.out)) : gb167 ≠ gb166)); clear BK165; clear BK166; clear HB; have BK165 := n0_; have BK166 := n1_; have HB := n2_; have BK167 := n3_; have GW167 := n4_; have GE167 := n5_; have NB165_167 := n6_; have NB167_165 := n7_; have NB166_167 := n8_; have NB167_166 := n9_; clear n0_ n1_ n2_ n3_ n4_ n5_ n6_ n7_ n8_ n9_; clear hb hbox hg) | ((with_reducible refine gate_dst (N := 10) rfl ?_); refine Kd.R_make (Kd.int .u64) _ 52 rfl (N := 10) rfl 58 _ _ rfl 6 rfl rfl Try.underlying58 (.int .u64 0) 8 info52 rfl (by decide) (by omega) 0 (ok := fun _ => True) (okp := fun _ => True) rfl (fun _ hk => hk) trivial (by omega) (by omega) (Below.refl _ _) (Nat.le_refl _) ?_; intro v169 w7 ho8 hb hg_ hnew_; clear hg_ hnew_; (first | rw [← Ny168.out] at ho8 | (simp only [Int.reduceToNat] at ho8; rw [← Ny168.out] at ho8)); have n0_ := Aside0.mk (Kd.R_lower ho8 (kK (by repeat (first | (with_reducible first | exact HB.out | apply kC | apply kA | apply kD | refine kB ?_ GE165.out | refine kB ?_ GE166.out | refine kB ?_ GE167.out) | exact HB.out)))); have n1_ := Aside0.mk (kJ (g := gb165) (o := .cells #[.bool a0_0, .slice A0_1 l0_1.length c0_1] 60 (0, 0)) (by (with_reducible repeat (first | refine kE ?_ _ | refine kG ?_ | refine kF ?_ _)); exact BK165.out) hb); have n2_ := Aside0.mk (kJ (g := gb166) (o := .cells #[.bool a1_0, .slice A1_1 l1_1.length c1_1] 60 (0, 0)) (by (with_reducible repeat (first | refine kE ?_ _ | refine kG ?_ | refine kF ?_ _)); exact BK166.out) hb); have n3_ := Aside0.mk (kJ (g := gb167) (o := .cells #[.bool false, .slice none 0 0] 60 (0, 0)) (by (with_reducible repeat (first | refine kE ?_ _ | refine kG ?_ | refine kF ?_ _)); exact BK167.out) hb); have n4_ := Aside0.mk (kL (by repeat (first | (with_reducible first | exact HB.out | apply kC | apply kA | apply kD | refine kB ?_ GE165.out | refine kB ?_ GE166.out | refine kB ?_ GE167.out) | exact HB.out)) hb); clear BK165; clear BK166; clear BK167; clear HB; have HO170 := n0_; have BK165 := n1_; have BK166 := n2_; have BK167 := n3_; have HB := n4_; clear n0_ n1_ n2_ n3_ n4_; clear hb ho8)))
    go_loopg [5, 6] k (fun kq v5 v6 w' => ∃ (x5_1 : List Int) (x6_1 : Int), v6 = .int .i64 x6_1 ∧ Aside0 (computusref01_Times.l0 kq x5_1 x6_1 a0_0 l0_1 a1_0 l1_1 = some (r1, r2)) ∧ Aside0 (kq ≤ k) ∧ Aside0 (Kd.R (Kd.int .u64) 52 w' w.heap.size (fun _ => True) v5 x5_1) ∧ Aside0 (w'.heap[gb165]? = some (.cells #[.bool a0_0, (.slice A0_1 l0_1.length c0_1)] 60 (0, 0))) ∧ Aside0 (w'.heap[gb166]? = some (.cells #[.bool a1_0, (.slice A1_1 l1_1.length c1_1)] 60 (0, 0))) ∧ Aside0 (w'.heap[gb167]? = some (.cells #[.bool false, (.slice none 0 0)] 60 (0, 0))) ∧ Aside0 (Below w.heap.size w w'))
    case atStart => exact ⟨(y168), (0), (by first | rfl | (simp; done) | (simp [*]; done)), H', ⟨Nat.le_refl _⟩, ⟨by (with_reducible repeat (first | apply Kd.R_alloc | apply Kd.R_drewN | apply Kd.R_drew)); exact HO170.out⟩, ⟨by (with_reducible repeat (first | refine kE ?_ _ | refine kG ?_ | refine kF ?_ _)); exact BK165.out⟩, ⟨by (with_reducible repeat (first | refine kE ?_ _ | refine kG ?_ | refine kF ?_ _)); exact BK166.out⟩, ⟨by (with_reducible repeat (first | refine kE ?_ _ | refine kG ?_ | refine kF ?_ _)); exact BK167.out⟩, ⟨by repeat (first | (with_reducible first | exact HB.out | apply kC | apply kA | apply kD | refine kB ?_ GE165.out | refine kB ?_ GE166.out | refine kB ?_ GE167.out) | exact HB.out)⟩⟩
    case round =>
      clear H'
      try clear c1
      try clear p2
      try clear c3
      try clear c3b0
      try clear c3b1
      obtain ⟨x5_1, x6_1, rfl, HA, HK1, HO_5, BK165, BK166, BK167, HB⟩ := hrel
      cases gk with
      | zero => exact absurd HA.out (by simp [computusref01_Times.l0])
      | succ k1 =>
        have H := HA.out
        clear HA
        simp only [computusref01_Times.l0] at H
        by_cases c9 : x6_1 < 2
        · rw [if_pos c9] at H
          have c9b0 : decide (x6_1 < 2) = true := decide_eq_true c9
          clear c9
          by_cases c10 : 6 ≤ 35184372088832
          · rw [if_pos c10] at H
            have c10b0 := eq_true c10
            have c10b1 : decide (6 ≤ 35184372088832) = true := decide_eq_true c10
            clear c10
            obtain ⟨y172, hy172⟩ : ∃ y_ : List Int, y_ = (List.replicate 6 0) := ⟨_, rfl⟩
            replace H : (computusref01_Times.l1 k1 x5_1 x6_1 y172 0 0 a0_0 l0_1 a1_0 l1_1) = some (r1, r2) := by first | (rw [hy172]; with_reducible exact H) | (have H2_ := (Option.bind_some _ _).symm.trans H; rw [hy172]; with_reducible exact H2_) | (have H2_ := (Option.bind_some _ _).symm.trans H; with_reducible exact H2_) | with_reducible exact H | (rw [hy172]; exact H) | exact H
            have Ny172 := Aside0.mk hy172
            clear hy172
            have H' := Aside0.mk H
            clear H
            go_wp2_with (first | ((with_reducible refine gate_dst (N := 15) rfl ?_); refine Kd.R_make (Kd.int .u64) _ 52 rfl (N := 15) rfl 58 _ _ rfl 6 rfl rfl Try.underlying58 (.int .u64 0) 8 info52 rfl (by decide) (by omega) 0 (ok := fun _ => True) (okp := fun _ => True) rfl (fun _ hk => hk) trivial (by omega) (by omega) (Below.refl _ _) (Nat.le_refl _) ?_; intro v173 w11 ho12 hb hg_ hnew_; clear hg_ hnew_; (first | rw [← Ny172.out] at ho12 | (simp only [Int.reduceToNat] at ho12; rw [← Ny172.out] at ho12)); have n0_ := Aside0.mk (Kd.R_elder' (by (with_reducible repeat (first | apply Kd.R_alloc | apply Kd.R_drewN | apply Kd.R_drew)); exact HO_5.out) (Kd.R_base ho12) hb); have n1_ := Aside0.mk (Kd.R_lower (Kd.R_new' ho12 (Kd.R_lt (by (with_reducible repeat (first | apply Kd.R_alloc | apply Kd.R_drewN | apply Kd.R_drew)); exact HO_5.out))) (kK (by repeat (first | (with_reducible first | exact HB.out | apply kC | apply kA | apply kD | refine kB ?_ GE165.out | refine kB ?_ GE166.out | refine kB ?_ GE167.out) | exact HB.out)))); have n2_ := Aside0.mk (kJ (g := gb165) (o := .cells #[.bool a0_0, .slice A0_1 l0_1.length c0_1] 60 (0, 0)) (by (with_reducible repeat (first | refine kE ?_ _ | refine kG ?_ | refine kF ?_ _)); exact BK165.out) hb); have n3_ := Aside0.mk (kJ (g := gb166) (o := .cells #[.bool a1_0, .slice A1_1 l1_1.length c1_1] 60 (0, 0)) (by (with_reducible repeat (first | refine kE ?_ _ | refine kG ?_ | refine kF ?_ _)); exact BK166.out) hb); have n4_ := Aside0.mk (kJ (g := gb167) (o := .cells #[.bool false, .slice none 0 0] 60 (0, 0)) (by (with_reducible repeat (first | refine kE ?_ _ | refine kG ?_ | refine kF ?_ _)); exact BK167.out) hb); have n5_ := Aside0.mk (kL (by repeat (first | (with_reducible first | exact HB.out | apply kC | apply kA | apply kD | refine kB ?_ GE165.out | refine kB ?_ GE166.out | refine kB ?_ GE167.out) | exact HB.out)) hb); clear HO_5; clear BK165; clear BK166; clear BK167; clear HB; have HO_5 := n0_; have HO174 := n1_; have BK165 := n2_; have BK166 := n3_; have BK167 := n4_; have HB := n5_; clear n0_ n1_ n2_ n3_ n4_ n5_; clear hb ho12))
            repeat (go_quiet (first | ((with_reducible refine gate_dst (N := 15) rfl ?_); refine Kd.R_make (Kd.int .u64) _ 52 rfl (N := 15) rfl 58 _ _ rfl 6 rfl rfl Try.underlying58 (.int .u64 0) 8 info52 rfl (by decide) (by omega) 0 (ok := fun _ => True) (okp := fun _ => True) rfl (fun _ hk => hk) trivial (by omega) (by omega) (Below.refl _ _) (Nat.le_refl _) ?_; intro v173 w11 ho12 hb hg_ hnew_; clear hg_ hnew_; (first | rw [← Ny172.out] at ho12 | (simp only [Int.reduceToNat] at ho12; rw [← Ny172.out] at ho12)); have n0_ := Aside0.mk (Kd.R_elder' (by (with_reducible repeat (first | apply Kd.R_alloc | apply Kd.R_drewN | apply Kd.R_drew)); exact HO_5.out) (Kd.R_base ho12) hb); have n1_ := Aside0.mk (Kd.R_lower (Kd.R_new' ho12 (Kd.R_lt (by (with_reducible repeat (first | apply Kd.R_alloc | apply Kd.R_drewN | apply Kd.R_drew)); exact HO_5.out))) (kK (by repeat (first | (with_reducible first | exact HB.out | apply kC | apply kA | apply kD | refine kB ?_ GE165.out | refine kB ?_ GE166.out | refine kB ?_ GE167.out) | exact HB.out)))); have n2_ := Aside0.mk (kJ (g := gb165) (o := .cells #[.bool a0_0, .slice A0_1 l0_1.length c0_1] 60 (0, 0)) (by (with_reducible repeat (first | refine kE ?_ _ | refine kG ?_ | refine kF ?_ _)); exact BK165.out) hb); have n3_ := Aside0.mk (kJ (g := gb166) (o := .cells #[.bool a1_0, .slice A1_1 l1_1.length c1_1] 60 (0, 0)) (by (with_reducible repeat (first | refine kE ?_ _ | refine kG ?_ | refine kF ?_ _)); exact BK166.out) hb); have n4_ := Aside0.mk (kJ (g := gb167) (o := .cells #[.bool false, .slice none 0 0] 60 (0, 0)) (by (with_reducible repeat (first | refine kE ?_ _ | refine kG ?_ | refine kF ?_ _)); exact BK167.out) hb); have n5_ := Aside0.mk (kL (by repeat (first | (with_reducible first | exact HB.out | apply kC | apply kA | apply kD | refine kB ?_ GE165.out | refine kB ?_ GE166.out | refine kB ?_ GE167.out) | exact HB.out)) hb); clear HO_5; clear BK165; clear BK166; clear BK167; clear HB; have HO_5 := n0_; have HO174 := n1_; have BK165 := n2_; have BK166 := n3_; have BK167 := n4_; have HB := n5_; clear n0_ n1_ n2_ n3_ n4_ n5_; clear hb ho12)); try go_wp2_with (first | ((with_reducible refine gate_dst (N := 15) rfl ?_); refine Kd.R_make (Kd.int .u64) _ 52 rfl (N := 15) rfl 58 _ _ rfl 6 rfl rfl Try.underlying58 (.int .u64 0) 8 info52 rfl (by decide) (by omega) 0 (ok := fun _ => True) (okp := fun _ => True) rfl (fun _ hk => hk) trivial (by omega) (by omega) (Below.refl _ _) (Nat.le_refl _) ?_; intro v173 w11 ho12 hb hg_ hnew_; clear hg_ hnew_; (first | rw [← Ny172.out] at ho12 | (simp only [Int.reduceToNat] at ho12; rw [← Ny172.out] at ho12)); have n0_ := Aside0.mk (Kd.R_elder' (by (with_reducible repeat (first | apply Kd.R_alloc | apply Kd.R_drewN | apply Kd.R_drew)); exact HO_5.out) (Kd.R_base ho12) hb); have n1_ := Aside0.mk (Kd.R_lower (Kd.R_new' ho12 (Kd.R_lt (by (with_reducible repeat (first | apply Kd.R_alloc | apply Kd.R_drewN | apply Kd.R_drew)); exact HO_5.out))) (kK (by repeat (first | (with_reducible first | exact HB.out | apply kC | apply kA | apply kD | refine kB ?_ GE165.out | refine kB ?_ GE166.out | refine kB ?_ GE167.out) | exact HB.out)))); have n2_ := Aside0.mk (kJ (g := gb165) (o := .cells #[.bool a0_0, .slice A0_1 l0_1.length c0_1] 60 (0, 0)) (by (with_reducible repeat (first | refine kE ?_ _ | refine kG ?_ | refine kF ?_ _)); exact BK165.out) hb); have n3_ := Aside0.mk (kJ (g := gb166) (o := .cells #[.bool a1_0, .slice A1_1 l1_1.length c1_1] 60 (0, 0)) (by (with_reducible repeat (first | refine kE ?_ _ | refine kG ?_ | refine kF ?_ _)); exact BK166.out) hb); have n4_ := Aside0.mk (kJ (g := gb167) (o := .cells #[.bool false, .slice none 0 0] 60 (0, 0)) (by (with_reducible repeat (first | refine kE ?_ _ | refine kG ?_ | refine kF ?_ _)); exact BK167.out) hb); have n5_ := Aside0.mk (kL (by repeat (first | (with_reducible first | exact HB.out | apply kC | apply kA | apply kD | refine kB ?_ GE165.out | refine kB ?_ GE166.out | refine kB ?_ GE167.out) | exact HB.out)) hb); clear HO_5; clear BK165; clear BK166; clear BK167; clear HB; have HO_5 := n0_; have HO174 := n1_; have BK165 := n2_; have BK166 := n3_; have BK167 := n4_; have HB := n5_; clear n0_ n1_ n2_ n3_ n4_ n5_; clear hb ho12)))
            go_loopg [8, 9] k1 (fun kq v8 v9 w' => ∃ (x7_2 : List Int) (x8_2 : Int) (x9_2 : Int), v8 = .int .u64 x8_2 ∧ v9 = .int .i64 x9_2 ∧ Aside0 (computusref01_Times.l1 kq x5_1 x6_1 x7_2 x8_2 x9_2 a0_0 l0_1 a1_0 l1_1 = some (r1, r2)) ∧ Aside0 (kq ≤ k1) ∧ Aside0 (Kd.R (Kd.int .u64) 52 w' w.heap.size (fun k_ => some k_ ≠ (v173 : Value).ownBlock) u5 x5_1) ∧ Aside0 (Kd.R (Kd.int .u64) 52 w' w.heap.size (fun k_ => some k_ ≠ (u5 : Value).ownBlock) v173 x7_2) ∧ Aside0 (w'.heap[gb165]? = some (.cells #[.bool a0_0, (.slice A0_1 l0_1.length c0_1)] 60 (0, 0))) ∧ Aside0 (w'.heap[gb166]? = some (.cells #[.bool a1_0, (.slice A1_1 l1_1.length c1_1)] 60 (0, 0))) ∧ Aside0 (w'.heap[gb167]? = some (.cells #[.bool false, (.slice none 0 0)] 60 (0, 0))) ∧ Aside0 (Below w.heap.size w w'))
            case atStart => exact ⟨(y172), (0), (0), (by first | rfl | (simp; done) | (simp [*]; done)), (by first | rfl | (simp; done) | (simp [*]; done)), H', ⟨Nat.le_refl _⟩, ⟨by (with_reducible repeat (first | apply Kd.R_alloc | apply Kd.R_drewN | apply Kd.R_drew)); exact Kd.R_mono HO_5.out (fun _ hk => hk.2)⟩, ⟨by (with_reducible repeat (first | apply Kd.R_alloc | apply Kd.R_drewN | apply Kd.R_drew)); exact Kd.R_mono HO174.out (fun _ hk => hk.2)⟩, ⟨by (with_reducible repeat (first | refine kE ?_ _ | refine kG ?_ | refine kF ?_ _)); exact BK165.out⟩, ⟨by (with_reducible repeat (first | refine kE ?_ _ | refine kG ?_ | refine kF ?_ _)); exact BK166.out⟩, ⟨by (with_reducible repeat (first | refine kE ?_ _ | refine kG ?_ | refine kF ?_ _)); exact BK167.out⟩, ⟨by repeat (first | (with_reducible first | exact HB.out | apply kC | apply kA | apply kD | refine kB ?_ GE165.out | refine kB ?_ GE166.out | refine kB ?_ GE167.out) | exact HB.out)⟩⟩
            case round =>
              clear H'
              try clear c1
              try clear p2
              try clear c3
              try clear c3b0
              try clear c3b1
              try clear c9
              try clear c9b0
              try clear c10
              try clear c10b0
              try clear c10b1
              try clear p2
              obtain ⟨x7_2, x8_2, x9_2, rfl, rfl, HA, HK2, HO_5, HO_7, BK165, BK166, BK167, HB⟩ := hrel
              cases gk with
              | zero => exact absurd HA.out (by simp [computusref01_Times.l1])
              | succ k2 =>
                have H := HA.out
                clear HA
                simp only [computusref01_Times.l1] at H
                by_cases c13 : x9_2 < 3
                · rw [if_pos c13] at H
                  have c13b0 : decide (x9_2 < 3) = true := decide_eq_true c13
                  clear c13
                  by_cases c14 : 0 ≤ x6_1
                  · rw [if_pos c14] at H
                    have c14b0 : decide (0 ≤ x6_1) = true := decide_eq_true c14
                    clear c14
                    by_cases c15 : x6_1 < (l0_1.length : Int)
                    · rw [if_pos c15] at H
                      have c15b0 : decide (x6_1 < (l0_1.length : Int)) = true := decide_eq_true c15
                      clear c15
                      by_cases c16 : 0 ≤ x9_2
                      · rw [if_pos c16] at H
                        have c16b0 : decide (0 ≤ x9_2) = true := decide_eq_true c16
                        clear c16
                        by_cases c17 : x9_2 < (l1_1.length : Int)
                        · rw [if_pos c17] at H
                          have c17b0 : decide (x9_2 < (l1_1.length : Int)) = true := decide_eq_true c17
                          clear c17
                          obtain ⟨ji18, hji18⟩ : ∃ j_ : Int, (wrap64 (x6_1 + x9_2)) = j_ := ⟨_, rfl⟩
                          replace H : (if 0 ≤ (ji18) then (if (ji18) < (x7_2.length : Int) then (computusref01_Times.l1 k2 x5_1 x6_1 (x7_2.set ((ji18) : Int).toNat (Go.bits .and .u64 (IntKind.u64.wrap (x8_2 + (IntKind.u64.wrap ((rd l0_1 x6_1) * (rd l1_1 x9_2))))) 4294967295)) ((IntKind.u64.wrap (x8_2 + (IntKind.u64.wrap ((rd l0_1 x6_1) * (rd l1_1 x9_2))))) / 4294967296) (wrap64 (x9_2 + 1)) a0_0 l0_1 a1_0 l1_1) else (none)) else (none)) = some (r1, r2) := by first | (rw [hji18] at H; exact H) | (simp only [hji18] at H ⊢; exact H)
                          have hji18w : (IntKind.i64.wrap (x6_1 + x9_2)) = ji18 := (i64_w _).trans hji18
                          by_cases c19 : 0 ≤ (ji18)
                          · rw [if_pos c19] at H
                            have c19b0 : decide (0 ≤ (ji18)) = true := decide_eq_true c19
                            clear c19
                            by_cases c20 : (ji18) < (x7_2.length : Int)
                            · rw [if_pos c20] at H
                              have c20b0 : decide ((ji18) < (x7_2.length : Int)) = true := decide_eq_true c20
                              clear c20
                              obtain ⟨y177, hy177⟩ : ∃ y_ : List Int, y_ = (x7_2.set ((ji18) : Int).toNat (Go.bits .and .u64 (IntKind.u64.wrap (x8_2 + (IntKind.u64.wrap ((rd l0_1 x6_1) * (rd l1_1 x9_2))))) 4294967295)) := ⟨_, rfl⟩
                              replace H : (computusref01_Times.l1 k2 x5_1 x6_1 y177 ((IntKind.u64.wrap (x8_2 + (IntKind.u64.wrap ((rd l0_1 x6_1) * (rd l1_1 x9_2))))) / 4294967296) (wrap64 (x9_2 + 1)) a0_0 l0_1 a1_0 l1_1) = some (r1, r2) := by first | (rw [hy177]; with_reducible exact H) | (have H2_ := (Option.bind_some _ _).symm.trans H; rw [hy177]; with_reducible exact H2_) | (have H2_ := (Option.bind_some _ _).symm.trans H; with_reducible exact H2_) | with_reducible exact H | (rw [hy177]; exact H) | exact H
                              have Ny177 := Aside0.mk hy177
                              clear hy177
                              have H' := Aside0.mk H
                              clear H
                              have hnb22 := NB165_166.out
                              have hnc22 := NB166_165.out
                              have hnb23 := NB165_167.out
                              have hnc23 := NB167_165.out
                              have hcz24_0 : wr.cell? ⟨gb165, 0, none⟩ = some (.bool a0_0) := (kI BK165.out 0).trans rfl
                              have hcz24_1 : wr.cell? ⟨gb165, 1, none⟩ = some (.slice A0_1 l0_1.length c0_1) := (kI BK165.out 1).trans rfl
                              have hfz24_0 := kH BK165.out 0
                              have hfz24_1 := kH BK165.out 1
                              have p175 : 0 ≤ (x6_1 : Int) := of_decide_eq_true (by first | (with_reducible assumption) | assumption)
                              have q175 : x6_1 < (l0_1.length : Int) := of_decide_eq_true (by first | (with_reducible assumption) | assumption)
                              obtain ⟨ad175, e175, hx175_0⟩ := Kd.at_int HR0_1.out x6_1 p175 q175
                              cases e175
                              replace hx175_0 := (HB.out.cell (World.block_lt_of_cell? w _ hx175_0)).trans hx175_0
                              replace p175 := eq_true p175
                              replace q175 := eq_true q175
                              have hnb25 := NB166_167.out
                              have hnc25 := NB167_166.out
                              have hcz26_0 : wr.cell? ⟨gb166, 0, none⟩ = some (.bool a1_0) := (kI BK166.out 0).trans rfl
                              have hcz26_1 : wr.cell? ⟨gb166, 1, none⟩ = some (.slice A1_1 l1_1.length c1_1) := (kI BK166.out 1).trans rfl
                              have hfz26_0 := kH BK166.out 0
                              have hfz26_1 := kH BK166.out 1
                              have p176 : 0 ≤ (x9_2 : Int) := of_decide_eq_true (by first | (with_reducible assumption) | assumption)
                              have q176 : x9_2 < (l1_1.length : Int) := of_decide_eq_true (by first | (with_reducible assumption) | assumption)
                              obtain ⟨ad176, e176, hx176_0⟩ := Kd.at_int HR1_1.out x9_2 p176 q176
                              cases e176
                              replace hx176_0 := (HB.out.cell (World.block_lt_of_cell? w _ hx176_0)).trans hx176_0
                              replace p176 := eq_true p176
                              replace q176 := eq_true q176
                              have p21 : 0 ≤ ((ji18) : Int) := of_decide_eq_true (by first | (with_reducible assumption) | assumption)
                              have q21 : ((ji18) : Int) < ((x7_2.length : Int) : Int) := of_decide_eq_true (by first | (with_reducible assumption) | assumption)
                              obtain ⟨go21, co21, eo21, gb21, gl21, cl21, HG21⟩ := Kd.R_form HO_7.out (by omega)
                              (first | cases eo21 | (injection eo21 with ea_ en_ ec_; (first | subst ea_ | (injection ea_ with ea_; subst ea_)); subst ec_; clear en_))
                              have GB21 := Aside0.mk gb21
                              have GG21 := Aside0.mk HG21
                              clear gb21 gl21 HG21
                              obtain ⟨hx21_0, hf21_0⟩ := Kd.R_celln 0 HO_7.out ((ji18) : Int) p21 q21
                              replace p21 := eq_true p21
                              replace q21 := eq_true q21
                              have HP27 := Kd.R_putg HO_7.out ((ji18) : Int) (Go.bits .and .u64 (IntKind.u64.wrap (x8_2 + (IntKind.u64.wrap ((rd l0_1 x6_1) * (rd l1_1 x9_2))))) 4294967295)
                              go_wp2_with (first | ((with_reducible refine gate_store (t := 52) (p := 39) rfl ?_); (try (rw [drewN_self wr]; generalize hq_ : World.drewN wr _ = wr; have n0_ := Aside0.mk (Kd.R_at hq_ HO_5.out); have n1_ := Aside0.mk (Kd.R_at hq_ HO_7.out); have n2_ := Aside0.mk (blk_at hq_ BK165.out); have n3_ := Aside0.mk (blk_at hq_ BK166.out); have n4_ := Aside0.mk (blk_at hq_ BK167.out); have n5_ := Aside0.mk (below_at hq_ HB.out); clear hq_ HO_5 HO_7 BK165 BK166 BK167 HB; have HO_5 := n0_; have HO_7 := n1_; have BK165 := n2_; have BK166 := n3_; have BK167 := n4_; have HB := n5_; clear n0_ n1_ n2_ n3_ n4_ n5_; (try (obtain ⟨hxr_, hfr_⟩ := Kd.R_celln 0 HO_7.out ((ji18) : Int) (of_eq_true p21) (of_eq_true q21))); (try (have HP27 := Kd.R_putg HO_7.out ((ji18) : Int) (Go.bits .and .u64 (IntKind.u64.wrap (x8_2 + (IntKind.u64.wrap ((rd l0_1 x6_1) * (rd l1_1 x9_2))))) 4294967295))))); refine store_event (t := 52) (p := 39) (v := ?vo_w28) (w1 := (wr.setCell ⟨go21, ((ji18) : Int).toNat, none⟩ (.int .u64 (Go.bits .and .u64 (IntKind.u64.wrap (x8_2 + (IntKind.u64.wrap ((rd l0_1 x6_1) * (rd l1_1 x9_2))))) 4294967295)))) ?hg ?ho ?hn ?hr ?_; (case ho => rfl); (case hg => rfl); (case hn => rfl); (case hr => first | (go_simp; done) | (go_simp; rfl)); intro w28 hw; have hg : wr.grownBy w28 (some go21) := (by rw [hw]; exact HP27.2); have hp_ : Kd.R (Kd.int .u64) 52 w28 w.heap.size (fun k_ => some k_ ≠ (u5 : Value).ownBlock) (.slice (some ⟨go21, 0, none⟩) x7_2.length co21) y177 := (by rw [hw, Ny177.out]; exact HP27.1); clear HP27; have n0_ := Aside0.mk (Kd.R_after (v := (.slice (some ⟨go21, 0, none⟩) x7_2.length co21)) (v1 := (.slice (some ⟨go21, 0, none⟩) x7_2.length co21)) (ok := (fun _ => True)) (by (with_reducible repeat (first | apply Kd.R_alloc | apply Kd.R_drewN | apply Kd.R_drew)); exact Kd.R_mono HO_5.out (fun _ hk => ⟨trivial, hk⟩)) hg (.inl rfl)); have n1_ := Aside0.mk (hp_); have n2_ := Aside0.mk (blk_grown (g := gb165) (o := .cells #[.bool a0_0, .slice (some ad175) l0_1.length c0_1] 60 (0, 0)) (by (with_reducible repeat (first | refine kE ?_ _ | refine kG ?_ | refine kF ?_ _)); exact BK165.out) hg (Kd.R_ne HO_7.out BK165.out (by decide))); have n3_ := Aside0.mk (blk_grown (g := gb166) (o := .cells #[.bool a1_0, .slice (some ad176) l1_1.length c1_1] 60 (0, 0)) (by (with_reducible repeat (first | refine kE ?_ _ | refine kG ?_ | refine kF ?_ _)); exact BK166.out) hg (Kd.R_ne HO_7.out BK166.out (by decide))); have n4_ := Aside0.mk (blk_grown (g := gb167) (o := .cells #[.bool false, .slice none 0 0] 60 (0, 0)) (by (with_reducible repeat (first | refine kE ?_ _ | refine kG ?_ | refine kF ?_ _)); exact BK167.out) hg (Kd.R_ne HO_7.out BK167.out (by decide))); have n5_ := Aside0.mk ((by rw [hw]; exact kB (HB.out) GB21.out : Below w.heap.size w w28)); clear HO_5; clear HO_7; clear BK165; clear BK166; clear BK167; clear HB; have HO_5 := n0_; have HO_7 := n1_; have BK165 := n2_; have BK166 := n3_; have BK167 := n4_; have HB := n5_; clear n0_ n1_ n2_ n3_ n4_ n5_; clear hg hw hp_))
                              repeat (go_quiet (first | ((with_reducible refine gate_store (t := 52) (p := 39) rfl ?_); (try (rw [drewN_self wr]; generalize hq_ : World.drewN wr _ = wr; have n0_ := Aside0.mk (Kd.R_at hq_ HO_5.out); have n1_ := Aside0.mk (Kd.R_at hq_ HO_7.out); have n2_ := Aside0.mk (blk_at hq_ BK165.out); have n3_ := Aside0.mk (blk_at hq_ BK166.out); have n4_ := Aside0.mk (blk_at hq_ BK167.out); have n5_ := Aside0.mk (below_at hq_ HB.out); clear hq_ HO_5 HO_7 BK165 BK166 BK167 HB; have HO_5 := n0_; have HO_7 := n1_; have BK165 := n2_; have BK166 := n3_; have BK167 := n4_; have HB := n5_; clear n0_ n1_ n2_ n3_ n4_ n5_; (try (obtain ⟨hxr_, hfr_⟩ := Kd.R_celln 0 HO_7.out ((ji18) : Int) (of_eq_true p21) (of_eq_true q21))); (try (have HP27 := Kd.R_putg HO_7.out ((ji18) : Int) (Go.bits .and .u64 (IntKind.u64.wrap (x8_2 + (IntKind.u64.wrap ((rd l0_1 x6_1) * (rd l1_1 x9_2))))) 4294967295))))); refine store_event (t := 52) (p := 39) (v := ?vo_w28) (w1 := (wr.setCell ⟨go21, ((ji18) : Int).toNat, none⟩ (.int .u64 (Go.bits .and .u64 (IntKind.u64.wrap (x8_2 + (IntKind.u64.wrap ((rd l0_1 x6_1) * (rd l1_1 x9_2))))) 4294967295)))) ?hg ?ho ?hn ?hr ?_; (case ho => rfl); (case hg => rfl); (case hn => rfl); (case hr => first | (go_simp; done) | (go_simp; rfl)); intro w28 hw; have hg : wr.grownBy w28 (some go21) := (by rw [hw]; exact HP27.2); have hp_ : Kd.R (Kd.int .u64) 52 w28 w.heap.size (fun k_ => some k_ ≠ (u5 : Value).ownBlock) (.slice (some ⟨go21, 0, none⟩) x7_2.length co21) y177 := (by rw [hw, Ny177.out]; exact HP27.1); clear HP27; have n0_ := Aside0.mk (Kd.R_after (v := (.slice (some ⟨go21, 0, none⟩) x7_2.length co21)) (v1 := (.slice (some ⟨go21, 0, none⟩) x7_2.length co21)) (ok := (fun _ => True)) (by (with_reducible repeat (first | apply Kd.R_alloc | apply Kd.R_drewN | apply Kd.R_drew)); exact Kd.R_mono HO_5.out (fun _ hk => ⟨trivial, hk⟩)) hg (.inl rfl)); have n1_ := Aside0.mk (hp_); have n2_ := Aside0.mk (blk_grown (g := gb165) (o := .cells #[.bool a0_0, .slice (some ad175) l0_1.length c0_1] 60 (0, 0)) (by (with_reducible repeat (first | refine kE ?_ _ | refine kG ?_ | refine kF ?_ _)); exact BK165.out) hg (Kd.R_ne HO_7.out BK165.out (by decide))); have n3_ := Aside0.mk (blk_grown (g := gb166) (o := .cells #[.bool a1_0, .slice (some ad176) l1_1.length c1_1] 60 (0, 0)) (by (with_reducible repeat (first | refine kE ?_ _ | refine kG ?_ | refine kF ?_ _)); exact BK166.out) hg (Kd.R_ne HO_7.out BK166.out (by decide))); have n4_ := Aside0.mk (blk_grown (g := gb167) (o := .cells #[.bool false, .slice none 0 0] 60 (0, 0)) (by (with_reducible repeat (first | refine kE ?_ _ | refine kG ?_ | refine kF ?_ _)); exact BK167.out) hg (Kd.R_ne HO_7.out BK167.out (by decide))); have n5_ := Aside0.mk ((by rw [hw]; exact kB (HB.out) GB21.out : Below w.heap.size w w28)); clear HO_5; clear HO_7; clear BK165; clear BK166; clear BK167; clear HB; have HO_5 := n0_; have HO_7 := n1_; have BK165 := n2_; have BK166 := n3_; have BK167 := n4_; have HB := n5_; clear n0_ n1_ n2_ n3_ n4_ n5_; clear hg hw hp_)); try go_wp2_with (first | ((with_reducible refine gate_store (t := 52) (p := 39) rfl ?_); (try (rw [drewN_self wr]; generalize hq_ : World.drewN wr _ = wr; have n0_ := Aside0.mk (Kd.R_at hq_ HO_5.out); have n1_ := Aside0.mk (Kd.R_at hq_ HO_7.out); have n2_ := Aside0.mk (blk_at hq_ BK165.out); have n3_ := Aside0.mk (blk_at hq_ BK166.out); have n4_ := Aside0.mk (blk_at hq_ BK167.out); have n5_ := Aside0.mk (below_at hq_ HB.out); clear hq_ HO_5 HO_7 BK165 BK166 BK167 HB; have HO_5 := n0_; have HO_7 := n1_; have BK165 := n2_; have BK166 := n3_; have BK167 := n4_; have HB := n5_; clear n0_ n1_ n2_ n3_ n4_ n5_; (try (obtain ⟨hxr_, hfr_⟩ := Kd.R_celln 0 HO_7.out ((ji18) : Int) (of_eq_true p21) (of_eq_true q21))); (try (have HP27 := Kd.R_putg HO_7.out ((ji18) : Int) (Go.bits .and .u64 (IntKind.u64.wrap (x8_2 + (IntKind.u64.wrap ((rd l0_1 x6_1) * (rd l1_1 x9_2))))) 4294967295))))); refine store_event (t := 52) (p := 39) (v := ?vo_w28) (w1 := (wr.setCell ⟨go21, ((ji18) : Int).toNat, none⟩ (.int .u64 (Go.bits .and .u64 (IntKind.u64.wrap (x8_2 + (IntKind.u64.wrap ((rd l0_1 x6_1) * (rd l1_1 x9_2))))) 4294967295)))) ?hg ?ho ?hn ?hr ?_; (case ho => rfl); (case hg => rfl); (case hn => rfl); (case hr => first | (go_simp; done) | (go_simp; rfl)); intro w28 hw; have hg : wr.grownBy w28 (some go21) := (by rw [hw]; exact HP27.2); have hp_ : Kd.R (Kd.int .u64) 52 w28 w.heap.size (fun k_ => some k_ ≠ (u5 : Value).ownBlock) (.slice (some ⟨go21, 0, none⟩) x7_2.length co21) y177 := (by rw [hw, Ny177.out]; exact HP27.1); clear HP27; have n0_ := Aside0.mk (Kd.R_after (v := (.slice (some ⟨go21, 0, none⟩) x7_2.length co21)) (v1 := (.slice (some ⟨go21, 0, none⟩) x7_2.length co21)) (ok := (fun _ => True)) (by (with_reducible repeat (first | apply Kd.R_alloc | apply Kd.R_drewN | apply Kd.R_drew)); exact Kd.R_mono HO_5.out (fun _ hk => ⟨trivial, hk⟩)) hg (.inl rfl)); have n1_ := Aside0.mk (hp_); have n2_ := Aside0.mk (blk_grown (g := gb165) (o := .cells #[.bool a0_0, .slice (some ad175) l0_1.length c0_1] 60 (0, 0)) (by (with_reducible repeat (first | refine kE ?_ _ | refine kG ?_ | refine kF ?_ _)); exact BK165.out) hg (Kd.R_ne HO_7.out BK165.out (by decide))); have n3_ := Aside0.mk (blk_grown (g := gb166) (o := .cells #[.bool a1_0, .slice (some ad176) l1_1.length c1_1] 60 (0, 0)) (by (with_reducible repeat (first | refine kE ?_ _ | refine kG ?_ | refine kF ?_ _)); exact BK166.out) hg (Kd.R_ne HO_7.out BK166.out (by decide))); have n4_ := Aside0.mk (blk_grown (g := gb167) (o := .cells #[.bool false, .slice none 0 0] 60 (0, 0)) (by (with_reducible repeat (first | refine kE ?_ _ | refine kG ?_ | refine kF ?_ _)); exact BK167.out) hg (Kd.R_ne HO_7.out BK167.out (by decide))); have n5_ := Aside0.mk ((by rw [hw]; exact kB (HB.out) GB21.out : Below w.heap.size w w28)); clear HO_5; clear HO_7; clear BK165; clear BK166; clear BK167; clear HB; have HO_5 := n0_; have HO_7 := n1_; have BK165 := n2_; have BK166 := n3_; have BK167 := n4_; have HB := n5_; clear n0_ n1_ n2_ n3_ n4_ n5_; clear hg hw hp_)))
                              go_roundg k2
                              case measure => have := HK1.out; have := HK2.out; omega
                              case rel => exact ⟨(y177), ((IntKind.u64.wrap (x8_2 + (IntKind.u64.wrap ((rd l0_1 x6_1) * (rd l1_1 x9_2))))) / 4294967296), (wrap64 (x9_2 + 1)), (by first | rfl | (simp; done) | (simp [*]; done)), (by first | rfl | (simp; done) | (simp [*]; done)), H', ⟨by have := HK1.out; have := HK2.out; omega⟩, ⟨by (with_reducible repeat (first | apply Kd.R_alloc | apply Kd.R_drewN | apply Kd.R_drew)); exact Kd.R_mono HO_5.out (fun _ hk => hk.2)⟩, ⟨by (with_reducible repeat (first | apply Kd.R_alloc | apply Kd.R_drewN | apply Kd.R_drew)); exact HO_7.out⟩, ⟨by (with_reducible repeat (first | refine kE ?_ _ | refine kG ?_ | refine kF ?_ _)); exact BK165.out⟩, ⟨by (with_reducible repeat (first | refine kE ?_ _ | refine kG ?_ | refine kF ?_ _)); exact BK166.out⟩, ⟨by (with_reducible repeat (first | refine kE ?_ _ | refine kG ?_ | refine kF ?_ _)); exact BK167.out⟩, ⟨by repeat (first | (with_reducible first | exact HB.out | apply kC | apply kA | apply kD | refine kB ?_ GE165.out | refine kB ?_ GE166.out | refine kB ?_ GE167.out) | exact HB.out)⟩⟩
                            · rw [if_neg c20] at H
                              exact absurd H (by simp)
                          · rw [if_neg c19] at H
                            exact absurd H (by simp)
                        · rw [if_neg c17] at H
                          exact absurd H (by simp)
                      · rw [if_neg c16] at H
                        exact absurd H (by simp)
                    · rw [if_neg c15] at H
                      exact absurd H (by simp)
                  · rw [if_neg c14] at H
                    exact absurd H (by simp)
                · rw [if_neg c13] at H
                  have c13b0 : decide (x9_2 < 3) = false := decide_eq_false c13
                  clear c13
                  replace H := Option.bind_eq_some_iff.mp H
                  obtain ⟨t178, A290, H⟩ := H
                  replace H : (computusref01_Times.l0 k2 t178 (wrap64 (x6_1 + 1)) a0_0 l0_1 a1_0 l1_1) = some (r1, r2) := H
                  have A29 := Aside0.mk A290
                  clear A290
                  have H' := Aside0.mk H
                  clear H
                  obtain ⟨Ao30, co30, eo30⟩ := Kd.R_slice HO_5.out
                  subst eo30
                  obtain ⟨Ao31, co31, eo31⟩ := Kd.R_slice HO_7.out
                  subst eo31
                  go_wp2_with (first | (go_at_call 55; (with_reducible refine (computusref01_add.calls k2 _ _ x5_1 _ _ x7_2 t178 _ ?side1 ?side2 ?side3 ?side4 A29.out).mono ?_); (case side1 => repeat (first | exact (Kd.R_reads' HO_5.out).2.2 | (with_reducible refine Kd.C_alloc ?_ _) | (with_reducible refine Kd.C_drewN ?_ _) | (with_reducible refine Kd.C_drew ?_))); (case side2 => exact (Kd.R_reads' HO_5.out).2.1); (case side3 => repeat (first | exact (Kd.R_reads' HO_7.out).2.2 | (with_reducible refine Kd.C_alloc ?_ _) | (with_reducible refine Kd.C_drewN ?_ _) | (with_reducible refine Kd.C_drew ?_))); (case side4 => exact (Kd.R_reads' HO_7.out).2.1); rintro e w32 ⟨v179, rfl, ho0, hb⟩; have n0_ := Aside0.mk (Kd.R_elder' (by (with_reducible repeat (first | apply Kd.R_alloc | apply Kd.R_drewN | apply Kd.R_drew)); exact HO_5.out) (Kd.R_base ho0) hb); have n1_ := Aside0.mk (Kd.R_elder' (by (with_reducible repeat (first | apply Kd.R_alloc | apply Kd.R_drewN | apply Kd.R_drew)); exact HO_7.out) (Kd.R_base ho0) hb); have n2_ := Aside0.mk (Kd.R_lower (Kd.R_new' (Kd.R_new' ho0 (Kd.R_lt (by (with_reducible repeat (first | apply Kd.R_alloc | apply Kd.R_drewN | apply Kd.R_drew)); exact HO_5.out))) (Kd.R_lt (by (with_reducible repeat (first | apply Kd.R_alloc | apply Kd.R_drewN | apply Kd.R_drew)); exact HO_7.out))) (kK (by repeat (first | (with_reducible first | exact HB.out | apply kC | apply kA | apply kD | refine kB ?_ GE165.out | refine kB ?_ GE166.out | refine kB ?_ GE167.out) | exact HB.out)))); have n3_ := Aside0.mk (kJ (g := gb165) (o := .cells #[.bool a0_0, .slice A0_1 l0_1.length c0_1] 60 (0, 0)) (by (with_reducible repeat (first | refine kE ?_ _ | refine kG ?_ | refine kF ?_ _)); exact BK165.out) hb); have n4_ := Aside0.mk (kJ (g := gb166) (o := .cells #[.bool a1_0, .slice A1_1 l1_1.length c1_1] 60 (0, 0)) (by (with_reducible repeat (first | refine kE ?_ _ | refine kG ?_ | refine kF ?_ _)); exact BK166.out) hb); have n5_ := Aside0.mk (kJ (g := gb167) (o := .cells #[.bool false, .slice none 0 0] 60 (0, 0)) (by (with_reducible repeat (first | refine kE ?_ _ | refine kG ?_ | refine kF ?_ _)); exact BK167.out) hb); have n6_ := Aside0.mk (kL (by repeat (first | (with_reducible first | exact HB.out | apply kC | apply kA | apply kD | refine kB ?_ GE165.out | refine kB ?_ GE166.out | refine kB ?_ GE167.out) | exact HB.out)) hb); clear HO_5; clear HO_7; clear BK165; clear BK166; clear BK167; clear HB; have HO_5 := n0_; have HO_7 := n1_; have HO180 := n2_; have BK165 := n3_; have BK166 := n4_; have BK167 := n5_; have HB := n6_; clear n0_ n1_ n2_ n3_ n4_ n5_ n6_; (try clear hb); (try clear hb2); (try clear hk); (try clear hi); (try clear ho0)))
                  repeat (go_quiet (first | (go_at_call 55; (with_reducible refine (computusref01_add.calls k2 _ _ x5_1 _ _ x7_2 t178 _ ?side1 ?side2 ?side3 ?side4 A29.out).mono ?_); (case side1 => repeat (first | exact (Kd.R_reads' HO_5.out).2.2 | (with_reducible refine Kd.C_alloc ?_ _) | (with_reducible refine Kd.C_drewN ?_ _) | (with_reducible refine Kd.C_drew ?_))); (case side2 => exact (Kd.R_reads' HO_5.out).2.1); (case side3 => repeat (first | exact (Kd.R_reads' HO_7.out).2.2 | (with_reducible refine Kd.C_alloc ?_ _) | (with_reducible refine Kd.C_drewN ?_ _) | (with_reducible refine Kd.C_drew ?_))); (case side4 => exact (Kd.R_reads' HO_7.out).2.1); rintro e w32 ⟨v179, rfl, ho0, hb⟩; have n0_ := Aside0.mk (Kd.R_elder' (by (with_reducible repeat (first | apply Kd.R_alloc | apply Kd.R_drewN | apply Kd.R_drew)); exact HO_5.out) (Kd.R_base ho0) hb); have n1_ := Aside0.mk (Kd.R_elder' (by (with_reducible repeat (first | apply Kd.R_alloc | apply Kd.R_drewN | apply Kd.R_drew)); exact HO_7.out) (Kd.R_base ho0) hb); have n2_ := Aside0.mk (Kd.R_lower (Kd.R_new' (Kd.R_new' ho0 (Kd.R_lt (by (with_reducible repeat (first | apply Kd.R_alloc | apply Kd.R_drewN | apply Kd.R_drew)); exact HO_5.out))) (Kd.R_lt (by (with_reducible repeat (first | apply Kd.R_alloc | apply Kd.R_drewN | apply Kd.R_drew)); exact HO_7.out))) (kK (by repeat (first | (with_reducible first | exact HB.out | apply kC | apply kA | apply kD | refine kB ?_ GE165.out | refine kB ?_ GE166.out | refine kB ?_ GE167.out) | exact HB.out)))); have n3_ := Aside0.mk (kJ (g := gb165) (o := .cells #[.bool a0_0, .slice A0_1 l0_1.length c0_1] 60 (0, 0)) (by (with_reducible repeat (first | refine kE ?_ _ | refine kG ?_ | refine kF ?_ _)); exact BK165.out) hb); have n4_ := Aside0.mk (kJ (g := gb166) (o := .cells #[.bool a1_0, .slice A1_1 l1_1.length c1_1] 60 (0, 0)) (by (with_reducible repeat (first | refine kE ?_ _ | refine kG ?_ | refine kF ?_ _)); exact BK166.out) hb); have n5_ := Aside0.mk (kJ (g := gb167) (o := .cells #[.bool false, .slice none 0 0] 60 (0, 0)) (by (with_reducible repeat (first | refine kE ?_ _ | refine kG ?_ | refine kF ?_ _)); exact BK167.out) hb); have n6_ := Aside0.mk (kL (by repeat (first | (with_reducible first | exact HB.out | apply kC | apply kA | apply kD | refine kB ?_ GE165.out | refine kB ?_ GE166.out | refine kB ?_ GE167.out) | exact HB.out)) hb); clear HO_5; clear HO_7; clear BK165; clear BK166; clear BK167; clear HB; have HO_5 := n0_; have HO_7 := n1_; have HO180 := n2_; have BK165 := n3_; have BK166 := n4_; have BK167 := n5_; have HB := n6_; clear n0_ n1_ n2_ n3_ n4_ n5_ n6_; (try clear hb); (try clear hb2); (try clear hk); (try clear hi); (try clear ho0))); try go_wp2_with (first | (go_at_call 55; (with_reducible refine (computusref01_add.calls k2 _ _ x5_1 _ _ x7_2 t178 _ ?side1 ?side2 ?side3 ?side4 A29.out).mono ?_); (case side1 => repeat (first | exact (Kd.R_reads' HO_5.out).2.2 | (with_reducible refine Kd.C_alloc ?_ _) | (with_reducible refine Kd.C_drewN ?_ _) | (with_reducible refine Kd.C_drew ?_))); (case side2 => exact (Kd.R_reads' HO_5.out).2.1); (case side3 => repeat (first | exact (Kd.R_reads' HO_7.out).2.2 | (with_reducible refine Kd.C_alloc ?_ _) | (with_reducible refine Kd.C_drewN ?_ _) | (with_reducible refine Kd.C_drew ?_))); (case side4 => exact (Kd.R_reads' HO_7.out).2.1); rintro e w32 ⟨v179, rfl, ho0, hb⟩; have n0_ := Aside0.mk (Kd.R_elder' (by (with_reducible repeat (first | apply Kd.R_alloc | apply Kd.R_drewN | apply Kd.R_drew)); exact HO_5.out) (Kd.R_base ho0) hb); have n1_ := Aside0.mk (Kd.R_elder' (by (with_reducible repeat (first | apply Kd.R_alloc | apply Kd.R_drewN | apply Kd.R_drew)); exact HO_7.out) (Kd.R_base ho0) hb); have n2_ := Aside0.mk (Kd.R_lower (Kd.R_new' (Kd.R_new' ho0 (Kd.R_lt (by (with_reducible repeat (first | apply Kd.R_alloc | apply Kd.R_drewN | apply Kd.R_drew)); exact HO_5.out))) (Kd.R_lt (by (with_reducible repeat (first | apply Kd.R_alloc | apply Kd.R_drewN | apply Kd.R_drew)); exact HO_7.out))) (kK (by repeat (first | (with_reducible first | exact HB.out | apply kC | apply kA | apply kD | refine kB ?_ GE165.out | refine kB ?_ GE166.out | refine kB ?_ GE167.out) | exact HB.out)))); have n3_ := Aside0.mk (kJ (g := gb165) (o := .cells #[.bool a0_0, .slice A0_1 l0_1.length c0_1] 60 (0, 0)) (by (with_reducible repeat (first | refine kE ?_ _ | refine kG ?_ | refine kF ?_ _)); exact BK165.out) hb); have n4_ := Aside0.mk (kJ (g := gb166) (o := .cells #[.bool a1_0, .slice A1_1 l1_1.length c1_1] 60 (0, 0)) (by (with_reducible repeat (first | refine kE ?_ _ | refine kG ?_ | refine kF ?_ _)); exact BK166.out) hb); have n5_ := Aside0.mk (kJ (g := gb167) (o := .cells #[.bool false, .slice none 0 0] 60 (0, 0)) (by (with_reducible repeat (first | refine kE ?_ _ | refine kG ?_ | refine kF ?_ _)); exact BK167.out) hb); have n6_ := Aside0.mk (kL (by repeat (first | (with_reducible first | exact HB.out | apply kC | apply kA | apply kD | refine kB ?_ GE165.out | refine kB ?_ GE166.out | refine kB ?_ GE167.out) | exact HB.out)) hb); clear HO_5; clear HO_7; clear BK165; clear BK166; clear BK167; clear HB; have HO_5 := n0_; have HO_7 := n1_; have HO180 := n2_; have BK165 := n3_; have BK166 := n4_; have BK167 := n5_; have HB := n6_; clear n0_ n1_ n2_ n3_ n4_ n5_ n6_; (try clear hb); (try clear hb2); (try clear hk); (try clear hi); (try clear ho0))))
                  go_roundg k2
                  case measure => have := HK1.out; have := HK2.out; omega
                  case rel => exact ⟨(t178), (wrap64 (x6_1 + 1)), (by first | rfl | (simp; done) | (simp [*]; done)), H', ⟨by have := HK1.out; have := HK2.out; omega⟩, ⟨by (with_reducible repeat (first | apply Kd.R_alloc | apply Kd.R_drewN | apply Kd.R_drew)); exact Kd.R_mono HO180.out (fun _ hk => trivial)⟩, ⟨by (with_reducible repeat (first | refine kE ?_ _ | refine kG ?_ | refine kF ?_ _)); exact BK165.out⟩, ⟨by (with_reducible repeat (first | refine kE ?_ _ | refine kG ?_ | refine kF ?_ _)); exact BK166.out⟩, ⟨by (with_reducible repeat (first | refine kE ?_ _ | refine kG ?_ | refine kF ?_ _)); exact BK167.out⟩, ⟨by repeat (first | (with_reducible first | exact HB.out | apply kC | apply kA | apply kD | refine kB ?_ GE165.out | refine kB ?_ GE166.out | refine kB ?_ GE167.out) | exact HB.out)⟩⟩
          · rw [if_neg c10] at H
            exact absurd H (by simp)
        · rw [if_neg c9] at H
          have c9b0 : decide (x6_1 < 2) = false := decide_eq_false c9
          clear c9
          by_cases c33 : (a0_0 != a1_0) = true
          · rw [if_pos c33] at H
            have c33b0 : (a0_0 != a1_0) = true := c33
            (try (have c33b1 : decide (a0_0 = a1_0) = false := by simpa using c33))
            (try (have c33b2 : (a0_0 == a1_0) = false := by simpa using c33))
            (try (have c33b3 : ¬ (a0_0 = a1_0) := by simpa using c33))
            clear c33
            replace H := Option.bind_eq_some_iff.mp H
            obtain ⟨t171, A340, H⟩ := H
            replace H : (some (!t171, x5_1)) = some (r1, r2) := H
            have A34 := Aside0.mk A340
            clear A340
            simp only [Option.some.injEq, Prod.mk.injEq] at H
            obtain ⟨rfl, rfl⟩ := H
            have hnb35 := NB165_166.out
            have hnc35 := NB166_165.out
            have hnb36 := NB165_167.out
            have hnc36 := NB167_165.out
            have hcz37_0 : wr.cell? ⟨gb165, 0, none⟩ = some (.bool a0_0) := (kI BK165.out 0).trans rfl
            have hcz37_1 : wr.cell? ⟨gb165, 1, none⟩ = some (.slice A0_1 l0_1.length c0_1) := (kI BK165.out 1).trans rfl
            have hfz37_0 := kH BK165.out 0
            have hfz37_1 := kH BK165.out 1
            have hnb38 := NB166_167.out
            have hnc38 := NB167_166.out
            have hcz39_0 : wr.cell? ⟨gb166, 0, none⟩ = some (.bool a1_0) := (kI BK166.out 0).trans rfl
            have hcz39_1 : wr.cell? ⟨gb166, 1, none⟩ = some (.slice A1_1 l1_1.length c1_1) := (kI BK166.out 1).trans rfl
            have hfz39_0 := kH BK166.out 0
            have hfz39_1 := kH BK166.out 1
            obtain ⟨Ao40, co40, eo40⟩ := Kd.R_slice HO_5.out
            subst eo40
            go_wp2_with (first | (go_at_call 58; (with_reducible refine (computusref01_zero.calls k1 _ _ x5_1 t171 _ ?side1 ?side2 A34.out).mono ?_); (case side1 => repeat (first | exact (Kd.R_reads' HO_5.out).2.2 | (with_reducible refine Kd.C_alloc ?_ _) | (with_reducible refine Kd.C_drewN ?_ _) | (with_reducible refine Kd.C_drew ?_))); (case side2 => exact (Kd.R_reads' HO_5.out).2.1); rintro e w41 ⟨rfl, hb⟩; have n0_ := Aside0.mk (Kd.R_below (by (with_reducible repeat (first | apply Kd.R_alloc | apply Kd.R_drewN | apply Kd.R_drew)); exact HO_5.out) hb); have n1_ := Aside0.mk (kJ (g := gb165) (o := .cells #[.bool a0_0, .slice A0_1 l0_1.length c0_1] 60 (0, 0)) (by (with_reducible repeat (first | refine kE ?_ _ | refine kG ?_ | refine kF ?_ _)); exact BK165.out) hb); have n2_ := Aside0.mk (kJ (g := gb166) (o := .cells #[.bool a1_0, .slice A1_1 l1_1.length c1_1] 60 (0, 0)) (by (with_reducible repeat (first | refine kE ?_ _ | refine kG ?_ | refine kF ?_ _)); exact BK166.out) hb); have n3_ := Aside0.mk (kJ (g := gb167) (o := .cells #[.bool false, .slice none 0 0] 60 (0, 0)) (by (with_reducible repeat (first | refine kE ?_ _ | refine kG ?_ | refine kF ?_ _)); exact BK167.out) hb); have n4_ := Aside0.mk (kL (by repeat (first | (with_reducible first | exact HB.out | apply kC | apply kA | apply kD | refine kB ?_ GE165.out | refine kB ?_ GE166.out | refine kB ?_ GE167.out) | exact HB.out)) hb); clear HO_5; clear BK165; clear BK166; clear BK167; clear HB; have HO_5 := n0_; have BK165 := n1_; have BK166 := n2_; have BK167 := n3_; have HB := n4_; clear n0_ n1_ n2_ n3_ n4_; (try clear hb); (try clear hb2); (try clear hk); (try clear hi); have hcz42_0 : w41.cell? ⟨gb167, 0, none⟩ = some (.bool false) := (kI BK167.out 0).trans rfl; have hcz42_1 : w41.cell? ⟨gb167, 1, none⟩ = some (.slice none 0 0) := (kI BK167.out 1).trans rfl; have hfz42_0 := kH BK167.out 0; have hfz42_1 := kH BK167.out 1))
            repeat (go_quiet (first | (go_at_call 58; (with_reducible refine (computusref01_zero.calls k1 _ _ x5_1 t171 _ ?side1 ?side2 A34.out).mono ?_); (case side1 => repeat (first | exact (Kd.R_reads' HO_5.out).2.2 | (with_reducible refine Kd.C_alloc ?_ _) | (with_reducible refine Kd.C_drewN ?_ _) | (with_reducible refine Kd.C_drew ?_))); (case side2 => exact (Kd.R_reads' HO_5.out).2.1); rintro e w41 ⟨rfl, hb⟩; have n0_ := Aside0.mk (Kd.R_below (by (with_reducible repeat (first | apply Kd.R_alloc | apply Kd.R_drewN | apply Kd.R_drew)); exact HO_5.out) hb); have n1_ := Aside0.mk (kJ (g := gb165) (o := .cells #[.bool a0_0, .slice A0_1 l0_1.length c0_1] 60 (0, 0)) (by (with_reducible repeat (first | refine kE ?_ _ | refine kG ?_ | refine kF ?_ _)); exact BK165.out) hb); have n2_ := Aside0.mk (kJ (g := gb166) (o := .cells #[.bool a1_0, .slice A1_1 l1_1.length c1_1] 60 (0, 0)) (by (with_reducible repeat (first | refine kE ?_ _ | refine kG ?_ | refine kF ?_ _)); exact BK166.out) hb); have n3_ := Aside0.mk (kJ (g := gb167) (o := .cells #[.bool false, .slice none 0 0] 60 (0, 0)) (by (with_reducible repeat (first | refine kE ?_ _ | refine kG ?_ | refine kF ?_ _)); exact BK167.out) hb); have n4_ := Aside0.mk (kL (by repeat (first | (with_reducible first | exact HB.out | apply kC | apply kA | apply kD | refine kB ?_ GE165.out | refine kB ?_ GE166.out | refine kB ?_ GE167.out) | exact HB.out)) hb); clear HO_5; clear BK165; clear BK166; clear BK167; clear HB; have HO_5 := n0_; have BK165 := n1_; have BK166 := n2_; have BK167 := n3_; have HB := n4_; clear n0_ n1_ n2_ n3_ n4_; (try clear hb); (try clear hb2); (try clear hk); (try clear hi); have hcz42_0 : w41.cell? ⟨gb167, 0, none⟩ = some (.bool false) := (kI BK167.out 0).trans rfl; have hcz42_1 : w41.cell? ⟨gb167, 1, none⟩ = some (.slice none 0 0) := (kI BK167.out 1).trans rfl; have hfz42_0 := kH BK167.out 0; have hfz42_1 := kH BK167.out 1)); try go_wp2_with (first | (go_at_call 58; (with_reducible refine (computusref01_zero.calls k1 _ _ x5_1 t171 _ ?side1 ?side2 A34.out).mono ?_); (case side1 => repeat (first | exact (Kd.R_reads' HO_5.out).2.2 | (with_reducible refine Kd.C_alloc ?_ _) | (with_reducible refine Kd.C_drewN ?_ _) | (with_reducible refine Kd.C_drew ?_))); (case side2 => exact (Kd.R_reads' HO_5.out).2.1); rintro e w41 ⟨rfl, hb⟩; have n0_ := Aside0.mk (Kd.R_below (by (with_reducible repeat (first | apply Kd.R_alloc | apply Kd.R_drewN | apply Kd.R_drew)); exact HO_5.out) hb); have n1_ := Aside0.mk (kJ (g := gb165) (o := .cells #[.bool a0_0, .slice A0_1 l0_1.length c0_1] 60 (0, 0)) (by (with_reducible repeat (first | refine kE ?_ _ | refine kG ?_ | refine kF ?_ _)); exact BK165.out) hb); have n2_ := Aside0.mk (kJ (g := gb166) (o := .cells #[.bool a1_0, .slice A1_1 l1_1.length c1_1] 60 (0, 0)) (by (with_reducible repeat (first | refine kE ?_ _ | refine kG ?_ | refine kF ?_ _)); exact BK166.out) hb); have n3_ := Aside0.mk (kJ (g := gb167) (o := .cells #[.bool false, .slice none 0 0] 60 (0, 0)) (by (with_reducible repeat (first | refine kE ?_ _ | refine kG ?_ | refine kF ?_ _)); exact BK167.out) hb); have n4_ := Aside0.mk (kL (by repeat (first | (with_reducible first | exact HB.out | apply kC | apply kA | apply kD | refine kB ?_ GE165.out | refine kB ?_ GE166.out | refine kB ?_ GE167.out) | exact HB.out)) hb); clear HO_5; clear BK165; clear BK166; clear BK167; clear HB; have HO_5 := n0_; have BK165 := n1_; have BK166 := n2_; have BK167 := n3_; have HB := n4_; clear n0_ n1_ n2_ n3_ n4_; (try clear hb); (try clear hb2); (try clear hk); (try clear hi); have hcz42_0 : w41.cell? ⟨gb167, 0, none⟩ = some (.bool false) := (kI BK167.out 0).trans rfl; have hcz42_1 : w41.cell? ⟨gb167, 1, none⟩ = some (.slice none 0 0) := (kI BK167.out 1).trans rfl; have hfz42_0 := kH BK167.out 0; have hfz42_1 := kH BK167.out 1)))
            refine bodyPost_ret (results_cell_row rfl _ _ gb167 60 #[.bool (!t171), .slice Ao40 x5_1.length co40] (0, 0) _ rfl (by (with_reducible repeat (first | refine kE ?_ _ | refine kG ?_ | refine kF ?_ _)); refine blk_put (cs := #[.bool (!t171), .slice none 0 0]) ?_ 1 _ rfl; (with_reducible repeat (first | refine kE ?_ _ | refine kG ?_ | refine kF ?_ _)); refine blk_put (cs := #[.bool false, .slice none 0 0]) ?_ 0 _ rfl; (with_reducible repeat (first | refine kE ?_ _ | refine kG ?_ | refine kF ?_ _)); exact BK167.out) Try.underlying60 rfl (by kernel_rfl)) rfl ?_
            exact ⟨_, by first | rfl | (simp [errW_none, errW_some] <;> rfl) | (simp [*, errW_none, errW_some] <;> rfl), by (with_reducible repeat (first | apply Kd.R_alloc | apply Kd.R_drewN | apply Kd.R_drew)); exact Kd.R_mono (Kd.R_far (p := ⟨gb167, 1, none⟩) (Kd.R_far (p := ⟨gb167, 0, none⟩) (Kd.R_types HO_5.out BK167.out (by decide)) (fun _ hk => hk.2) (.bool (!t171))) (fun _ hk => hk.2) (.slice Ao40 x5_1.length co40)) (fun _ hk => trivial), by repeat (first | (with_reducible first | exact HB.out | apply kC | apply kA | apply kD | refine kB ?_ GE165.out | refine kB ?_ GE166.out | refine kB ?_ GE167.out) | exact HB.out)⟩
          · rw [if_neg c33] at H
            have c33b0 : (a0_0 != a1_0) = false := by simpa using c33
            (try (have c33b1 : decide (a0_0 = a1_0) = true := by simpa using c33))
            (try (have c33b2 : (a0_0 == a1_0) = true := by simpa using c33))
            clear c33
            simp only [Option.some.injEq, Prod.mk.injEq] at H
            obtain ⟨rfl, rfl⟩ := H
            have hnb43 := NB165_166.out
            have hnc43 := NB166_165.out
            have hnb44 := NB165_167.out
            have hnc44 := NB167_165.out
            have hcz45_0 : wr.cell? ⟨gb165, 0, none⟩ = some (.bool a0_0) := (kI BK165.out 0).trans rfl
            have hcz45_1 : wr.cell? ⟨gb165, 1, none⟩ = some (.slice A0_1 l0_1.length c0_1) := (kI BK165.out 1).trans rfl
            have hfz45_0 := kH BK165.out 0
            have hfz45_1 := kH BK165.out 1
            have hnb46 := NB166_167.out
            have hnc46 := NB167_166.out
            have hcz47_0 : wr.cell? ⟨gb166, 0, none⟩ = some (.bool a1_0) := (kI BK166.out 0).trans rfl
            have hcz47_1 : wr.cell? ⟨gb166, 1, none⟩ = some (.slice A1_1 l1_1.length c1_1) := (kI BK166.out 1).trans rfl
            have hfz47_0 := kH BK166.out 0
            have hfz47_1 := kH BK166.out 1
            obtain ⟨Ao48, co48, eo48⟩ := Kd.R_slice HO_5.out
            subst eo48
            have hcz49_0 : wr.cell? ⟨gb167, 0, none⟩ = some (.bool false) := (kI BK167.out 0).trans rfl
            have hcz49_1 : wr.cell? ⟨gb167, 1, none⟩ = some (.slice none 0 0) := (kI BK167.out 1).trans rfl
            have hfz49_0 := kH BK167.out 0
            have hfz49_1 := kH BK167.out 1
            go_wp2
            repeat (go_quiet (fail); try go_wp2)
            refine bodyPost_ret (results_cell_row rfl _ _ gb167 60 #[.bool false, .slice Ao48 x5_1.length co48] (0, 0) _ rfl (by (with_reducible repeat (first | refine kE ?_ _ | refine kG ?_ | refine kF ?_ _)); refine blk_put (cs := #[.bool false, .slice none 0 0]) ?_ 1 _ rfl; (with_reducible repeat (first | refine kE ?_ _ | refine kG ?_ | refine kF ?_ _)); refine blk_put (cs := #[.bool false, .slice none 0 0]) ?_ 0 _ rfl; (with_reducible repeat (first | refine kE ?_ _ | refine kG ?_ | refine kF ?_ _)); exact BK167.out) Try.underlying60 rfl (by kernel_rfl)) rfl ?_
            exact ⟨_, by first | rfl | (simp [errW_none, errW_some] <;> rfl) | (simp [*, errW_none, errW_some] <;> rfl), by (with_reducible repeat (first | apply Kd.R_alloc | apply Kd.R_drewN | apply Kd.R_drew)); exact Kd.R_mono (Kd.R_far (p := ⟨gb167, 1, none⟩) (Kd.R_far (p := ⟨gb167, 0, none⟩) (Kd.R_types HO_5.out BK167.out (by decide)) (fun _ hk => hk.2) (.bool false)) (fun _ hk => hk.2) (.slice Ao48 x5_1.length co48)) (fun _ hk => trivial), by repeat (first | (with_reducible first | exact HB.out | apply kC | apply kA | apply kD | refine kB ?_ GE165.out | refine kB ?_ GE166.out | refine kB ?_ GE167.out) | exact HB.out)⟩
  · rw [if_neg c3] at H
    exact absurd H (by simp)
end Go.Proofs.Ytkongoedgngfhaa.P
namespace Go.Proofs.Ytkongoedgngfhaa.P
open Go.RowKit Go.Proofs.YtkongoedgngfhaaW.PrintWords Go.Proofs.YtkongoedgngfhaaW.PrintLast Go.Proofs.YtkongoedgngfhaaW.PrintMore
attribute [local go_sem] max2_int min2_int max_two min_two max_three min_three max_four min_four   -- for this text's walks alone
set_option linter.unusedVariables false
set_option linter.unusedSimpArgs false
def computusref04_at.f (k : Nat) (a0_0 : Int) (a0_1 : Int) (a1 : Int) : Option (Bool × List Int) := (computusref01_Of.f a0_0).bind fun bt397 => ((computusref04_ten.f k (wrap64 (a1 - a0_1))).bind fun t401 => ((computusref01_Of.f t401).bind fun bt402 => ((computusref01_Times.f k bt397.1 bt397.2 bt402.1 bt402.2).bind fun bt406 => (some (bt406.1, bt406.2)))))
def computusref04_at.T1 : Bool × List (List Nat × List Nat) := (true, [([], []), ([0], [0]), ([1], [1]), ([], []), ([], []), ([4], [4]), ([3, 5], [3, 5]), ([6, 2], [6]), ([7, 7], [7]), ([2, 8, 8], [2, 8]), ([9, 9, 0, 1, 2, 3, 4, 5, 6, 7, 8, 9], [9])])
def computusref04_at.B1 : List Nat := [0, 1, 3, 0, 0, 16, 56, 127, 255, 511, 1023]
theorem computusref04_at.tab1 : rtab .any (opsOf Try.f46 1) = computusref04_at.T1 := by kernel_rfl
theorem computusref04_at.bits1 : waitsOk computusref04_at.T1.2 computusref04_at.B1 = true := by kernel_rfl
set_option maxHeartbeats 8000000 in
set_option maxRecDepth 100000 in
theorem computusref04_at.calls (k : Nat) (a0_0 : Int) (a0_1 : Int) (a1 : Int) (r1 : Bool) (r2 : List Int) (w : World) (h : computusref04_at.f k a0_0 a0_1 a1 = some (r1, r2)) :
    Calls Try.prog 46 #[.agg #[.int .i64 a0_0, .int .i64 a0_1], .int .i64 a1] w fun e w' => ∃ v1_ : Value, e = .returned (.agg #[.bool r1, v1_]) ∧ Kd.R (Kd.int .u64) 52 w' w.heap.size (fun _ => True) v1_ r2 ∧ Below w.heap.size w w' := by
  have hu23 := Try.underlying23
  have hu60 := Try.underlying60
  have HB := Aside0.mk (Below.refl w.heap.size w)
  have H : ((computusref01_Of.f a0_0).bind fun bt397 => ((computusref04_ten.f k (wrap64 (a1 - a0_1))).bind fun t401 => ((computusref01_Of.f t401).bind fun bt402 => ((computusref01_Times.f k bt397.1 bt397.2 bt402.1 bt402.2).bind fun bt406 => (some (bt406.1, bt406.2)))))) = some (r1, r2) := h
  clear h
  replace H := Option.bind_eq_some_iff.mp H
  obtain ⟨⟨t397, t398⟩, A30, H⟩ := H
  replace H : ((computusref04_ten.f k (wrap64 (a1 - a0_1))).bind fun t401 => ((computusref01_Of.f t401).bind fun bt402 => ((computusref01_Times.f k t397 t398 bt402.1 bt402.2).bind fun bt406 => (some (bt406.1, bt406.2))))) = some (r1, r2) := H
  have A3 := Aside0.mk A30
  clear A30
  replace H := Option.bind_eq_some_iff.mp H
  obtain ⟨t401, A40, H⟩ := H
  replace H : ((computusref01_Of.f t401).bind fun bt402 => ((computusref01_Times.f k t397 t398 bt402.1 bt402.2).bind fun bt406 => (some (bt406.1, bt406.2)))) = some (r1, r2) := H
  have A4 := Aside0.mk A40
  clear A40
  replace H := Option.bind_eq_some_iff.mp H
  obtain ⟨⟨t402, t403⟩, A50, H⟩ := H
  replace H : ((computusref01_Times.f k t397 t398 t402 t403).bind fun bt406 => (some (bt406.1, bt406.2))) = some (r1, r2) := H
  have A5 := Aside0.mk A50
  clear A50
  replace H := Option.bind_eq_some_iff.mp H
  obtain ⟨⟨t406, t407⟩, A60, H⟩ := H
  replace H : (some (t406, t407)) = some (r1, r2) := H
  have A6 := Aside0.mk A60
  clear A60
  simp only [Option.some.injEq, Prod.mk.injEq] at H
  obtain ⟨rfl, rfl⟩ := H
  go_enter Try.func46, Try.ntmps46
  try go_wp2_with (first | ((with_reducible refine gate_dst (N := 2) rfl ?_); refine box_event ?hg (N := 2) ?hd (cs := #[.int .i64 a0_0, .int .i64 a0_1]) (t := 23) ?hr ?_; (case hd => rfl); (case hg => rfl); (case hr => first | (go_simp; done) | (go_simp; rfl)); intro gb395 hg w7 hbox hb; have n0_ := Aside0.mk (kL (by repeat (first | (with_reducible first | exact HB.out | apply kC | apply kA | apply kD) | exact HB.out)) hb); have n1_ := Aside0.mk (hbox); have n2_ := Aside0.mk ((by rw [hg]; exact (kK (by repeat (first | (with_reducible first | exact HB.out | apply kC | apply kA | apply kD) | exact HB.out))) : w.heap.size ≤ gb395)); have n3_ := Aside0.mk ((by rw [hg]; exact (kK (by repeat (first | (with_reducible first | exact HB.out | apply kC | apply kA | apply kD) | exact HB.out))) : w.heap.size ≤ gb395)); clear HB; have HB := n0_; have BK395 := n1_; have GW395 := n2_; have GE395 := n3_; clear n0_ n1_ n2_ n3_; clear hb hbox hg) | ((with_reducible refine gate_dst (N := 4) rfl ?_); refine box_event ?hg (N := 4) ?hd (cs := #[.bool false, .slice none 0 0]) (t := 60) ?hr ?_; (case hd => rfl); (case hg => rfl); (case hr => first | (go_simp; done) | (go_simp; rfl)); intro gb396 hg w8 hbox hb; have n0_ := Aside0.mk (kJ (g := gb395) (o := .cells #[.int .i64 a0_0, .int .i64 a0_1] 23 (0, 0)) (by (with_reducible repeat (first | refine kE ?_ _ | refine kG ?_ | refine kF ?_ _)); exact BK395.out) hb); have n1_ := Aside0.mk (kL (by repeat (first | (with_reducible first | exact HB.out | apply kC | apply kA | apply kD | refine kB ?_ GE395.out) | exact HB.out)) hb); have n2_ := Aside0.mk (hbox); have n3_ := Aside0.mk ((by rw [hg]; exact (kK (by repeat (first | (with_reducible first | exact HB.out | apply kC | apply kA | apply kD | refine kB ?_ GE395.out) | exact HB.out))) : w.heap.size ≤ gb396)); have n4_ := Aside0.mk ((by rw [hg]; exact (kK (by repeat (first | (with_reducible first | exact HB.out | apply kC | apply kA | apply kD | refine kB ?_ GE395.out) | exact HB.out))) : w.heap.size ≤ gb396)); have n5_ := Aside0.mk ((by rw [hg]; exact Nat.ne_of_lt (blk_lt (g := gb395) (o := .cells #[.int .i64 a0_0, .int .i64 a0_1] 23 (0, 0)) (by (with_reducible repeat (first | refine kE ?_ _ | refine kG ?_ | refine kF ?_ _)); exact BK395.out)) : gb395 ≠ gb396)); have n6_ := Aside0.mk ((by rw [hg]; exact Nat.ne_of_gt (blk_lt (g := gb395) (o := .cells #[.int .i64 a0_0, .int .i64 a0_1] 23 (0, 0)) (by (with_reducible repeat (first | refine kE ?_ _ | refine kG ?_ | refine kF ?_ _)); exact BK395.out)) : gb396 ≠ gb395)); clear BK395; clear HB; have BK395 := n0_; have HB := n1_; have BK396 := n2_; have GW396 := n3_; have GE396 := n4_; have NB395_396 := n5_; have NB396_395 := n6_; clear n0_ n1_ n2_ n3_ n4_ n5_ n6_; clear hb hbox hg))
  have n0_ := Aside0.mk (kG BK395.out)
  have n1_ := Aside0.mk (kG BK396.out)
  have n2_ := Aside0.mk (kD HB.out)
  clear BK395
  clear BK396
  clear HB
  have BK395 := n0_
  have BK396 := n1_
  have HB := n2_
  clear n0_ n1_ n2_
  refine start_ (n := 11) (S := fun w' => w'.cell? ⟨gb395, 0, none⟩ = some (.int .i64 a0_0) ∧ w'.cell? ⟨gb395, 1, none⟩ = some (.int .i64 a0_1)) (ds := []) #[false, false, false, false, false, false, false, false, false, false, false] (by kernel_rfl) rfl rfl ⟨(kI BK395.out 0).trans rfl, (kI BK395.out 1).trans rfl⟩ (fun hHeld => ?_); refine with_tabW computusref04_at.tab1 computusref04_at.bits1 (fun HT_ HW_ => ?_)
  generalize w8.drew = w9 at BK395 BK396 HB hHeld ⊢
  refine pure_ (i := 0) (N := some 5) (v := ?_) (a' := ?_) #[true, false, false, false, false, false, false, false, false, false, false] rfl rfl (any_of HT_.out (by kernel_rfl)) (fun _ _ _ h => h) (Or.inl ⟨by rfl, ?_⟩) ?_ ?_
  rotate_left
  · intro w'
    go_simp
    with_reducible rfl
  rotate_left
  · simp only [Act.put, List.setIfInBounds_toArray, List.set_cons_zero, List.set_cons_succ, i64_w, i32_w]
    rfl
  refine pure_ (i := 3) (N := some 8) (v := ?_) (a' := ?_) #[true, false, false, true, false, false, false, false, false, false, false] rfl rfl (any_of HT_.out (by kernel_rfl)) (fun _ _ _ h => h) (Or.inl ⟨by rfl, ?_⟩) ?_ ?_
  rotate_left
  · intro w'
    go_simp
    with_reducible rfl
  rotate_left
  · simp only [Act.put, List.setIfInBounds_toArray, List.set_cons_zero, List.set_cons_succ, i64_w, i32_w]
    rfl
  refine pure_ (i := 4) (N := some 9) (v := ?_) (a' := ?_) #[true, false, false, true, true, false, false, false, false, false, false] rfl rfl (any_of HT_.out (by kernel_rfl)) (fun _ _ _ h => h) (Or.inl ⟨by rfl, ?_⟩) ?_ ?_
  rotate_left
  · intro w'
    go_simp
    with_reducible rfl
  rotate_left
  · simp only [Act.put, List.setIfInBounds_toArray, List.set_cons_zero, List.set_cons_succ, i64_w, i32_w]
    rfl
  refine take_ (i := 1) (N := some 6) (v := ?_) (a' := ?_) #[true, true, false, true, true, false, false, false, false, false, false] rfl rfl (take_ofW HT_.out HW_.out (by kernel_rfl)) (fun _ _ _ h => h) (Or.inl ⟨by rfl, ?_⟩) hHeld ?_ ?_
  rotate_left
  · rintro w' ⟨s0, s1⟩
    go_simp
    with_reducible rfl
  rotate_left
  · simp only [Act.put, List.setIfInBounds_toArray, List.set_cons_zero, List.set_cons_succ, i64_w, i32_w]
    rfl
  refine take_ (i := 5) (N := some 10) (v := ?_) (a' := ?_) #[true, true, false, true, true, true, false, false, false, false, false] rfl rfl (take_ofW HT_.out HW_.out (by kernel_rfl)) (fun _ _ _ h => h) (Or.inl ⟨by rfl, ?_⟩) hHeld ?_ ?_
  rotate_left
  · rintro w' ⟨s0, s1⟩
    go_simp
    with_reducible rfl
  rotate_left
  · simp only [Act.put, List.setIfInBounds_toArray, List.set_cons_zero, List.set_cons_succ, i64_w, i32_w]
    rfl
  refine pure_ (i := 6) (N := some 11) (v := ?_) (a' := ?_) #[true, true, false, true, true, true, true, false, false, false, false] rfl rfl (any_of HT_.out (by kernel_rfl)) (fun _ _ _ h => h) (Or.inl ⟨by rfl, ?_⟩) ?_ ?_
  rotate_left
  · intro w'
    go_simp
    with_reducible rfl
  rotate_left
  · simp only [Act.put, List.setIfInBounds_toArray, List.set_cons_zero, List.set_cons_succ, i64_w, i32_w]
    rfl
  refine one_ (i := 2) (N := some 7) #[true, true, true, true, true, true, true, false, false, false, false] rfl rfl (one_of HT_.out (by kernel_rfl)) (by decide) (fun K hK => ?_)
  refine goes_ Try.func36 (by kernel_rfl) rfl #[.int .i64 a0_0] (by rfl) rfl rfl (by (try simp only [List.map_toArray, List.map_cons, List.map_nil]); first | done | rfl | (simp only [List.length_drop, List.length_take]; rfl)) ?_
  with_reducible refine (computusref01_Of.calls a0_0 t397 t398 _ A3.out).mono ?_
  rintro e w10 ⟨v399, rfl, ho0, hb⟩
  refine ⟨_, rfl, ?_⟩
  have n0_ := Aside0.mk (Kd.R_lower ho0 (kK (by repeat (first | (with_reducible first | exact HB.out | apply kC | apply kA | apply kD | refine kB ?_ GE395.out | refine kB ?_ GE396.out) | exact HB.out))))
  have n1_ := Aside0.mk (kJ (g := gb395) (o := .cells #[.int .i64 a0_0, .int .i64 a0_1] 23 (0, 0)) (by (with_reducible repeat (first | refine kE ?_ _ | refine kG ?_ | refine kF ?_ _)); exact BK395.out) hb)
  have n2_ := Aside0.mk (kJ (g := gb396) (o := .cells #[.bool false, .slice none 0 0] 60 (0, 0)) (by (with_reducible repeat (first | refine kE ?_ _ | refine kG ?_ | refine kF ?_ _)); exact BK396.out) hb)
  have n3_ := Aside0.mk (kL (by repeat (first | (with_reducible first | exact HB.out | apply kC | apply kA | apply kD | refine kB ?_ GE395.out | refine kB ?_ GE396.out) | exact HB.out)) hb)
  clear BK395
  clear BK396
  clear HB
  have HO400 := n0_
  have BK395 := n1_
  have BK396 := n2_
  have HB := n3_
  clear n0_ n1_ n2_ n3_
  (try clear hb)
  (try clear hb2)
  (try clear hk)
  (try clear hi)
  (try clear ho0)
  refine hK.out _ _ ⟨(kI BK395.out 0).trans rfl, (kI BK395.out 1).trans rfl⟩ (fun hHeld => ?_)
  clear hK K
  refine norm_ (a' := ?_) ?_ ?_
  rotate_left
  · show Act.put _ (some 7) _ = _
    simp only [Act.put, List.setIfInBounds_toArray, List.set_cons_zero, List.set_cons_succ, i64_w, i32_w]
    rfl
  refine one_ (i := 7) (N := some 12) #[true, true, true, true, true, true, true, true, false, false, false] rfl rfl (one_of HT_.out (by kernel_rfl)) (by decide) (fun K hK => ?_)
  refine goes_ Try.func47 (by kernel_rfl) rfl #[.int .i64 (wrap64 (a1 - a0_1))] (by rfl) rfl rfl (by (try simp only [List.map_toArray, List.map_cons, List.map_nil]); first | done | rfl | (simp only [List.length_drop, List.length_take]; rfl)) ?_
  with_reducible refine (computusref04_ten.calls k (wrap64 (a1 - a0_1)) t401 _ A4.out).mono ?_
  rintro e w' ⟨rfl, ⟨nd, rfl⟩⟩
  refine ⟨_, rfl, ?_⟩
  refine hK.out _ _ ⟨(kI BK395.out 0).trans rfl, (kI BK395.out 1).trans rfl⟩ (fun hHeld => ?_)
  clear hK K
  refine norm_ (a' := ?_) ?_ ?_
  rotate_left
  · show Act.put _ (some 12) _ = _
    simp only [Act.put, List.setIfInBounds_toArray, List.set_cons_zero, List.set_cons_succ, i64_w, i32_w]
    rfl
  refine one_ (i := 8) (N := some 13) #[true, true, true, true, true, true, true, true, true, false, false] rfl rfl (one_of HT_.out (by kernel_rfl)) (by decide) (fun K hK => ?_)
  refine goes_ Try.func36 (by kernel_rfl) rfl #[.int .i64 t401] (by rfl) rfl rfl (by (try simp only [List.map_toArray, List.map_cons, List.map_nil]); first | done | rfl | (simp only [List.length_drop, List.length_take]; rfl)) ?_
  with_reducible refine (computusref01_Of.calls t401 t402 t403 _ A5.out).mono ?_
  rintro e w11 ⟨v404, rfl, ho0, hb⟩
  refine ⟨_, rfl, ?_⟩
  have n0_ := Aside0.mk (Kd.R_elder' (by (with_reducible repeat (first | apply Kd.R_alloc | apply Kd.R_drewN | apply Kd.R_drew)); exact HO400.out) (Kd.R_base ho0) hb)
  have n1_ := Aside0.mk (Kd.R_lower (Kd.R_new' ho0 (Kd.R_lt (by (with_reducible repeat (first | apply Kd.R_alloc | apply Kd.R_drewN | apply Kd.R_drew)); exact HO400.out))) (kK (by repeat (first | (with_reducible first | exact HB.out | apply kC | apply kA | apply kD | refine kB ?_ GE395.out | refine kB ?_ GE396.out) | exact HB.out))))
  have n2_ := Aside0.mk (kJ (g := gb395) (o := .cells #[.int .i64 a0_0, .int .i64 a0_1] 23 (0, 0)) (by (with_reducible repeat (first | refine kE ?_ _ | refine kG ?_ | refine kF ?_ _)); exact BK395.out) hb)
  have n3_ := Aside0.mk (kJ (g := gb396) (o := .cells #[.bool false, .slice none 0 0] 60 (0, 0)) (by (with_reducible repeat (first | refine kE ?_ _ | refine kG ?_ | refine kF ?_ _)); exact BK396.out) hb)
  have n4_ := Aside0.mk (kL (by repeat (first | (with_reducible first | exact HB.out | apply kC | apply kA | apply kD | refine kB ?_ GE395.out | refine kB ?_ GE396.out) | exact HB.out)) hb)
  clear HO400
  clear BK395
  clear BK396
  clear HB
  have HO400 := n0_
  have HO405 := n1_
  have BK395 := n2_
  have BK396 := n3_
  have HB := n4_
  clear n0_ n1_ n2_ n3_ n4_
  (try clear hb)
  (try clear hb2)
  (try clear hk)
  (try clear hi)
  (try clear ho0)
  obtain ⟨Ao12, co12, eo12⟩ := Kd.R_slice HO400.out
  (first | subst eo12 | (injection eo12 with f1_ f2_ f3_; have f4_ := f1_.symm; have f5_ := f3_.symm; clear f1_ f2_ f3_; subst f4_; subst f5_))
  obtain ⟨Ao13, co13, eo13⟩ := Kd.R_slice HO405.out
  (first | subst eo13 | (injection eo13 with f1_ f2_ f3_; have f4_ := f1_.symm; have f5_ := f3_.symm; clear f1_ f2_ f3_; subst f4_; subst f5_))
  refine hK.out _ _ ⟨(kI BK395.out 0).trans rfl, (kI BK395.out 1).trans rfl⟩ (fun hHeld => ?_)
  clear hK K
  refine norm_ (a' := ?_) ?_ ?_
  rotate_left
  · show Act.put _ (some 13) _ = _
    simp only [Act.put, List.setIfInBounds_toArray, List.set_cons_zero, List.set_cons_succ, i64_w, i32_w]
    rfl
  refine one_ (i := 9) (N := some 14) #[true, true, true, true, true, true, true, true, true, true, false] rfl rfl (one_of HT_.out (by kernel_rfl)) (by decide) (fun K hK => ?_)
  refine goes_ Try.func38 (by kernel_rfl) rfl #[.agg #[.bool t397, .slice Ao12 t398.length co12], .agg #[.bool t402, .slice Ao13 t403.length co13]] (by rfl) rfl rfl (by (try simp only [List.map_toArray, List.map_cons, List.map_nil]); first | done | rfl | (simp only [List.length_drop, List.length_take]; rfl)) ?_
  with_reducible refine (computusref01_Times.calls k t397 _ _ t398 t402 _ _ t403 t406 t407 _ ?side1 ?side2 ?side3 ?side4 A6.out).mono ?_
  (case side1 => repeat (first | exact (Kd.R_reads' HO400.out).2.2 | (with_reducible refine Kd.C_alloc ?_ _) | (with_reducible refine Kd.C_drewN ?_ _) | (with_reducible refine Kd.C_drew ?_)))
  (case side2 => exact (Kd.R_reads' HO400.out).2.1)
  (case side3 => repeat (first | exact (Kd.R_reads' HO405.out).2.2 | (with_reducible refine Kd.C_alloc ?_ _) | (with_reducible refine Kd.C_drewN ?_ _) | (with_reducible refine Kd.C_drew ?_)))
  (case side4 => exact (Kd.R_reads' HO405.out).2.1)
  rintro e w14 ⟨v408, rfl, ho0, hb⟩
  refine ⟨_, rfl, ?_⟩
  have n0_ := Aside0.mk (Kd.R_elder' (by (with_reducible repeat (first | apply Kd.R_alloc | apply Kd.R_drewN | apply Kd.R_drew)); exact HO400.out) (Kd.R_base ho0) hb)
  have n1_ := Aside0.mk (Kd.R_elder' (by (with_reducible repeat (first | apply Kd.R_alloc | apply Kd.R_drewN | apply Kd.R_drew)); exact HO405.out) (Kd.R_base ho0) hb)
  have n2_ := Aside0.mk (Kd.R_lower (Kd.R_new' (Kd.R_new' ho0 (Kd.R_lt (by (with_reducible repeat (first | apply Kd.R_alloc | apply Kd.R_drewN | apply Kd.R_drew)); exact HO400.out))) (Kd.R_lt (by (with_reducible repeat (first | apply Kd.R_alloc | apply Kd.R_drewN | apply Kd.R_drew)); exact HO405.out))) (kK (by repeat (first | (with_reducible first | exact HB.out | apply kC | apply kA | apply kD | refine kB ?_ GE395.out | refine kB ?_ GE396.out) | exact HB.out))))
  have n3_ := Aside0.mk (kJ (g := gb395) (o := .cells #[.int .i64 a0_0, .int .i64 a0_1] 23 (0, 0)) (by (with_reducible repeat (first | refine kE ?_ _ | refine kG ?_ | refine kF ?_ _)); exact BK395.out) hb)
  have n4_ := Aside0.mk (kJ (g := gb396) (o := .cells #[.bool false, .slice none 0 0] 60 (0, 0)) (by (with_reducible repeat (first | refine kE ?_ _ | refine kG ?_ | refine kF ?_ _)); exact BK396.out) hb)
  have n5_ := Aside0.mk (kL (by repeat (first | (with_reducible first | exact HB.out | apply kC | apply kA | apply kD | refine kB ?_ GE395.out | refine kB ?_ GE396.out) | exact HB.out)) hb)
  clear HO400
  clear HO405
  clear BK395
  clear BK396
  clear HB
  have HO400 := n0_
  have HO405 := n1_
  have HO409 := n2_
  have BK395 := n3_
  have BK396 := n4_
  have HB := n5_
  clear n0_ n1_ n2_ n3_ n4_ n5_
  (try clear hb)
  (try clear hb2)
  (try clear hk)
  (try clear hi)
  (try clear ho0)
  obtain ⟨Ao16, co16, eo16⟩ := Kd.R_slice HO409.out
  (first | subst eo16 | (injection eo16 with f1_ f2_ f3_; have f4_ := f1_.symm; have f5_ := f3_.symm; clear f1_ f2_ f3_; subst f4_; subst f5_))
  refine hK.out _ _ ⟨(kI BK395.out 0).trans rfl, (kI BK395.out 1).trans rfl⟩ (fun hHeld => ?_)
  clear hK K
  refine norm_ (a' := ?_) ?_ ?_
  rotate_left
  · show Act.put _ (some 14) _ = _
    simp only [Act.put, List.setIfInBounds_toArray, List.set_cons_zero, List.set_cons_succ, i64_w, i32_w]
    rfl
  refine one_ (i := 10) (N := none) #[true, true, true, true, true, true, true, true, true, true, true] rfl rfl (one_of HT_.out (by kernel_rfl)) (by decide) (fun K hK => ?_)
  have hs15 : w14.cell? ⟨gb396, 0, none⟩ = some (.bool false) := (kI BK396.out 0).trans rfl
  have hfs15 := kH BK396.out 0
  have hns15_0 := NB395_396.out
  have hms15_0 := NB396_395.out
  have hs17 : w14.cell? ⟨gb396, 1, none⟩ = some (.slice none 0 0) := (kI BK396.out 1).trans rfl
  have hfs17 := kH BK396.out 1
  have hns17_0 := NB395_396.out
  have hms17_0 := NB396_395.out
  refine skip_ (w1 := ?_) (by rfl) rfl ?_ ?_
  rotate_left
  · go_simp
    rfl
  refine hK.out _ _ ⟨((cell_far (p := ⟨gb396, _, none⟩) NB395_396.out _).trans (((cell_far (p := ⟨gb396, _, none⟩) NB395_396.out _).trans (hHeld.1)))), ((cell_far (p := ⟨gb396, _, none⟩) NB395_396.out _).trans (((cell_far (p := ⟨gb396, _, none⟩) NB395_396.out _).trans (hHeld.2))))⟩ (fun hHeld => ?_)
  clear hK K
  refine done_ (done_of HT_.out (by kernel_rfl)) ?_
  try go_wp2
  refine bodyPost_ret (results_cell_row rfl _ _ gb396 60 #[.bool t406, .slice Ao16 t407.length co16] (0, 0) _ rfl (by (with_reducible repeat (first | refine kE ?_ _ | refine kG ?_ | refine kF ?_ _)); refine blk_put (cs := #[.bool t406, .slice none 0 0]) ?_ 1 _ rfl; (with_reducible repeat (first | refine kE ?_ _ | refine kG ?_ | refine kF ?_ _)); refine blk_put (cs := #[.bool false, .slice none 0 0]) ?_ 0 _ rfl; (with_reducible repeat (first | refine kE ?_ _ | refine kG ?_ | refine kF ?_ _)); exact BK396.out) Try.underlying60 rfl (by kernel_rfl)) rfl ?_
  exact ⟨_, by first | rfl | (simp [errW_none, errW_some] <;> rfl) | (simp [*, errW_none, errW_some] <;> rfl), by (with_reducible repeat (first | apply Kd.R_alloc | apply Kd.R_drewN | apply Kd.R_drew)); exact Kd.R_mono (Kd.R_far (p := ⟨gb396, 1, none⟩) (Kd.R_far (p := ⟨gb396, 0, none⟩) (Kd.R_types HO409.out BK396.out (by decide)) (fun _ hk => hk.2) (.bool t406)) (fun _ hk => hk.2) (.slice Ao16 t407.length co16)) (fun _ hk => trivial), by repeat (first | (with_reducible first | exact HB.out | apply kC | apply kA | apply kD | refine kB ?_ GE395.out | refine kB ?_ GE396.out) | exact HB.out)⟩
end Go.Proofs.Ytkongoedgngfhaa.P
