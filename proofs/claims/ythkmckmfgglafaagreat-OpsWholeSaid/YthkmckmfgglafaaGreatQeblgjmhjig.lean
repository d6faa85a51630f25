-- Written by a program of the session (a print of the seat's translation, functions given by hand among it). Lean checks it.
import Derived.Test.YthkmckmfgglafaaGreatQeiellgheod
import Derived.Test.YthkmckmfgglafaaGreatQfffdgmglkb
import Derived.Test.YthkmckmfgglafaaGreatQmkjlcblnfm
namespace Go.Proofs.YthkmckmfgglafaaGreat.P
open Go.RowKit Go.Proofs.YthkmckmfgglafaaGreatW.PrintWords Go.Proofs.YthkmckmfgglafaaGreatW.PrintLast Go.Proofs.YthkmckmfgglafaaGreatW.PrintMore
attribute [local go_sem] max2_int min2_int max_two min_two max_three min_three max_four min_four   -- for this text's walks alone
set_option linter.unusedVariables false
set_option linter.unusedSimpArgs false
attribute [local go_sem high] eqA37
def ops_made.f (k : Nat) (a0 : Int) (l1 : List Int) : Option (Int × Int × Int) := if l1.length < 17592186044416 then ((api_Errno.f k (l1 ++ [0])).bind fun t173 => (if t173 = 0 then ((day_RightStamp.f k 0 a0).bind fun t174 => (if t174 = true then (some (0, a0, 0)) else (some (0, 0, 10)))) else (some (0, 0, 10)))) else (none)
set_option maxHeartbeats 8000000 in
set_option maxRecDepth 100000 in
theorem ops_made.calls (k : Nat) (a0 : Int) (P1_ : Nat → Prop) (u9000_ : Value) (l1 : List Int) (r1 : Int) (r2 : Int) (r3 : Int) (w0 w : World) (hB : Below w0.heap.size w0 w) (ho1 : Kd.R (Kd.int .i64) 24 w w0.heap.size P1_ u9000_ l1) (h : ops_made.f k a0 l1 = some (r1, r2, r3)) :
    Calls Tryz.prog 33 #[.int .i64 a0, u9000_] w fun e w' => e = .returned (.tuple #[.agg #[.int .i64 r1, .int .i64 r2], .int .i64 r3]) ∧ Below w0.heap.size w0 w' ∧ Kept w w' (fun k_ => P1_ k_) := by
  have hu23 := Tryz.underlying23
  have HO1 := Aside0.mk (show Kd.R (Kd.int .i64) 24 w w0.heap.size (fun k_ => (P1_ k_ ∨ w.heap.size ≤ k_)) u9000_ l1 from Kd.R_mono ho1 (fun k_ hk => (.inl hk)))
  have HK := Aside0.mk (Kept.refl w (fun k_ => P1_ k_))
  have HW0 := Aside0.mk hB.size
  have HB := Aside0.mk hB
  clear hB
  have H : (if l1.length < 17592186044416 then ((api_Errno.f k (l1 ++ [0])).bind fun t173 => (if t173 = 0 then ((day_RightStamp.f k 0 a0).bind fun t174 => (if t174 = true then (some (0, a0, 0)) else (some (0, 0, 10)))) else (some (0, 0, 10)))) else (none)) = some (r1, r2, r3) := h
  clear h
  by_cases c3 : l1.length < 17592186044416
  · rw [if_pos c3] at H
    have LMc3 := Aside0.mk c3
    clear c3
    obtain ⟨y170, hy170⟩ : ∃ y_ : List Int, y_ = (l1 ++ [0]) := ⟨_, rfl⟩
    replace H : ((api_Errno.f k y170).bind fun t173 => (if t173 = 0 then ((day_RightStamp.f k 0 a0).bind fun t174 => (if t174 = true then (some (0, a0, 0)) else (some (0, 0, 10)))) else (some (0, 0, 10)))) = some (r1, r2, r3) := by first | (rw [hy170]; with_reducible exact H) | (have H2_ := (Option.bind_some _ _).symm.trans H; rw [hy170]; with_reducible exact H2_) | (have H2_ := (Option.bind_some _ _).symm.trans H; with_reducible exact H2_) | with_reducible exact H | (rw [hy170]; exact H) | exact H
    have Ny170 := Aside0.mk hy170
    clear hy170
    replace H := Option.bind_eq_some_iff.mp H
    obtain ⟨t173, A40, H⟩ := H
    replace H : (if t173 = 0 then ((day_RightStamp.f k 0 a0).bind fun t174 => (if t174 = true then (some (0, a0, 0)) else (some (0, 0, 10)))) else (some (0, 0, 10))) = some (r1, r2, r3) := H
    have A4 := Aside0.mk A40
    clear A40
    by_cases c5 : t173 = 0
    · rw [if_pos c5] at H
      have c5b0 : (t173 == 0) = true := beq_iff_eq.mpr c5
      have c5b1 : (t173 != 0) = false := bne_eq_false_iff_eq.mpr c5
      clear c5
      replace H := Option.bind_eq_some_iff.mp H
      obtain ⟨t174, A60, H⟩ := H
      replace H : (if t174 = true then (some (0, a0, 0)) else (some (0, 0, 10))) = some (r1, r2, r3) := H
      have A6 := Aside0.mk A60
      clear A60
      by_cases c7 : t174 = true
      · subst c7
        have H1 : (some (0, a0, 0)) = some (r1, r2, r3) := by rw [if_pos rfl] at H; exact H
        clear H
        have H := H1
        clear H1
        simp only [Option.some.injEq, Prod.mk.injEq] at H
        obtain ⟨rfl, rfl, rfl⟩ := H
        go_enter Tryz.func33, Tryz.ntmps33
        go_wp2_with (first | ((with_reducible refine gate_dst (N := 4) rfl ?_); refine kO ?hg (N := 4) ?hd (cs := #[.int .i64 0, .int .i64 0]) (t := 23) ?hr ?_; (case hd => rfl); (case hg => rfl); (case hr => first | (go_simp; done) | (go_simp; rfl)); intro gb168 hg w8 hbox hb; have n0_ := Aside0.mk (Kd.R_below (by (with_reducible repeat (first | apply Kd.R_alloc | apply Kd.R_drewN | apply Kd.R_drew)); exact HO1.out) hb); have n1_ := Aside0.mk (Kept.below (S := (fun k_ => P1_ k_)) (by repeat (first | (with_reducible first | exact HK.out | apply Kept.alloc | apply Kept.drewN | apply Kept.drew) | exact HK.out)) hb); have n2_ := Aside0.mk (kJ (by repeat (first | (with_reducible first | exact HB.out | apply kB | apply kA | apply kC) | exact HB.out)) hb); have n3_ := Aside0.mk (hbox); have n4_ := Aside0.mk ((by rw [hg]; exact (by first | exact HK.out.1 | exact (show Kept w _ (fun k_ => P1_ k_) from by repeat (first | (with_reducible first | exact HK.out | apply Kept.alloc | apply Kept.drewN | apply Kept.drew) | exact HK.out)).1) : w.heap.size ≤ gb168)); have n5_ := Aside0.mk ((by rw [hg]; exact (kL (by repeat (first | (with_reducible first | exact HB.out | apply kB | apply kA | apply kC) | exact HB.out))) : w0.heap.size ≤ gb168)); clear HO1; clear HK; clear HB; have HO1 := n0_; have HK := n1_; have HB := n2_; have BK168 := n3_; have GW168 := n4_; have GE168 := n5_; clear n0_ n1_ n2_ n3_ n4_ n5_; clear hb hbox hg) | ((with_reducible refine gate_dst (N := 6) rfl ?_); refine kO ?hg (N := 6) ?hd (cs := #[.int .i64 0, .int .i64 0]) (t := 23) ?hr ?_; (case hd => rfl); (case hg => rfl); (case hr => first | (go_simp; done) | (go_simp; rfl)); intro gb169 hg w9 hbox hb; have n0_ := Aside0.mk (Kd.R_below (by (with_reducible repeat (first | apply Kd.R_alloc | apply Kd.R_drewN | apply Kd.R_drew)); exact HO1.out) hb); have n1_ := Aside0.mk (kM (g := gb168) (o := .cells #[.int .i64 0, .int .i64 0] 23 (0, 0)) (by (with_reducible repeat (first | refine kE ?_ _ | refine kH ?_ | refine kF ?_ _)); exact BK168.out) hb); have n2_ := Aside0.mk (Kept.below (S := (fun k_ => P1_ k_)) (by repeat (first | (with_reducible first | exact HK.out | apply Kept.alloc | apply Kept.drewN | apply Kept.drew | refine Kept.setCell ?_ (.inr GW168.out) _) | exact HK.out)) hb); have n3_ := Aside0.mk (kJ (by repeat (first | (with_reducible first | exact HB.out | apply kB | apply kA | apply kC | refine kD ?_ GE168.out) | exact HB.out)) hb); have n4_ := Aside0.mk (hbox); have n5_ := Aside0.mk ((by rw [hg]; exact (by first | exact HK.out.1 | exact (show Kept w _ (fun k_ => P1_ k_) from by repeat (first | (with_reducible first | exact HK.out | apply Kept.alloc | apply Kept.drewN | apply Kept.drew | refine Kept.setCell ?_ (.inr GW168.out) _) | exact HK.out)).1) : w.heap.size ≤ gb169)); have n6_ := Aside0.mk ((by rw [hg]; exact (kL (by repeat (first | (with_reducible first | exact HB.out | apply kB | apply kA | apply kC | refine kD ?_ GE168.out) | exact HB.out))) : w0.heap.size ≤ gb169)); have n7_ := Aside0.mk ((by rw [hg]; exact Nat.ne_of_lt (blk_lt (g := gb168) (o := .cells #[.int .i64 0, .int .i64 0] 23 (0, 0)) (by (with_reducible repeat (first | refine kE ?_ _ | refine kH ?_ | refine kF ?_ _)); exact BK168.out)) : gb168 ≠ gb169)); have n8_ := Aside0.mk ((by rw [hg]; exact Nat.ne_of_gt (blk_lt (g := gb168) (o := .cells #[.int .i64 0, .int .i64 0] 23 (0, 0)) (by (with_reducible repeat (first | refine kE ?_ _ | refine kH ?_ | refine kF ?_ _)); exact BK168.out)) : gb169 ≠ gb168)); clear HO1; clear BK168; clear HK; clear HB; have HO1 := n0_; have BK168 := n1_; have HK := n2_; have HB := n3_; have BK169 := n4_; have GW169 := n5_; have GE169 := n6_; have NB168_169 := n7_; have NB169_168 := n8_; clear n0_ n1_ n2_ n3_ n4_ n5_ n6_ n7_ n8_; clear hb hbox hg; have hnb10 := NB169_168.out; have hnc10 := NB168_169.out; have hcz11_0 : w9.cell? ⟨gb169, 0, none⟩ = some (.int .i64 0) := (kI BK169.out 0).trans rfl; have hcz11_1 : w9.cell? ⟨gb169, 1, none⟩ = some (.int .i64 0) := (kI BK169.out 1).trans rfl; have hfz11_0 := kG BK169.out 0; have hfz11_1 := kG BK169.out 1) | ((with_reducible refine gate_builtin (b := .append) (xs := #[.tmp 9, .tmp 10]) rfl ?_); at_builtin; refine Kd.R_append (Kd.int .i64) (w0 := w0) w0.heap.size rfl (.tmp 9) (.tmp 10) 133 24 (.int .i64 0) 8 rfl Tryz.underlying133 info24 rfl (by decide) (by omega) u9000_ l1 0 [.int .i64 0] (fun k_ => (P1_ k_ ∨ w.heap.size ≤ k_)) (fun _ => False) rfl (by first | (go_simp; done) | (go_simp; rfl)) ?aP (fun _ hk => hk.elim) ?aF ?aO ?aB ?aS ?aL ?_; (case aP => exact rfl); (case aB => exact (by repeat (first | (with_reducible first | exact HB.out | apply kB | apply kA | apply kC | refine kD ?_ GE168.out | refine kD ?_ GE169.out) | exact HB.out))); (case aF => exact (fun k_ hk => (.inr (Nat.le_trans (show Kept w _ (fun k_ => P1_ k_) from by repeat (first | (with_reducible first | exact HK.out | apply Kept.alloc | apply Kept.drewN | apply Kept.drew | refine Kept.setCell ?_ (.inr GW168.out) _ | refine Kept.setCell ?_ (.inr GW169.out) _) | exact HK.out)).1 hk)))); (case aO => exact (by (with_reducible repeat (first | apply Kd.R_alloc | apply Kd.R_drewN | apply Kd.R_drew)); exact Kd.R_mono (Kd.R_far (p := ⟨gb169, 1, none⟩) (Kd.R_far (p := ⟨gb169, 0, none⟩) (Kd.R_types HO1.out BK169.out (by decide)) (fun _ hk => hk.2) (.int .i64 0)) (fun _ hk => hk.2) (.int .i64 a0)) (fun _ hk => hk.1))); (case aS => exact (kL (by repeat (first | (with_reducible first | exact HB.out | apply kB | apply kA | apply kC | refine kD ?_ GE168.out | refine kD ?_ GE169.out) | exact HB.out)))); (case aL => have := LMc3.out; omega); intro v171 w12 ho hb hg hat; rw [← Ny170.out] at ho; have n0_ := Aside0.mk (blk_grown (g := gb168) (o := .cells #[.int .i64 0, .int .i64 0] 23 (0, 0)) (by (with_reducible repeat (first | refine kE ?_ _ | refine kH ?_ | refine kF ?_ _)); refine blk_far ?_ NB168_169.out _; (with_reducible repeat (first | refine kE ?_ _ | refine kH ?_ | refine kF ?_ _)); refine blk_far ?_ NB168_169.out _; (with_reducible repeat (first | refine kE ?_ _ | refine kH ?_ | refine kF ?_ _)); exact BK168.out) hg (Kd.R_ne HO1.out BK168.out (by decide))); have n1_ := Aside0.mk (blk_grown (g := gb169) (o := .cells #[.int .i64 0, .int .i64 a0] 23 (0, 0)) (by (with_reducible repeat (first | refine kE ?_ _ | refine kH ?_ | refine kF ?_ _)); refine blk_put (cs := #[.int .i64 0, .int .i64 0]) ?_ 1 _ rfl; (with_reducible repeat (first | refine kE ?_ _ | refine kH ?_ | refine kF ?_ _)); refine blk_put (cs := #[.int .i64 0, .int .i64 0]) ?_ 0 _ rfl; (with_reducible repeat (first | refine kE ?_ _ | refine kH ?_ | refine kF ?_ _)); exact BK169.out) hg (Kd.R_ne HO1.out BK169.out (by decide))); have n2_ := Aside0.mk (hb); have n3_ := Aside0.mk (Kept.of_grown (S := (fun k_ => P1_ k_)) hg (by repeat (first | (with_reducible first | exact HK.out | apply Kept.alloc | apply Kept.drewN | apply Kept.drew | refine Kept.setCell ?_ (.inr GW168.out) _ | refine Kept.setCell ?_ (.inr GW169.out) _) | exact HK.out)) (fun k_ e_ => (HO1.out.1 k_ e_))); have n4_ := Aside0.mk (ho); clear BK168; clear BK169; clear HB; clear HK; clear HO1; have BK168 := n0_; have BK169 := n1_; have HB := n2_; have HK := n3_; have HO172 := n4_; clear n0_ n1_ n2_ n3_ n4_; clear ho hb hg hat; obtain ⟨Ao13, co13, eo13⟩ := Kd.R_slice HO172.out; subst eo13) | ((with_reducible refine kK (f := 86) rfl ?_); refine kN (some 12) rfl rfl Tryz.func86 (by kernel_rfl) rfl #[.slice Ao13 y170.length co13] rfl (by (try simp only [List.map_toArray, List.map_cons, List.map_nil]); first | done | rfl | (simp only [List.length_drop, List.length_take]; rfl)) ?_; (with_reducible refine (api_Errno.calls k _ _ y170 t173 _ ?side1 ?side2 A4.out).mono ?_); (case side1 => repeat (first | exact (Kd.R_reads' HO172.out).2.2 | (with_reducible refine Kd.C_alloc ?_ _) | (with_reducible refine Kd.C_drewN ?_ _) | (with_reducible refine Kd.C_drew ?_))); (case side2 => exact (Kd.R_reads' HO172.out).2.1); rintro e w14 ⟨rfl, hb⟩; refine ⟨_, rfl, ?_⟩; have n0_ := Aside0.mk (Kd.R_below (by (with_reducible repeat (first | apply Kd.R_alloc | apply Kd.R_drewN | apply Kd.R_drew)); exact HO172.out) hb); have n1_ := Aside0.mk (kM (g := gb168) (o := .cells #[.int .i64 0, .int .i64 0] 23 (0, 0)) (by (with_reducible repeat (first | refine kE ?_ _ | refine kH ?_ | refine kF ?_ _)); exact BK168.out) hb); have n2_ := Aside0.mk (kM (g := gb169) (o := .cells #[.int .i64 0, .int .i64 a0] 23 (0, 0)) (by (with_reducible repeat (first | refine kE ?_ _ | refine kH ?_ | refine kF ?_ _)); exact BK169.out) hb); have n3_ := Aside0.mk (Kept.below (S := (fun k_ => P1_ k_)) (by repeat (first | (with_reducible first | exact HK.out | apply Kept.alloc | apply Kept.drewN | apply Kept.drew | refine Kept.setCell ?_ (.inr GW168.out) _ | refine Kept.setCell ?_ (.inr GW169.out) _) | exact HK.out)) hb); have n4_ := Aside0.mk (kJ (by repeat (first | (with_reducible first | exact HB.out | apply kB | apply kA | apply kC | refine kD ?_ GE168.out | refine kD ?_ GE169.out) | exact HB.out)) hb); clear HO172; clear BK168; clear BK169; clear HK; clear HB; have HO172 := n0_; have BK168 := n1_; have BK169 := n2_; have HK := n3_; have HB := n4_; clear n0_ n1_ n2_ n3_ n4_; (try clear hb); (try clear hb2); (try clear hk); (try clear hi); have hcz15_0 : w14.cell? ⟨gb169, 0, none⟩ = some (.int .i64 0) := (kI BK169.out 0).trans rfl; have hcz15_1 : w14.cell? ⟨gb169, 1, none⟩ = some (.int .i64 a0) := (kI BK169.out 1).trans rfl; have hfz15_0 := kG BK169.out 0; have hfz15_1 := kG BK169.out 1) | (go_at_call 44; (with_reducible refine (day_RightStamp.calls k 0 a0 true _ A6.out).mono ?_); rintro e w16 ⟨rfl, hb⟩; have n0_ := Aside0.mk (Kd.R_below (by (with_reducible repeat (first | apply Kd.R_alloc | apply Kd.R_drewN | apply Kd.R_drew)); exact HO172.out) hb); have n1_ := Aside0.mk (kM (g := gb168) (o := .cells #[.int .i64 0, .int .i64 0] 23 (0, 0)) (by (with_reducible repeat (first | refine kE ?_ _ | refine kH ?_ | refine kF ?_ _)); exact BK168.out) hb); have n2_ := Aside0.mk (kM (g := gb169) (o := .cells #[.int .i64 0, .int .i64 a0] 23 (0, 0)) (by (with_reducible repeat (first | refine kE ?_ _ | refine kH ?_ | refine kF ?_ _)); exact BK169.out) hb); have n3_ := Aside0.mk (Kept.below (S := (fun k_ => P1_ k_)) (by repeat (first | (with_reducible first | exact HK.out | apply Kept.alloc | apply Kept.drewN | apply Kept.drew | refine Kept.setCell ?_ (.inr GW168.out) _ | refine Kept.setCell ?_ (.inr GW169.out) _) | exact HK.out)) hb); have n4_ := Aside0.mk (kJ (by repeat (first | (with_reducible first | exact HB.out | apply kB | apply kA | apply kC | refine kD ?_ GE168.out | refine kD ?_ GE169.out) | exact HB.out)) hb); clear HO172; clear BK168; clear BK169; clear HK; clear HB; have HO172 := n0_; have BK168 := n1_; have BK169 := n2_; have HK := n3_; have HB := n4_; clear n0_ n1_ n2_ n3_ n4_; (try clear hb); (try clear hb2); (try clear hk); (try clear hi); have hcz17_0 : w16.cell? ⟨gb169, 0, none⟩ = some (.int .i64 0) := (kI BK169.out 0).trans rfl; have hcz17_1 : w16.cell? ⟨gb169, 1, none⟩ = some (.int .i64 a0) := (kI BK169.out 1).trans rfl; have hfz17_0 := kG BK169.out 0; have hfz17_1 := kG BK169.out 1; have hcz18_0 : w16.cell? ⟨gb168, 0, none⟩ = some (.int .i64 0) := (kI BK168.out 0).trans rfl; have hcz18_1 : w16.cell? ⟨gb168, 1, none⟩ = some (.int .i64 0) := (kI BK168.out 1).trans rfl; have hfz18_0 := kG BK168.out 0; have hfz18_1 := kG BK168.out 1))
        refine bodyPost_ret (results_ct rfl _ _ gb168 23 #[.int .i64 0, .int .i64 a0] (0, 0) _ rfl (by (with_reducible repeat (first | refine kE ?_ _ | refine kH ?_ | refine kF ?_ _)); refine blk_put (cs := #[.int .i64 0, .int .i64 0]) ?_ 1 _ rfl; (with_reducible repeat (first | refine kE ?_ _ | refine kH ?_ | refine kF ?_ _)); refine blk_put (cs := #[.int .i64 0, .int .i64 0]) ?_ 0 _ rfl; (with_reducible repeat (first | refine kE ?_ _ | refine kH ?_ | refine kF ?_ _)); exact BK168.out) Tryz.underlying23 rfl (by kernel_rfl)) rfl ?_
        exact ⟨by first | rfl | (simp [errW_none, errW_some] <;> rfl) | (simp [*, errW_none, errW_some] <;> rfl), by repeat (first | (with_reducible first | exact HB.out | apply kB | apply kA | apply kC | refine kD ?_ GE168.out | refine kD ?_ GE169.out) | exact HB.out), by repeat (first | (with_reducible first | exact HK.out | apply Kept.alloc | apply Kept.drewN | apply Kept.drew | refine Kept.setCell ?_ (.inr GW168.out) _ | refine Kept.setCell ?_ (.inr GW169.out) _) | exact HK.out)⟩
      · replace c7 := Bool.eq_false_iff.mpr c7
        subst c7
        have H1 : (some (0, 0, 10)) = some (r1, r2, r3) := by rw [if_neg (show ¬ (false = true) by decide)] at H; exact H
        clear H
        have H := H1
        clear H1
        simp only [Option.some.injEq, Prod.mk.injEq] at H
        obtain ⟨rfl, rfl, rfl⟩ := H
        go_enter Tryz.func33, Tryz.ntmps33
        go_wp2_with (first | ((with_reducible refine gate_dst (N := 4) rfl ?_); refine kO ?hg (N := 4) ?hd (cs := #[.int .i64 0, .int .i64 0]) (t := 23) ?hr ?_; (case hd => rfl); (case hg => rfl); (case hr => first | (go_simp; done) | (go_simp; rfl)); intro gb168 hg w19 hbox hb; have n0_ := Aside0.mk (Kd.R_below (by (with_reducible repeat (first | apply Kd.R_alloc | apply Kd.R_drewN | apply Kd.R_drew)); exact HO1.out) hb); have n1_ := Aside0.mk (Kept.below (S := (fun k_ => P1_ k_)) (by repeat (first | (with_reducible first | exact HK.out | apply Kept.alloc | apply Kept.drewN | apply Kept.drew) | exact HK.out)) hb); have n2_ := Aside0.mk (kJ (by repeat (first | (with_reducible first | exact HB.out | apply kB | apply kA | apply kC) | exact HB.out)) hb); have n3_ := Aside0.mk (hbox); have n4_ := Aside0.mk ((by rw [hg]; exact (by first | exact HK.out.1 | exact (show Kept w _ (fun k_ => P1_ k_) from by repeat (first | (with_reducible first | exact HK.out | apply Kept.alloc | apply Kept.drewN | apply Kept.drew) | exact HK.out)).1) : w.heap.size ≤ gb168)); have n5_ := Aside0.mk ((by rw [hg]; exact (kL (by repeat (first | (with_reducible first | exact HB.out | apply kB | apply kA | apply kC) | exact HB.out))) : w0.heap.size ≤ gb168)); clear HO1; clear HK; clear HB; have HO1 := n0_; have HK := n1_; have HB := n2_; have BK168 := n3_; have GW168 := n4_; have GE168 := n5_; clear n0_ n1_ n2_ n3_ n4_ n5_; clear hb hbox hg) | ((with_reducible refine gate_dst (N := 6) rfl ?_); refine kO ?hg (N := 6) ?hd (cs := #[.int .i64 0, .int .i64 0]) (t := 23) ?hr ?_; (case hd => rfl); (case hg => rfl); (case hr => first | (go_simp; done) | (go_simp; rfl)); intro gb169 hg w20 hbox hb; have n0_ := Aside0.mk (Kd.R_below (by (with_reducible repeat (first | apply Kd.R_alloc | apply Kd.R_drewN | apply Kd.R_drew)); exact HO1.out) hb); have n1_ := Aside0.mk (kM (g := gb168) (o := .cells #[.int .i64 0, .int .i64 0] 23 (0, 0)) (by (with_reducible repeat (first | refine kE ?_ _ | refine kH ?_ | refine kF ?_ _)); exact BK168.out) hb); have n2_ := Aside0.mk (Kept.below (S := (fun k_ => P1_ k_)) (by repeat (first | (with_reducible first | exact HK.out | apply Kept.alloc | apply Kept.drewN | apply Kept.drew | refine Kept.setCell ?_ (.inr GW168.out) _) | exact HK.out)) hb); have n3_ := Aside0.mk (kJ (by repeat (first | (with_reducible first | exact HB.out | apply kB | apply kA | apply kC | refine kD ?_ GE168.out) | exact HB.out)) hb); have n4_ := Aside0.mk (hbox); have n5_ := Aside0.mk ((by rw [hg]; exact (by first | exact HK.out.1 | exact (show Kept w _ (fun k_ => P1_ k_) from by repeat (first | (with_reducible first | exact HK.out | apply Kept.alloc | apply Kept.drewN | apply Kept.drew | refine Kept.setCell ?_ (.inr GW168.out) _) | exact HK.out)).1) : w.heap.size ≤ gb169)); have n6_ := Aside0.mk ((by rw [hg]; exact (kL (by repeat (first | (with_reducible first | exact HB.out | apply kB | apply kA | apply kC | refine kD ?_ GE168.out) | exact HB.out))) : w0.heap.size ≤ gb169)); have n7_ := Aside0.mk ((by rw [hg]; exact Nat.ne_of_lt (blk_lt (g := gb168) (o := .cells #[.int .i64 0, .int .i64 0] 23 (0, 0)) (by (with_reducible repeat (first | refine kE ?_ _ | refine kH ?_ | refine kF ?_ _)); exact BK168.out)) : gb168 ≠ gb169)); have n8_ := Aside0.mk ((by rw [hg]; exact Nat.ne_of_gt (blk_lt (g := gb168) (o := .cells #[.int .i64 0, .int .i64 0] 23 (0, 0)) (by (with_reducible repeat (first | refine kE ?_ _ | refine kH ?_ | refine kF ?_ _)); exact BK168.out)) : gb169 ≠ gb168)); clear HO1; clear BK168; clear HK; clear HB; have HO1 := n0_; have BK168 := n1_; have HK := n2_; have HB := n3_; have BK169 := n4_; have GW169 := n5_; have GE169 := n6_; have NB168_169 := n7_; have NB169_168 := n8_; clear n0_ n1_ n2_ n3_ n4_ n5_ n6_ n7_ n8_; clear hb hbox hg; have hnb21 := NB169_168.out; have hnc21 := NB168_169.out; have hcz22_0 : w20.cell? ⟨gb169, 0, none⟩ = some (.int .i64 0) := (kI BK169.out 0).trans rfl; have hcz22_1 : w20.cell? ⟨gb169, 1, none⟩ = some (.int .i64 0) := (kI BK169.out 1).trans rfl; have hfz22_0 := kG BK169.out 0; have hfz22_1 := kG BK169.out 1) | ((with_reducible refine gate_builtin (b := .append) (xs := #[.tmp 9, .tmp 10]) rfl ?_); at_builtin; refine Kd.R_append (Kd.int .i64) (w0 := w0) w0.heap.size rfl (.tmp 9) (.tmp 10) 133 24 (.int .i64 0) 8 rfl Tryz.underlying133 info24 rfl (by decide) (by omega) u9000_ l1 0 [.int .i64 0] (fun k_ => (P1_ k_ ∨ w.heap.size ≤ k_)) (fun _ => False) rfl (by first | (go_simp; done) | (go_simp; rfl)) ?aP (fun _ hk => hk.elim) ?aF ?aO ?aB ?aS ?aL ?_; (case aP => exact rfl); (case aB => exact (by repeat (first | (with_reducible first | exact HB.out | apply kB | apply kA | apply kC | refine kD ?_ GE168.out | refine kD ?_ GE169.out) | exact HB.out))); (case aF => exact (fun k_ hk => (.inr (Nat.le_trans (show Kept w _ (fun k_ => P1_ k_) from by repeat (first | (with_reducible first | exact HK.out | apply Kept.alloc | apply Kept.drewN | apply Kept.drew | refine Kept.setCell ?_ (.inr GW168.out) _ | refine Kept.setCell ?_ (.inr GW169.out) _) | exact HK.out)).1 hk)))); (case aO => exact (by (with_reducible repeat (first | apply Kd.R_alloc | apply Kd.R_drewN | apply Kd.R_drew)); exact Kd.R_mono (Kd.R_far (p := ⟨gb169, 1, none⟩) (Kd.R_far (p := ⟨gb169, 0, none⟩) (Kd.R_types HO1.out BK169.out (by decide)) (fun _ hk => hk.2) (.int .i64 0)) (fun _ hk => hk.2) (.int .i64 a0)) (fun _ hk => hk.1))); (case aS => exact (kL (by repeat (first | (with_reducible first | exact HB.out | apply kB | apply kA | apply kC | refine kD ?_ GE168.out | refine kD ?_ GE169.out) | exact HB.out)))); (case aL => have := LMc3.out; omega); intro v171 w23 ho hb hg hat; rw [← Ny170.out] at ho; have n0_ := Aside0.mk (blk_grown (g := gb168) (o := .cells #[.int .i64 0, .int .i64 0] 23 (0, 0)) (by (with_reducible repeat (first | refine kE ?_ _ | refine kH ?_ | refine kF ?_ _)); refine blk_far ?_ NB168_169.out _; (with_reducible repeat (first | refine kE ?_ _ | refine kH ?_ | refine kF ?_ _)); refine blk_far ?_ NB168_169.out _; (with_reducible repeat (first | refine kE ?_ _ | refine kH ?_ | refine kF ?_ _)); exact BK168.out) hg (Kd.R_ne HO1.out BK168.out (by decide))); have n1_ := Aside0.mk (blk_grown (g := gb169) (o := .cells #[.int .i64 0, .int .i64 a0] 23 (0, 0)) (by (with_reducible repeat (first | refine kE ?_ _ | refine kH ?_ | refine kF ?_ _)); refine blk_put (cs := #[.int .i64 0, .int .i64 0]) ?_ 1 _ rfl; (with_reducible repeat (first | refine kE ?_ _ | refine kH ?_ | refine kF ?_ _)); refine blk_put (cs := #[.int .i64 0, .int .i64 0]) ?_ 0 _ rfl; (with_reducible repeat (first | refine kE ?_ _ | refine kH ?_ | refine kF ?_ _)); exact BK169.out) hg (Kd.R_ne HO1.out BK169.out (by decide))); have n2_ := Aside0.mk (hb); have n3_ := Aside0.mk (Kept.of_grown (S := (fun k_ => P1_ k_)) hg (by repeat (first | (with_reducible first | exact HK.out | apply Kept.alloc | apply Kept.drewN | apply Kept.drew | refine Kept.setCell ?_ (.inr GW168.out) _ | refine Kept.setCell ?_ (.inr GW169.out) _) | exact HK.out)) (fun k_ e_ => (HO1.out.1 k_ e_))); have n4_ := Aside0.mk (ho); clear BK168; clear BK169; clear HB; clear HK; clear HO1; have BK168 := n0_; have BK169 := n1_; have HB := n2_; have HK := n3_; have HO172 := n4_; clear n0_ n1_ n2_ n3_ n4_; clear ho hb hg hat; obtain ⟨Ao24, co24, eo24⟩ := Kd.R_slice HO172.out; subst eo24) | ((with_reducible refine kK (f := 86) rfl ?_); refine kN (some 12) rfl rfl Tryz.func86 (by kernel_rfl) rfl #[.slice Ao24 y170.length co24] rfl (by (try simp only [List.map_toArray, List.map_cons, List.map_nil]); first | done | rfl | (simp only [List.length_drop, List.length_take]; rfl)) ?_; (with_reducible refine (api_Errno.calls k _ _ y170 t173 _ ?side1 ?side2 A4.out).mono ?_); (case side1 => repeat (first | exact (Kd.R_reads' HO172.out).2.2 | (with_reducible refine Kd.C_alloc ?_ _) | (with_reducible refine Kd.C_drewN ?_ _) | (with_reducible refine Kd.C_drew ?_))); (case side2 => exact (Kd.R_reads' HO172.out).2.1); rintro e w25 ⟨rfl, hb⟩; refine ⟨_, rfl, ?_⟩; have n0_ := Aside0.mk (Kd.R_below (by (with_reducible repeat (first | apply Kd.R_alloc | apply Kd.R_drewN | apply Kd.R_drew)); exact HO172.out) hb); have n1_ := Aside0.mk (kM (g := gb168) (o := .cells #[.int .i64 0, .int .i64 0] 23 (0, 0)) (by (with_reducible repeat (first | refine kE ?_ _ | refine kH ?_ | refine kF ?_ _)); exact BK168.out) hb); have n2_ := Aside0.mk (kM (g := gb169) (o := .cells #[.int .i64 0, .int .i64 a0] 23 (0, 0)) (by (with_reducible repeat (first | refine kE ?_ _ | refine kH ?_ | refine kF ?_ _)); exact BK169.out) hb); have n3_ := Aside0.mk (Kept.below (S := (fun k_ => P1_ k_)) (by repeat (first | (with_reducible first | exact HK.out | apply Kept.alloc | apply Kept.drewN | apply Kept.drew | refine Kept.setCell ?_ (.inr GW168.out) _ | refine Kept.setCell ?_ (.inr GW169.out) _) | exact HK.out)) hb); have n4_ := Aside0.mk (kJ (by repeat (first | (with_reducible first | exact HB.out | apply kB | apply kA | apply kC | refine kD ?_ GE168.out | refine kD ?_ GE169.out) | exact HB.out)) hb); clear HO172; clear BK168; clear BK169; clear HK; clear HB; have HO172 := n0_; have BK168 := n1_; have BK169 := n2_; have HK := n3_; have HB := n4_; clear n0_ n1_ n2_ n3_ n4_; (try clear hb); (try clear hb2); (try clear hk); (try clear hi); have hcz26_0 : w25.cell? ⟨gb169, 0, none⟩ = some (.int .i64 0) := (kI BK169.out 0).trans rfl; have hcz26_1 : w25.cell? ⟨gb169, 1, none⟩ = some (.int .i64 a0) := (kI BK169.out 1).trans rfl; have hfz26_0 := kG BK169.out 0; have hfz26_1 := kG BK169.out 1) | (go_at_call 44; (with_reducible refine (day_RightStamp.calls k 0 a0 false _ A6.out).mono ?_); rintro e w27 ⟨rfl, hb⟩; have n0_ := Aside0.mk (Kd.R_below (by (with_reducible repeat (first | apply Kd.R_alloc | apply Kd.R_drewN | apply Kd.R_drew)); exact HO172.out) hb); have n1_ := Aside0.mk (kM (g := gb168) (o := .cells #[.int .i64 0, .int .i64 0] 23 (0, 0)) (by (with_reducible repeat (first | refine kE ?_ _ | refine kH ?_ | refine kF ?_ _)); exact BK168.out) hb); have n2_ := Aside0.mk (kM (g := gb169) (o := .cells #[.int .i64 0, .int .i64 a0] 23 (0, 0)) (by (with_reducible repeat (first | refine kE ?_ _ | refine kH ?_ | refine kF ?_ _)); exact BK169.out) hb); have n3_ := Aside0.mk (Kept.below (S := (fun k_ => P1_ k_)) (by repeat (first | (with_reducible first | exact HK.out | apply Kept.alloc | apply Kept.drewN | apply Kept.drew | refine Kept.setCell ?_ (.inr GW168.out) _ | refine Kept.setCell ?_ (.inr GW169.out) _) | exact HK.out)) hb); have n4_ := Aside0.mk (kJ (by repeat (first | (with_reducible first | exact HB.out | apply kB | apply kA | apply kC | refine kD ?_ GE168.out | refine kD ?_ GE169.out) | exact HB.out)) hb); clear HO172; clear BK168; clear BK169; clear HK; clear HB; have HO172 := n0_; have BK168 := n1_; have BK169 := n2_; have HK := n3_; have HB := n4_; clear n0_ n1_ n2_ n3_ n4_; (try clear hb); (try clear hb2); (try clear hk); (try clear hi); have hcz28_0 : w27.cell? ⟨gb168, 0, none⟩ = some (.int .i64 0) := (kI BK168.out 0).trans rfl; have hcz28_1 : w27.cell? ⟨gb168, 1, none⟩ = some (.int .i64 0) := (kI BK168.out 1).trans rfl; have hfz28_0 := kG BK168.out 0; have hfz28_1 := kG BK168.out 1))
        refine bodyPost_ret (results_ct rfl _ _ gb168 23 #[.int .i64 0, .int .i64 0] (0, 0) _ rfl (by (with_reducible repeat (first | refine kE ?_ _ | refine kH ?_ | refine kF ?_ _)); refine blk_put (cs := #[.int .i64 0, .int .i64 0]) ?_ 1 _ rfl; (with_reducible repeat (first | refine kE ?_ _ | refine kH ?_ | refine kF ?_ _)); refine blk_put (cs := #[.int .i64 0, .int .i64 0]) ?_ 0 _ rfl; (with_reducible repeat (first | refine kE ?_ _ | refine kH ?_ | refine kF ?_ _)); exact BK168.out) Tryz.underlying23 rfl (by kernel_rfl)) rfl ?_
        exact ⟨by first | rfl | (simp [errW_none, errW_some] <;> rfl) | (simp [*, errW_none, errW_some] <;> rfl), by repeat (first | (with_reducible first | exact HB.out | apply kB | apply kA | apply kC | refine kD ?_ GE168.out | refine kD ?_ GE169.out) | exact HB.out), by repeat (first | (with_reducible first | exact HK.out | apply Kept.alloc | apply Kept.drewN | apply Kept.drew | refine Kept.setCell ?_ (.inr GW168.out) _ | refine Kept.setCell ?_ (.inr GW169.out) _) | exact HK.out)⟩
    · rw [if_neg c5] at H
      have c5b0 : (t173 == 0) = false := beq_eq_false_iff_ne.mpr c5
      have c5b1 : (t173 != 0) = true := bne_iff_ne.mpr c5
      simp only [Option.some.injEq, Prod.mk.injEq] at H
      obtain ⟨rfl, rfl, rfl⟩ := H
      go_enter Tryz.func33, Tryz.ntmps33
      go_wp2_with (first | ((with_reducible refine gate_dst (N := 4) rfl ?_); refine kO ?hg (N := 4) ?hd (cs := #[.int .i64 0, .int .i64 0]) (t := 23) ?hr ?_; (case hd => rfl); (case hg => rfl); (case hr => first | (go_simp; done) | (go_simp; rfl)); intro gb168 hg w29 hbox hb; have n0_ := Aside0.mk (Kd.R_below (by (with_reducible repeat (first | apply Kd.R_alloc | apply Kd.R_drewN | apply Kd.R_drew)); exact HO1.out) hb); have n1_ := Aside0.mk (Kept.below (S := (fun k_ => P1_ k_)) (by repeat (first | (with_reducible first | exact HK.out | apply Kept.alloc | apply Kept.drewN | apply Kept.drew) | exact HK.out)) hb); have n2_ := Aside0.mk (kJ (by repeat (first | (with_reducible first | exact HB.out | apply kB | apply kA | apply kC) | exact HB.out)) hb); have n3_ := Aside0.mk (hbox); have n4_ := Aside0.mk ((by rw [hg]; exact (by first | exact HK.out.1 | exact (show Kept w _ (fun k_ => P1_ k_) from by repeat (first | (with_reducible first | exact HK.out | apply Kept.alloc | apply Kept.drewN | apply Kept.drew) | exact HK.out)).1) : w.heap.size ≤ gb168)); have n5_ := Aside0.mk ((by rw [hg]; exact (kL (by repeat (first | (with_reducible first | exact HB.out | apply kB | apply kA | apply kC) | exact HB.out))) : w0.heap.size ≤ gb168)); clear HO1; clear HK; clear HB; have HO1 := n0_; have HK := n1_; have HB := n2_; have BK168 := n3_; have GW168 := n4_; have GE168 := n5_; clear n0_ n1_ n2_ n3_ n4_ n5_; clear hb hbox hg) | ((with_reducible refine gate_dst (N := 6) rfl ?_); refine kO ?hg (N := 6) ?hd (cs := #[.int .i64 0, .int .i64 0]) (t := 23) ?hr ?_; (case hd => rfl); (case hg => rfl); (case hr => first | (go_simp; done) | (go_simp; rfl)); intro gb169 hg w30 hbox hb; have n0_ := Aside0.mk (Kd.R_below (by (with_reducible repeat (first | apply Kd.R_alloc | apply Kd.R_drewN | apply Kd.R_drew)); exact HO1.out) hb); have n1_ := Aside0.mk (kM (g := gb168) (o := .cells #[.int .i64 0, .int .i64 0] 23 (0, 0)) (by (with_reducible repeat (first | refine kE ?_ _ | refine kH ?_ | refine kF ?_ _)); exact BK168.out) hb); have n2_ := Aside0.mk (Kept.below (S := (fun k_ => P1_ k_)) (by repeat (first | (with_reducible first | exact HK.out | apply Kept.alloc | apply Kept.drewN | apply Kept.drew | refine Kept.setCell ?_ (.inr GW168.out) _) | exact HK.out)) hb); have n3_ := Aside0.mk (kJ (by repeat (first | (with_reducible first | exact HB.out | apply kB | apply kA | apply kC | refine kD ?_ GE168.out) | exact HB.out)) hb); have n4_ := Aside0.mk (hbox); have n5_ := Aside0.mk ((by rw [hg]; exact (by first | exact HK.out.1 | exact (show Kept w _ (fun k_ => P1_ k_) from by repeat (first | (with_reducible first | exact HK.out | apply Kept.alloc | apply Kept.drewN | apply Kept.drew | refine Kept.setCell ?_ (.inr GW168.out) _) | exact HK.out)).1) : w.heap.size ≤ gb169)); have n6_ := Aside0.mk ((by rw [hg]; exact (kL (by repeat (first | (with_reducible first | exact HB.out | apply kB | apply kA | apply kC | refine kD ?_ GE168.out) | exact HB.out))) : w0.heap.size ≤ gb169)); have n7_ := Aside0.mk ((by rw [hg]; exact Nat.ne_of_lt (blk_lt (g := gb168) (o := .cells #[.int .i64 0, .int .i64 0] 23 (0, 0)) (by (with_reducible repeat (first | refine kE ?_ _ | refine kH ?_ | refine kF ?_ _)); exact BK168.out)) : gb168 ≠ gb169)); have n8_ := Aside0.mk ((by rw [hg]; exact Nat.ne_of_gt (blk_lt (g := gb168) (o := .cells #[.int .i64 0, .int .i64 0] 23 (0, 0)) (by (with_reducible repeat (first | refine kE ?_ _ | refine kH ?_ | refine kF ?_ _)); exact BK168.out)) : gb169 ≠ gb168)); clear HO1; clear BK168; clear HK; clear HB; have HO1 := n0_; have BK168 := n1_; have HK := n2_; have HB := n3_; have BK169 := n4_; have GW169 := n5_; have GE169 := n6_; have NB168_169 := n7_; have NB169_168 := n8_; clear n0_ n1_ n2_ n3_ n4_ n5_ n6_ n7_ n8_; clear hb hbox hg; have hnb31 := NB169_168.out; have hnc31 := NB168_169.out; have hcz32_0 : w30.cell? ⟨gb169, 0, none⟩ = some (.int .i64 0) := (kI BK169.out 0).trans rfl; have hcz32_1 : w30.cell? ⟨gb169, 1, none⟩ = some (.int .i64 0) := (kI BK169.out 1).trans rfl; have hfz32_0 := kG BK169.out 0; have hfz32_1 := kG BK169.out 1) | ((with_reducible refine gate_builtin (b := .append) (xs := #[.tmp 9, .tmp 10]) rfl ?_); at_builtin; refine Kd.R_append (Kd.int .i64) (w0 := w0) w0.heap.size rfl (.tmp 9) (.tmp 10) 133 24 (.int .i64 0) 8 rfl Tryz.underlying133 info24 rfl (by decide) (by omega) u9000_ l1 0 [.int .i64 0] (fun k_ => (P1_ k_ ∨ w.heap.size ≤ k_)) (fun _ => False) rfl (by first | (go_simp; done) | (go_simp; rfl)) ?aP (fun _ hk => hk.elim) ?aF ?aO ?aB ?aS ?aL ?_; (case aP => exact rfl); (case aB => exact (by repeat (first | (with_reducible first | exact HB.out | apply kB | apply kA | apply kC | refine kD ?_ GE168.out | refine kD ?_ GE169.out) | exact HB.out))); (case aF => exact (fun k_ hk => (.inr (Nat.le_trans (show Kept w _ (fun k_ => P1_ k_) from by repeat (first | (with_reducible first | exact HK.out | apply Kept.alloc | apply Kept.drewN | apply Kept.drew | refine Kept.setCell ?_ (.inr GW168.out) _ | refine Kept.setCell ?_ (.inr GW169.out) _) | exact HK.out)).1 hk)))); (case aO => exact (by (with_reducible repeat (first | apply Kd.R_alloc | apply Kd.R_drewN | apply Kd.R_drew)); exact Kd.R_mono (Kd.R_far (p := ⟨gb169, 1, none⟩) (Kd.R_far (p := ⟨gb169, 0, none⟩) (Kd.R_types HO1.out BK169.out (by decide)) (fun _ hk => hk.2) (.int .i64 0)) (fun _ hk => hk.2) (.int .i64 a0)) (fun _ hk => hk.1))); (case aS => exact (kL (by repeat (first | (with_reducible first | exact HB.out | apply kB | apply kA | apply kC | refine kD ?_ GE168.out | refine kD ?_ GE169.out) | exact HB.out)))); (case aL => have := LMc3.out; omega); intro v171 w33 ho hb hg hat; rw [← Ny170.out] at ho; have n0_ := Aside0.mk (blk_grown (g := gb168) (o := .cells #[.int .i64 0, .int .i64 0] 23 (0, 0)) (by (with_reducible repeat (first | refine kE ?_ _ | refine kH ?_ | refine kF ?_ _)); refine blk_far ?_ NB168_169.out _; (with_reducible repeat (first | refine kE ?_ _ | refine kH ?_ | refine kF ?_ _)); refine blk_far ?_ NB168_169.out _; (with_reducible repeat (first | refine kE ?_ _ | refine kH ?_ | refine kF ?_ _)); exact BK168.out) hg (Kd.R_ne HO1.out BK168.out (by decide))); have n1_ := Aside0.mk (blk_grown (g := gb169) (o := .cells #[.int .i64 0, .int .i64 a0] 23 (0, 0)) (by (with_reducible repeat (first | refine kE ?_ _ | refine kH ?_ | refine kF ?_ _)); refine blk_put (cs := #[.int .i64 0, .int .i64 0]) ?_ 1 _ rfl; (with_reducible repeat (first | refine kE ?_ _ | refine kH ?_ | refine kF ?_ _)); refine blk_put (cs := #[.int .i64 0, .int .i64 0]) ?_ 0 _ rfl; (with_reducible repeat (first | refine kE ?_ _ | refine kH ?_ | refine kF ?_ _)); exact BK169.out) hg (Kd.R_ne HO1.out BK169.out (by decide))); have n2_ := Aside0.mk (hb); have n3_ := Aside0.mk (Kept.of_grown (S := (fun k_ => P1_ k_)) hg (by repeat (first | (with_reducible first | exact HK.out | apply Kept.alloc | apply Kept.drewN | apply Kept.drew | refine Kept.setCell ?_ (.inr GW168.out) _ | refine Kept.setCell ?_ (.inr GW169.out) _) | exact HK.out)) (fun k_ e_ => (HO1.out.1 k_ e_))); have n4_ := Aside0.mk (ho); clear BK168; clear BK169; clear HB; clear HK; clear HO1; have BK168 := n0_; have BK169 := n1_; have HB := n2_; have HK := n3_; have HO172 := n4_; clear n0_ n1_ n2_ n3_ n4_; clear ho hb hg hat; obtain ⟨Ao34, co34, eo34⟩ := Kd.R_slice HO172.out; subst eo34) | ((with_reducible refine kK (f := 86) rfl ?_); refine kN (some 12) rfl rfl Tryz.func86 (by kernel_rfl) rfl #[.slice Ao34 y170.length co34] rfl (by (try simp only [List.map_toArray, List.map_cons, List.map_nil]); first | done | rfl | (simp only [List.length_drop, List.length_take]; rfl)) ?_; (with_reducible refine (api_Errno.calls k _ _ y170 t173 _ ?side1 ?side2 A4.out).mono ?_); (case side1 => repeat (first | exact (Kd.R_reads' HO172.out).2.2 | (with_reducible refine Kd.C_alloc ?_ _) | (with_reducible refine Kd.C_drewN ?_ _) | (with_reducible refine Kd.C_drew ?_))); (case side2 => exact (Kd.R_reads' HO172.out).2.1); rintro e w35 ⟨rfl, hb⟩; refine ⟨_, rfl, ?_⟩; have n0_ := Aside0.mk (Kd.R_below (by (with_reducible repeat (first | apply Kd.R_alloc | apply Kd.R_drewN | apply Kd.R_drew)); exact HO172.out) hb); have n1_ := Aside0.mk (kM (g := gb168) (o := .cells #[.int .i64 0, .int .i64 0] 23 (0, 0)) (by (with_reducible repeat (first | refine kE ?_ _ | refine kH ?_ | refine kF ?_ _)); exact BK168.out) hb); have n2_ := Aside0.mk (kM (g := gb169) (o := .cells #[.int .i64 0, .int .i64 a0] 23 (0, 0)) (by (with_reducible repeat (first | refine kE ?_ _ | refine kH ?_ | refine kF ?_ _)); exact BK169.out) hb); have n3_ := Aside0.mk (Kept.below (S := (fun k_ => P1_ k_)) (by repeat (first | (with_reducible first | exact HK.out | apply Kept.alloc | apply Kept.drewN | apply Kept.drew | refine Kept.setCell ?_ (.inr GW168.out) _ | refine Kept.setCell ?_ (.inr GW169.out) _) | exact HK.out)) hb); have n4_ := Aside0.mk (kJ (by repeat (first | (with_reducible first | exact HB.out | apply kB | apply kA | apply kC | refine kD ?_ GE168.out | refine kD ?_ GE169.out) | exact HB.out)) hb); clear HO172; clear BK168; clear BK169; clear HK; clear HB; have HO172 := n0_; have BK168 := n1_; have BK169 := n2_; have HK := n3_; have HB := n4_; clear n0_ n1_ n2_ n3_ n4_; (try clear hb); (try clear hb2); (try clear hk); (try clear hi); have hcz36_0 : w35.cell? ⟨gb168, 0, none⟩ = some (.int .i64 0) := (kI BK168.out 0).trans rfl; have hcz36_1 : w35.cell? ⟨gb168, 1, none⟩ = some (.int .i64 0) := (kI BK168.out 1).trans rfl; have hfz36_0 := kG BK168.out 0; have hfz36_1 := kG BK168.out 1))
      refine bodyPost_ret (results_ct rfl _ _ gb168 23 #[.int .i64 0, .int .i64 0] (0, 0) _ rfl (by (with_reducible repeat (first | refine kE ?_ _ | refine kH ?_ | refine kF ?_ _)); refine blk_put (cs := #[.int .i64 0, .int .i64 0]) ?_ 1 _ rfl; (with_reducible repeat (first | refine kE ?_ _ | refine kH ?_ | refine kF ?_ _)); refine blk_put (cs := #[.int .i64 0, .int .i64 0]) ?_ 0 _ rfl; (with_reducible repeat (first | refine kE ?_ _ | refine kH ?_ | refine kF ?_ _)); exact BK168.out) Tryz.underlying23 rfl (by kernel_rfl)) rfl ?_
      exact ⟨by first | rfl | (simp [errW_none, errW_some] <;> rfl) | (simp [*, errW_none, errW_some] <;> rfl), by repeat (first | (with_reducible first | exact HB.out | apply kB | apply kA | apply kC | refine kD ?_ GE168.out | refine kD ?_ GE169.out) | exact HB.out), by repeat (first | (with_reducible first | exact HK.out | apply Kept.alloc | apply Kept.drewN | apply Kept.drew | refine Kept.setCell ?_ (.inr GW168.out) _ | refine Kept.setCell ?_ (.inr GW169.out) _) | exact HK.out)⟩
  · rw [if_neg c3] at H
    exact absurd H (by simp)
end Go.Proofs.YthkmckmfgglafaaGreat.P
namespace Go.Proofs.YthkmckmfgglafaaGreat.P
open Go.RowKit Go.Proofs.YthkmckmfgglafaaGreatW.PrintWords Go.Proofs.YthkmckmfgglafaaGreatW.PrintLast Go.Proofs.YthkmckmfgglafaaGreatW.PrintMore
attribute [local go_sem] max2_int min2_int max_two min_two max_three min_three max_four min_four   -- for this text's walks alone
set_option linter.unusedVariables false
set_option linter.unusedSimpArgs false
theorem eqA32 (d : Nat) (w : World) (x0 y0 : Int) (x1 y1 : Int) (x2 y2 : Int) (x3 y3 : Int) :
    (Op.equalIn (d + 2) 32 (.agg #[.int .i64 x0, .int .i64 x1, .int .i64 x2, .int .i64 x3]) (.agg #[.int .i64 y0, .int .i64 y1, .int .i64 y2, .int .i64 y3])).run Tryz.prog w = .ok (x0 == y0 && (x1 == y1 && (x2 == y2 && (x3 == y3)))) w := by
  refine eqA_of Tryz.underlying32 (by kernel_rfl) ?_
  refine eqf_cons (by rfl) (by go_simp; rfl) (by go_simp; rfl) (by go_simp) ?_
  refine eqf_cons (by rfl) (by go_simp; rfl) (by go_simp; rfl) (by go_simp) ?_
  refine eqf_cons (by rfl) (by go_simp; rfl) (by go_simp; rfl) (by go_simp) ?_
  exact eqf_last (by rfl) (by go_simp; rfl) (by go_simp; rfl) (by go_simp)
end Go.Proofs.YthkmckmfgglafaaGreat.P
namespace Go.Proofs.YthkmckmfgglafaaGreat.P
open Go.RowKit Go.Proofs.YthkmckmfgglafaaGreatW.PrintWords Go.Proofs.YthkmckmfgglafaaGreatW.PrintLast Go.Proofs.YthkmckmfgglafaaGreatW.PrintMore
attribute [local go_sem] max2_int min2_int max_two min_two max_three min_three max_four min_four   -- for this text's walks alone
set_option linter.unusedVariables false
set_option linter.unusedSimpArgs false
def num_Add.f (a0 : Int) (a1 : Int) : Option (Int × Int) := if ((decide ((wrap64 (a0 + a1)) > a0)) != (decide (a1 > 0))) = true then (some (0, 10)) else (some (wrap64 (a0 + a1), 0))
set_option maxHeartbeats 8000000 in
set_option maxRecDepth 100000 in
theorem num_Add.calls (a0 : Int) (a1 : Int) (r1 : Int) (r2 : Int) (w : World) (h : num_Add.f a0 a1 = some (r1, r2)) :
    Calls Tryz.prog 56 #[.int .i64 a0, .int .i64 a1] w fun e w' => e = .returned (.tuple #[.int .i64 r1, .int .i64 r2]) ∧ Drawn0 w w' := by
  have H : (if ((decide ((wrap64 (a0 + a1)) > a0)) != (decide (a1 > 0))) = true then (some (0, 10)) else (some (wrap64 (a0 + a1), 0))) = some (r1, r2) := h
  clear h
  by_cases c3 : ((decide ((wrap64 (a0 + a1)) > a0)) != (decide (a1 > 0))) = true
  · rw [if_pos c3] at H
    have c3b0 : ((decide ((wrap64 (a0 + a1)) > a0)) != (decide (a1 > 0))) = true := c3
    (try (have c3b1 : decide ((decide ((wrap64 (a0 + a1)) > a0)) = (decide (a1 > 0))) = false := by simpa using c3))
    (try (have c3b2 : ((decide ((wrap64 (a0 + a1)) > a0)) == (decide (a1 > 0))) = false := by simpa using c3))
    (try (have c3b3 : ¬ ((decide ((wrap64 (a0 + a1)) > a0)) = (decide (a1 > 0))) := by simpa using c3))
    clear c3
    simp only [Option.some.injEq, Prod.mk.injEq] at H
    obtain ⟨rfl, rfl⟩ := H
    go_enter Tryz.func56, Tryz.ntmps56
    go_wp2
    go_ret2
    exact ⟨by first | rfl | (simp; done) | (simp [*]; done), by repeat (first | exact Drawn0.refl _ | apply Drawn0.step)⟩
  · rw [if_neg c3] at H
    have c3b0 : ((decide ((wrap64 (a0 + a1)) > a0)) != (decide (a1 > 0))) = false := by simpa using c3
    (try (have c3b1 : decide ((decide ((wrap64 (a0 + a1)) > a0)) = (decide (a1 > 0))) = true := by simpa using c3))
    (try (have c3b2 : ((decide ((wrap64 (a0 + a1)) > a0)) == (decide (a1 > 0))) = true := by simpa using c3))
    clear c3
    simp only [Option.some.injEq, Prod.mk.injEq] at H
    obtain ⟨rfl, rfl⟩ := H
    go_enter Tryz.func56, Tryz.ntmps56
    go_wp2
    go_ret2
    exact ⟨by first | rfl | (simp; done) | (simp [*]; done), by repeat (first | exact Drawn0.refl _ | apply Drawn0.step)⟩
def num_Mul.f (k : Nat) (a0 : Int) (a1 : Int) : Option (Int × Int) := (num_product.f a0 a1).bind fun bt203 => ((num_signed.f k ((decide (a0 < 0)) != (decide (a1 < 0))) bt203.1 bt203.2).bind fun bt205 => (some (bt205.1, bt205.2)))
set_option maxHeartbeats 8000000 in
set_option maxRecDepth 100000 in
theorem num_Mul.calls (k : Nat) (a0 : Int) (a1 : Int) (r1 : Int) (r2 : Int) (w : World) (h : num_Mul.f k a0 a1 = some (r1, r2)) :
    Calls Tryz.prog 97 #[.int .i64 a0, .int .i64 a1] w fun e w' => e = .returned (.tuple #[.int .i64 r1, .int .i64 r2]) ∧ Below w.heap.size w w' := by
  have HB := Aside0.mk (Below.refl w.heap.size w)
  have H : ((num_product.f a0 a1).bind fun bt203 => ((num_signed.f k ((decide (a0 < 0)) != (decide (a1 < 0))) bt203.1 bt203.2).bind fun bt205 => (some (bt205.1, bt205.2)))) = some (r1, r2) := h
  clear h
  replace H := Option.bind_eq_some_iff.mp H
  obtain ⟨⟨t203, t204⟩, A30, H⟩ := H
  replace H : ((num_signed.f k ((decide (a0 < 0)) != (decide (a1 < 0))) t203 t204).bind fun bt205 => (some (bt205.1, bt205.2))) = some (r1, r2) := H
  have A3 := Aside0.mk A30
  clear A30
  replace H := Option.bind_eq_some_iff.mp H
  obtain ⟨⟨t205, t206⟩, A40, H⟩ := H
  replace H : (some (t205, t206)) = some (r1, r2) := H
  have A4 := Aside0.mk A40
  clear A40
  simp only [Option.some.injEq, Prod.mk.injEq] at H
  obtain ⟨rfl, rfl⟩ := H
  go_enter Tryz.func97, Tryz.ntmps97
  go_wp2_with (first | ((with_reducible refine kK (f := 134) rfl ?_); refine kN (some 13) rfl rfl Tryz.func134 (by kernel_rfl) rfl #[.int .i64 a0, .int .i64 a1] rfl (by (try simp only [List.map_toArray, List.map_cons, List.map_nil]); first | done | rfl | (simp only [List.length_drop, List.length_take]; rfl)) ?_; (with_reducible refine (num_product.calls a0 a1 t203 t204 _ A3.out).mono ?_); rintro e w5 ⟨rfl, hb⟩; refine ⟨_, rfl, ?_⟩; have n0_ := Aside0.mk (kJ (by repeat (first | (with_reducible first | exact HB.out | apply kB | apply kA | apply kC) | exact HB.out)) hb); clear HB; have HB := n0_; clear n0_; (try clear hb); (try clear hb2); (try clear hk); (try clear hi)) | ((with_reducible refine kK (f := 133) rfl ?_); refine kN (some 14) rfl rfl Tryz.func133 (by kernel_rfl) rfl #[.bool ((decide (a0 < 0)) != (decide (a1 < 0))), .agg #[.int .u64 t203, .int .u64 t204]] rfl (by (try simp only [List.map_toArray, List.map_cons, List.map_nil]); first | done | rfl | (simp only [List.length_drop, List.length_take]; rfl)) ?_; (with_reducible refine (num_signed.calls k ((decide (a0 < 0)) != (decide (a1 < 0))) t203 t204 t205 t206 _ A4.out).mono ?_); rintro e w6 ⟨rfl, hb⟩; refine ⟨_, rfl, ?_⟩; have n0_ := Aside0.mk (kJ (by repeat (first | (with_reducible first | exact HB.out | apply kB | apply kA | apply kC) | exact HB.out)) hb); clear HB; have HB := n0_; clear n0_; (try clear hb); (try clear hb2); (try clear hk); (try clear hi)))
  go_ret2
  exact ⟨by first | rfl | (simp [errW_none, errW_some] <;> rfl) | (simp [*, errW_none, errW_some] <;> rfl), by repeat (first | (with_reducible first | exact HB.out | apply kB | apply kA | apply kC) | exact HB.out)⟩
end Go.Proofs.YthkmckmfgglafaaGreat.P
namespace Go.Proofs.YthkmckmfgglafaaGreat.P
open Go.RowKit Go.Proofs.YthkmckmfgglafaaGreatW.PrintWords Go.Proofs.YthkmckmfgglafaaGreatW.PrintLast Go.Proofs.YthkmckmfgglafaaGreatW.PrintMore
attribute [local go_sem] max2_int min2_int max_two min_two max_three min_three max_four min_four   -- for this text's walks alone
set_option linter.unusedVariables false
set_option linter.unusedSimpArgs false
attribute [local go_sem high] eqA32
-- NOT PRINTED: function 9 (ops_Trunc)
def num_Sub.f (a0 : Int) (a1 : Int) : Option (Int × Int) := if ((decide ((wrap64 (a0 - a1)) < a0)) != (decide (a1 > 0))) = true then (some (0, 10)) else (some (wrap64 (a0 - a1), 0))
set_option maxHeartbeats 8000000 in
set_option maxRecDepth 100000 in
theorem num_Sub.calls (a0 : Int) (a1 : Int) (r1 : Int) (r2 : Int) (w : World) (h : num_Sub.f a0 a1 = some (r1, r2)) :
    Calls Tryz.prog 46 #[.int .i64 a0, .int .i64 a1] w fun e w' => e = .returned (.tuple #[.int .i64 r1, .int .i64 r2]) ∧ Drawn0 w w' := by
  have H : (if ((decide ((wrap64 (a0 - a1)) < a0)) != (decide (a1 > 0))) = true then (some (0, 10)) else (some (wrap64 (a0 - a1), 0))) = some (r1, r2) := h
  clear h
  by_cases c3 : ((decide ((wrap64 (a0 - a1)) < a0)) != (decide (a1 > 0))) = true
  · rw [if_pos c3] at H
    have c3b0 : ((decide ((wrap64 (a0 - a1)) < a0)) != (decide (a1 > 0))) = true := c3
    (try (have c3b1 : decide ((decide ((wrap64 (a0 - a1)) < a0)) = (decide (a1 > 0))) = false := by simpa using c3))
    (try (have c3b2 : ((decide ((wrap64 (a0 - a1)) < a0)) == (decide (a1 > 0))) = false := by simpa using c3))
    (try (have c3b3 : ¬ ((decide ((wrap64 (a0 - a1)) < a0)) = (decide (a1 > 0))) := by simpa using c3))
    clear c3
    simp only [Option.some.injEq, Prod.mk.injEq] at H
    obtain ⟨rfl, rfl⟩ := H
    go_enter Tryz.func46, Tryz.ntmps46
    go_wp2
    go_ret2
    exact ⟨by first | rfl | (simp; done) | (simp [*]; done), by repeat (first | exact Drawn0.refl _ | apply Drawn0.step)⟩
  · rw [if_neg c3] at H
    have c3b0 : ((decide ((wrap64 (a0 - a1)) < a0)) != (decide (a1 > 0))) = false := by simpa using c3
    (try (have c3b1 : decide ((decide ((wrap64 (a0 - a1)) < a0)) = (decide (a1 > 0))) = true := by simpa using c3))
    (try (have c3b2 : ((decide ((wrap64 (a0 - a1)) < a0)) == (decide (a1 > 0))) = true := by simpa using c3))
    clear c3
    simp only [Option.some.injEq, Prod.mk.injEq] at H
    obtain ⟨rfl, rfl⟩ := H
    go_enter Tryz.func46, Tryz.ntmps46
    go_wp2
    go_ret2
    exact ⟨by first | rfl | (simp; done) | (simp [*]; done), by repeat (first | exact Drawn0.refl _ | apply Drawn0.step)⟩
def num_Neg.f (a0 : Int) : Option (Int × Int) := (num_Sub.f 0 a0).bind fun bt224 => (some (bt224.1, bt224.2))
set_option maxHeartbeats 8000000 in
set_option maxRecDepth 100000 in
theorem num_Neg.calls (a0 : Int) (r1 : Int) (r2 : Int) (w : World) (h : num_Neg.f a0 = some (r1, r2)) :
    Calls Tryz.prog 94 #[.int .i64 a0] w fun e w' => e = .returned (.tuple #[.int .i64 r1, .int .i64 r2]) ∧ Drawn0 w w' := by
  have H : ((num_Sub.f 0 a0).bind fun bt224 => (some (bt224.1, bt224.2))) = some (r1, r2) := h
  clear h
  replace H := Option.bind_eq_some_iff.mp H
  obtain ⟨⟨t224, t225⟩, A20, H⟩ := H
  replace H : (some (t224, t225)) = some (r1, r2) := H
  have A2 := Aside0.mk A20
  clear A20
  simp only [Option.some.injEq, Prod.mk.injEq] at H
  obtain ⟨rfl, rfl⟩ := H
  go_enter Tryz.func94, Tryz.ntmps94
  go_wp2_with (first | ((with_reducible refine kK (f := 46) rfl ?_); refine kN (some 5) rfl rfl Tryz.func46 (by kernel_rfl) rfl #[.int .i64 0, .int .i64 a0] rfl (by (try simp only [List.map_toArray, List.map_cons, List.map_nil]); first | done | rfl | (simp only [List.length_drop, List.length_take]; rfl)) ?_; (with_reducible refine (num_Sub.calls 0 a0 t224 t225 _ A2.out).mono ?_); rintro e w' ⟨rfl, ⟨nd, rfl⟩⟩; refine ⟨_, rfl, ?_⟩))
  go_ret2
  exact ⟨by first | rfl | (simp; done) | (simp [*]; done), by repeat (first | exact Drawn0.refl _ | apply Drawn0.step)⟩
def span_within.f (a0 : Int) : Option (Bool) := if a0 ≥ (-2147483647) then (some (decide (a0 ≤ 2147483647))) else (some false)
set_option maxHeartbeats 8000000 in
set_option maxRecDepth 100000 in
theorem span_within.calls (a0 : Int) (r : Bool) (w : World) (h : span_within.f a0 = some r) :
    Calls Tryz.prog 95 #[.int .i64 a0] w fun e w' => e = .returned (.bool r) ∧ Drawn0 w w' := by
  have H : (if a0 ≥ (-2147483647) then (some (decide (a0 ≤ 2147483647))) else (some false)) = some r := h
  clear h
  by_cases c2 : a0 ≥ (-2147483647)
  · rw [if_pos c2] at H
    have c2b0 : decide ((-2147483647) ≤ a0) = true := decide_eq_true c2
    clear c2
    obtain rfl := Option.some.inj H
    go_enter Tryz.func95, Tryz.ntmps95
    go_wp2
    go_ret
    exact ⟨by first | rfl | (simp; done) | (simp [*]; done), by repeat (first | exact Drawn0.refl _ | apply Drawn0.step)⟩
  · rw [if_neg c2] at H
    have c2b0 : decide ((-2147483647) ≤ a0) = false := decide_eq_false c2
    clear c2
    obtain rfl := Option.some.inj H
    go_enter Tryz.func95, Tryz.ntmps95
    go_wp2
    go_ret
    exact ⟨by first | rfl | (simp; done) | (simp [*]; done), by repeat (first | exact Drawn0.refl _ | apply Drawn0.step)⟩
def span_Right.f (a0_0 : Int) (a0_1 : Int) (a0_2 : Int) (a0_3 : Int) : Option (Bool) := if a0_0 = 0 then ((num_Neg.f a0_3).bind fun bt227 => ((span_within.f a0_1).bind fun t229 => (if t229 = true then ((span_within.f a0_2).bind fun t230 => (if t230 = true then (some (bt227.2 == 0)) else (some false))) else (some false)))) else (if (a0_1 == 0 && (a0_2 == 0 && (a0_3 == 0))) = true then (if a0_0 ≥ (-1) then (some (decide (a0_0 ≤ 1))) else (some false)) else (some false))
set_option maxHeartbeats 8000000 in
set_option maxRecDepth 100000 in
theorem span_Right.calls (a0_0 : Int) (a0_1 : Int) (a0_2 : Int) (a0_3 : Int) (r : Bool) (w : World) (h : span_Right.f a0_0 a0_1 a0_2 a0_3 = some r) :
    Calls Tryz.prog 43 #[.agg #[.int .i64 a0_0, .int .i64 a0_1, .int .i64 a0_2, .int .i64 a0_3]] w fun e w' => e = .returned (.bool r) ∧ Below w.heap.size w w' := by
  have hu32 := Tryz.underlying32
  have HB := Aside0.mk (Below.refl w.heap.size w)
  have H : (if a0_0 = 0 then ((num_Neg.f a0_3).bind fun bt227 => ((span_within.f a0_1).bind fun t229 => (if t229 = true then ((span_within.f a0_2).bind fun t230 => (if t230 = true then (some (bt227.2 == 0)) else (some false))) else (some false)))) else (if (a0_1 == 0 && (a0_2 == 0 && (a0_3 == 0))) = true then (if a0_0 ≥ (-1) then (some (decide (a0_0 ≤ 1))) else (some false)) else (some false))) = some r := h
  clear h
  by_cases c2 : a0_0 = 0
  · rw [if_pos c2] at H
    have c2b0 : (a0_0 == 0) = true := beq_iff_eq.mpr c2
    have c2b1 : (a0_0 != 0) = false := bne_eq_false_iff_eq.mpr c2
    clear c2
    replace H := Option.bind_eq_some_iff.mp H
    obtain ⟨⟨t227, t228⟩, A30, H⟩ := H
    replace H : ((span_within.f a0_1).bind fun t229 => (if t229 = true then ((span_within.f a0_2).bind fun t230 => (if t230 = true then (some (t228 == 0)) else (some false))) else (some false))) = some r := H
    have A3 := Aside0.mk A30
    clear A30
    replace H := Option.bind_eq_some_iff.mp H
    obtain ⟨t229, A40, H⟩ := H
    replace H : (if t229 = true then ((span_within.f a0_2).bind fun t230 => (if t230 = true then (some (t228 == 0)) else (some false))) else (some false)) = some r := H
    have A4 := Aside0.mk A40
    clear A40
    by_cases c5 : t229 = true
    · subst c5
      have H1 : ((span_within.f a0_2).bind fun t230 => (if t230 = true then (some (t228 == 0)) else (some false))) = some r := by rw [if_pos rfl] at H; exact H
      clear H
      have H := H1
      clear H1
      replace H := Option.bind_eq_some_iff.mp H
      obtain ⟨t230, A60, H⟩ := H
      replace H : (if t230 = true then (some (t228 == 0)) else (some false)) = some r := H
      have A6 := Aside0.mk A60
      clear A60
      by_cases c7 : t230 = true
      · subst c7
        have H1 : (some (t228 == 0)) = some r := by rw [if_pos rfl] at H; exact H
        clear H
        have H := H1
        clear H1
        obtain rfl := Option.some.inj H
        go_enter Tryz.func43, Tryz.ntmps43
        go_wp2_with (first | ((with_reducible refine gate_dst (N := 1) rfl ?_); refine kO ?hg (N := 1) ?hd (cs := #[.int .i64 a0_0, .int .i64 a0_1, .int .i64 a0_2, .int .i64 a0_3]) (t := 32) ?hr ?_; (case hd => rfl); (case hg => rfl); (case hr => first | (go_simp; done) | (go_simp; rfl)); intro gb226 hg w8 hbox hb; have n0_ := Aside0.mk (kJ (by repeat (first | (with_reducible first | exact HB.out | apply kB | apply kA | apply kC) | exact HB.out)) hb); have n1_ := Aside0.mk (hbox); have n2_ := Aside0.mk ((by rw [hg]; exact (kL (by repeat (first | (with_reducible first | exact HB.out | apply kB | apply kA | apply kC) | exact HB.out))) : w.heap.size ≤ gb226)); have n3_ := Aside0.mk ((by rw [hg]; exact (kL (by repeat (first | (with_reducible first | exact HB.out | apply kB | apply kA | apply kC) | exact HB.out))) : w.heap.size ≤ gb226)); clear HB; have HB := n0_; have BK226 := n1_; have GW226 := n2_; have GE226 := n3_; clear n0_ n1_ n2_ n3_; clear hb hbox hg; have hcz9_0 : w8.cell? ⟨gb226, 0, none⟩ = some (.int .i64 a0_0) := (kI BK226.out 0).trans rfl; have hcz9_1 : w8.cell? ⟨gb226, 1, none⟩ = some (.int .i64 a0_1) := (kI BK226.out 1).trans rfl; have hcz9_2 : w8.cell? ⟨gb226, 2, none⟩ = some (.int .i64 a0_2) := (kI BK226.out 2).trans rfl; have hcz9_3 : w8.cell? ⟨gb226, 3, none⟩ = some (.int .i64 a0_3) := (kI BK226.out 3).trans rfl; have hfz9_0 := kG BK226.out 0; have hfz9_1 := kG BK226.out 1; have hfz9_2 := kG BK226.out 2; have hfz9_3 := kG BK226.out 3) | ((with_reducible refine kK (f := 94) rfl ?_); refine kN (some 28) rfl rfl Tryz.func94 (by kernel_rfl) rfl #[.int .i64 a0_3] rfl (by (try simp only [List.map_toArray, List.map_cons, List.map_nil]); first | done | rfl | (simp only [List.length_drop, List.length_take]; rfl)) ?_; (with_reducible refine (num_Neg.calls a0_3 t227 t228 _ A3.out).mono ?_); rintro e w' ⟨rfl, ⟨nd, rfl⟩⟩; refine ⟨_, rfl, ?_⟩) | ((with_reducible refine kK (f := 95) rfl ?_); refine kN (some 33) rfl rfl Tryz.func95 (by kernel_rfl) rfl #[.int .i64 a0_1] rfl (by (try simp only [List.map_toArray, List.map_cons, List.map_nil]); first | done | rfl | (simp only [List.length_drop, List.length_take]; rfl)) ?_; (with_reducible refine (span_within.calls a0_1 true _ A4.out).mono ?_); rintro e w' ⟨rfl, ⟨nd, rfl⟩⟩; refine ⟨_, rfl, ?_⟩) | (go_at_call 95; (with_reducible refine (span_within.calls a0_2 true _ A6.out).mono ?_); rintro e w' ⟨rfl, ⟨nd, rfl⟩⟩))
        go_ret
        exact ⟨by first | rfl | (simp [errW_none, errW_some] <;> rfl) | (simp [*, errW_none, errW_some] <;> rfl), by repeat (first | (with_reducible first | exact HB.out | apply kB | apply kA | apply kC | refine kD ?_ GE226.out) | exact HB.out)⟩
      · replace c7 := Bool.eq_false_iff.mpr c7
        subst c7
        have H1 : (some false) = some r := by rw [if_neg (show ¬ (false = true) by decide)] at H; exact H
        clear H
        have H := H1
        clear H1
        obtain rfl := Option.some.inj H
        go_enter Tryz.func43, Tryz.ntmps43
        go_wp2_with (first | ((with_reducible refine gate_dst (N := 1) rfl ?_); refine kO ?hg (N := 1) ?hd (cs := #[.int .i64 a0_0, .int .i64 a0_1, .int .i64 a0_2, .int .i64 a0_3]) (t := 32) ?hr ?_; (case hd => rfl); (case hg => rfl); (case hr => first | (go_simp; done) | (go_simp; rfl)); intro gb226 hg w10 hbox hb; have n0_ := Aside0.mk (kJ (by repeat (first | (with_reducible first | exact HB.out | apply kB | apply kA | apply kC) | exact HB.out)) hb); have n1_ := Aside0.mk (hbox); have n2_ := Aside0.mk ((by rw [hg]; exact (kL (by repeat (first | (with_reducible first | exact HB.out | apply kB | apply kA | apply kC) | exact HB.out))) : w.heap.size ≤ gb226)); have n3_ := Aside0.mk ((by rw [hg]; exact (kL (by repeat (first | (with_reducible first | exact HB.out | apply kB | apply kA | apply kC) | exact HB.out))) : w.heap.size ≤ gb226)); clear HB; have HB := n0_; have BK226 := n1_; have GW226 := n2_; have GE226 := n3_; clear n0_ n1_ n2_ n3_; clear hb hbox hg; have hcz11_0 : w10.cell? ⟨gb226, 0, none⟩ = some (.int .i64 a0_0) := (kI BK226.out 0).trans rfl; have hcz11_1 : w10.cell? ⟨gb226, 1, none⟩ = some (.int .i64 a0_1) := (kI BK226.out 1).trans rfl; have hcz11_2 : w10.cell? ⟨gb226, 2, none⟩ = some (.int .i64 a0_2) := (kI BK226.out 2).trans rfl; have hcz11_3 : w10.cell? ⟨gb226, 3, none⟩ = some (.int .i64 a0_3) := (kI BK226.out 3).trans rfl; have hfz11_0 := kG BK226.out 0; have hfz11_1 := kG BK226.out 1; have hfz11_2 := kG BK226.out 2; have hfz11_3 := kG BK226.out 3) | ((with_reducible refine kK (f := 94) rfl ?_); refine kN (some 28) rfl rfl Tryz.func94 (by kernel_rfl) rfl #[.int .i64 a0_3] rfl (by (try simp only [List.map_toArray, List.map_cons, List.map_nil]); first | done | rfl | (simp only [List.length_drop, List.length_take]; rfl)) ?_; (with_reducible refine (num_Neg.calls a0_3 t227 t228 _ A3.out).mono ?_); rintro e w' ⟨rfl, ⟨nd, rfl⟩⟩; refine ⟨_, rfl, ?_⟩) | ((with_reducible refine kK (f := 95) rfl ?_); refine kN (some 33) rfl rfl Tryz.func95 (by kernel_rfl) rfl #[.int .i64 a0_1] rfl (by (try simp only [List.map_toArray, List.map_cons, List.map_nil]); first | done | rfl | (simp only [List.length_drop, List.length_take]; rfl)) ?_; (with_reducible refine (span_within.calls a0_1 true _ A4.out).mono ?_); rintro e w' ⟨rfl, ⟨nd, rfl⟩⟩; refine ⟨_, rfl, ?_⟩) | (go_at_call 95; (with_reducible refine (span_within.calls a0_2 false _ A6.out).mono ?_); rintro e w' ⟨rfl, ⟨nd, rfl⟩⟩))
        go_ret
        exact ⟨by first | rfl | (simp [errW_none, errW_some] <;> rfl) | (simp [*, errW_none, errW_some] <;> rfl), by repeat (first | (with_reducible first | exact HB.out | apply kB | apply kA | apply kC | refine kD ?_ GE226.out) | exact HB.out)⟩
    · replace c5 := Bool.eq_false_iff.mpr c5
      subst c5
      have H1 : (some false) = some r := by rw [if_neg (show ¬ (false = true) by decide)] at H; exact H
      clear H
      have H := H1
      clear H1
      obtain rfl := Option.some.inj H
      go_enter Tryz.func43, Tryz.ntmps43
      go_wp2_with (first | ((with_reducible refine gate_dst (N := 1) rfl ?_); refine kO ?hg (N := 1) ?hd (cs := #[.int .i64 a0_0, .int .i64 a0_1, .int .i64 a0_2, .int .i64 a0_3]) (t := 32) ?hr ?_; (case hd => rfl); (case hg => rfl); (case hr => first | (go_simp; done) | (go_simp; rfl)); intro gb226 hg w12 hbox hb; have n0_ := Aside0.mk (kJ (by repeat (first | (with_reducible first | exact HB.out | apply kB | apply kA | apply kC) | exact HB.out)) hb); have n1_ := Aside0.mk (hbox); have n2_ := Aside0.mk ((by rw [hg]; exact (kL (by repeat (first | (with_reducible first | exact HB.out | apply kB | apply kA | apply kC) | exact HB.out))) : w.heap.size ≤ gb226)); have n3_ := Aside0.mk ((by rw [hg]; exact (kL (by repeat (first | (with_reducible first | exact HB.out | apply kB | apply kA | apply kC) | exact HB.out))) : w.heap.size ≤ gb226)); clear HB; have HB := n0_; have BK226 := n1_; have GW226 := n2_; have GE226 := n3_; clear n0_ n1_ n2_ n3_; clear hb hbox hg; have hcz13_0 : w12.cell? ⟨gb226, 0, none⟩ = some (.int .i64 a0_0) := (kI BK226.out 0).trans rfl; have hcz13_1 : w12.cell? ⟨gb226, 1, none⟩ = some (.int .i64 a0_1) := (kI BK226.out 1).trans rfl; have hcz13_2 : w12.cell? ⟨gb226, 2, none⟩ = some (.int .i64 a0_2) := (kI BK226.out 2).trans rfl; have hcz13_3 : w12.cell? ⟨gb226, 3, none⟩ = some (.int .i64 a0_3) := (kI BK226.out 3).trans rfl; have hfz13_0 := kG BK226.out 0; have hfz13_1 := kG BK226.out 1; have hfz13_2 := kG BK226.out 2; have hfz13_3 := kG BK226.out 3) | ((with_reducible refine kK (f := 94) rfl ?_); refine kN (some 28) rfl rfl Tryz.func94 (by kernel_rfl) rfl #[.int .i64 a0_3] rfl (by (try simp only [List.map_toArray, List.map_cons, List.map_nil]); first | done | rfl | (simp only [List.length_drop, List.length_take]; rfl)) ?_; (with_reducible refine (num_Neg.calls a0_3 t227 t228 _ A3.out).mono ?_); rintro e w' ⟨rfl, ⟨nd, rfl⟩⟩; refine ⟨_, rfl, ?_⟩) | ((with_reducible refine kK (f := 95) rfl ?_); refine kN (some 33) rfl rfl Tryz.func95 (by kernel_rfl) rfl #[.int .i64 a0_1] rfl (by (try simp only [List.map_toArray, List.map_cons, List.map_nil]); first | done | rfl | (simp only [List.length_drop, List.length_take]; rfl)) ?_; (with_reducible refine (span_within.calls a0_1 false _ A4.out).mono ?_); rintro e w' ⟨rfl, ⟨nd, rfl⟩⟩; refine ⟨_, rfl, ?_⟩))
      go_ret
      exact ⟨by first | rfl | (simp [errW_none, errW_some] <;> rfl) | (simp [*, errW_none, errW_some] <;> rfl), by repeat (first | (with_reducible first | exact HB.out | apply kB | apply kA | apply kC | refine kD ?_ GE226.out) | exact HB.out)⟩
  · rw [if_neg c2] at H
    have c2b0 : (a0_0 == 0) = false := beq_eq_false_iff_ne.mpr c2
    have c2b1 : (a0_0 != 0) = true := bne_iff_ne.mpr c2
    by_cases c14 : (a0_1 == 0 && (a0_2 == 0 && (a0_3 == 0))) = true
    · rw [if_pos c14] at H
      have c14b0 : (a0_1 == 0 && (a0_2 == 0 && (a0_3 == 0))) = true := c14
      (try (have c14b1 : decide (a0_1 = 0 && (a0_2 == 0 && (a0_3 == 0))) = true := by simpa using c14))
      (try (have c14b2 : (a0_1 == 0 && (a0_2 == 0 && (a0_3 == 0))) = true := by simpa using c14))
      clear c14
      by_cases c15 : a0_0 ≥ (-1)
      · rw [if_pos c15] at H
        have c15b0 : decide ((-1) ≤ a0_0) = true := decide_eq_true c15
        clear c15
        obtain rfl := Option.some.inj H
        go_enter Tryz.func43, Tryz.ntmps43
        go_wp2_with (first | ((with_reducible refine gate_dst (N := 1) rfl ?_); refine kO ?hg (N := 1) ?hd (cs := #[.int .i64 a0_0, .int .i64 a0_1, .int .i64 a0_2, .int .i64 a0_3]) (t := 32) ?hr ?_; (case hd => rfl); (case hg => rfl); (case hr => first | (go_simp; done) | (go_simp; rfl)); intro gb226 hg w16 hbox hb; have n0_ := Aside0.mk (kJ (by repeat (first | (with_reducible first | exact HB.out | apply kB | apply kA | apply kC) | exact HB.out)) hb); have n1_ := Aside0.mk (hbox); have n2_ := Aside0.mk ((by rw [hg]; exact (kL (by repeat (first | (with_reducible first | exact HB.out | apply kB | apply kA | apply kC) | exact HB.out))) : w.heap.size ≤ gb226)); have n3_ := Aside0.mk ((by rw [hg]; exact (kL (by repeat (first | (with_reducible first | exact HB.out | apply kB | apply kA | apply kC) | exact HB.out))) : w.heap.size ≤ gb226)); clear HB; have HB := n0_; have BK226 := n1_; have GW226 := n2_; have GE226 := n3_; clear n0_ n1_ n2_ n3_; clear hb hbox hg; have hcz17_0 : w16.cell? ⟨gb226, 0, none⟩ = some (.int .i64 a0_0) := (kI BK226.out 0).trans rfl; have hcz17_1 : w16.cell? ⟨gb226, 1, none⟩ = some (.int .i64 a0_1) := (kI BK226.out 1).trans rfl; have hcz17_2 : w16.cell? ⟨gb226, 2, none⟩ = some (.int .i64 a0_2) := (kI BK226.out 2).trans rfl; have hcz17_3 : w16.cell? ⟨gb226, 3, none⟩ = some (.int .i64 a0_3) := (kI BK226.out 3).trans rfl; have hfz17_0 := kG BK226.out 0; have hfz17_1 := kG BK226.out 1; have hfz17_2 := kG BK226.out 2; have hfz17_3 := kG BK226.out 3) | ((with_reducible refine gate_dst (N := 3) rfl ?_); refine kO ?hg (N := 3) ?hd (cs := #[.int .i64 0, .int .i64 0, .int .i64 0, .int .i64 0]) (t := 32) ?hr ?_; (case hd => rfl); (case hg => rfl); (case hr => first | (go_simp; done) | (go_simp; rfl)); intro gb231 hg w18 hbox hb; have n0_ := Aside0.mk (kM (g := gb226) (o := .cells #[.int .i64 a0_0, .int .i64 a0_1, .int .i64 a0_2, .int .i64 a0_3] 32 (0, 0)) (by (with_reducible repeat (first | refine kE ?_ _ | refine kH ?_ | refine kF ?_ _)); exact BK226.out) hb); have n1_ := Aside0.mk (kJ (by repeat (first | (with_reducible first | exact HB.out | apply kB | apply kA | apply kC | refine kD ?_ GE226.out) | exact HB.out)) hb); have n2_ := Aside0.mk (hbox); have n3_ := Aside0.mk ((by rw [hg]; exact (kL (by repeat (first | (with_reducible first | exact HB.out | apply kB | apply kA | apply kC | refine kD ?_ GE226.out) | exact HB.out))) : w.heap.size ≤ gb231)); have n4_ := Aside0.mk ((by rw [hg]; exact (kL (by repeat (first | (with_reducible first | exact HB.out | apply kB | apply kA | apply kC | refine kD ?_ GE226.out) | exact HB.out))) : w.heap.size ≤ gb231)); have n5_ := Aside0.mk ((by rw [hg]; exact Nat.ne_of_lt (blk_lt (g := gb226) (o := .cells #[.int .i64 a0_0, .int .i64 a0_1, .int .i64 a0_2, .int .i64 a0_3] 32 (0, 0)) (by (with_reducible repeat (first | refine kE ?_ _ | refine kH ?_ | refine kF ?_ _)); exact BK226.out)) : gb226 ≠ gb231)); have n6_ := Aside0.mk ((by rw [hg]; exact Nat.ne_of_gt (blk_lt (g := gb226) (o := .cells #[.int .i64 a0_0, .int .i64 a0_1, .int .i64 a0_2, .int .i64 a0_3] 32 (0, 0)) (by (with_reducible repeat (first | refine kE ?_ _ | refine kH ?_ | refine kF ?_ _)); exact BK226.out)) : gb231 ≠ gb226)); clear BK226; clear HB; have BK226 := n0_; have HB := n1_; have BK231 := n2_; have GW231 := n3_; have GE231 := n4_; have NB226_231 := n5_; have NB231_226 := n6_; clear n0_ n1_ n2_ n3_ n4_ n5_ n6_; clear hb hbox hg; have hnb19 := NB231_226.out; have hnc19 := NB226_231.out; have hcz20_0 : w18.cell? ⟨gb231, 0, none⟩ = some (.int .i64 0) := (kI BK231.out 0).trans rfl; have hcz20_1 : w18.cell? ⟨gb231, 1, none⟩ = some (.int .i64 0) := (kI BK231.out 1).trans rfl; have hcz20_2 : w18.cell? ⟨gb231, 2, none⟩ = some (.int .i64 0) := (kI BK231.out 2).trans rfl; have hcz20_3 : w18.cell? ⟨gb231, 3, none⟩ = some (.int .i64 0) := (kI BK231.out 3).trans rfl; have hfz20_0 := kG BK231.out 0; have hfz20_1 := kG BK231.out 1; have hfz20_2 := kG BK231.out 2; have hfz20_3 := kG BK231.out 3; have hcz21_0 : w18.cell? ⟨gb226, 0, none⟩ = some (.int .i64 a0_0) := (kI BK226.out 0).trans rfl; have hcz21_1 : w18.cell? ⟨gb226, 1, none⟩ = some (.int .i64 a0_1) := (kI BK226.out 1).trans rfl; have hcz21_2 : w18.cell? ⟨gb226, 2, none⟩ = some (.int .i64 a0_2) := (kI BK226.out 2).trans rfl; have hcz21_3 : w18.cell? ⟨gb226, 3, none⟩ = some (.int .i64 a0_3) := (kI BK226.out 3).trans rfl; have hfz21_0 := kG BK226.out 0; have hfz21_1 := kG BK226.out 1; have hfz21_2 := kG BK226.out 2; have hfz21_3 := kG BK226.out 3))
        go_ret
        exact ⟨by first | rfl | (simp [errW_none, errW_some] <;> rfl) | (simp [*, errW_none, errW_some] <;> rfl), by repeat (first | (with_reducible first | exact HB.out | apply kB | apply kA | apply kC | refine kD ?_ GE226.out | refine kD ?_ GE231.out) | exact HB.out)⟩
      · rw [if_neg c15] at H
        have c15b0 : decide ((-1) ≤ a0_0) = false := decide_eq_false c15
        clear c15
        obtain rfl := Option.some.inj H
        go_enter Tryz.func43, Tryz.ntmps43
        go_wp2_with (first | ((with_reducible refine gate_dst (N := 1) rfl ?_); refine kO ?hg (N := 1) ?hd (cs := #[.int .i64 a0_0, .int .i64 a0_1, .int .i64 a0_2, .int .i64 a0_3]) (t := 32) ?hr ?_; (case hd => rfl); (case hg => rfl); (case hr => first | (go_simp; done) | (go_simp; rfl)); intro gb226 hg w22 hbox hb; have n0_ := Aside0.mk (kJ (by repeat (first | (with_reducible first | exact HB.out | apply kB | apply kA | apply kC) | exact HB.out)) hb); have n1_ := Aside0.mk (hbox); have n2_ := Aside0.mk ((by rw [hg]; exact (kL (by repeat (first | (with_reducible first | exact HB.out | apply kB | apply kA | apply kC) | exact HB.out))) : w.heap.size ≤ gb226)); have n3_ := Aside0.mk ((by rw [hg]; exact (kL (by repeat (first | (with_reducible first | exact HB.out | apply kB | apply kA | apply kC) | exact HB.out))) : w.heap.size ≤ gb226)); clear HB; have HB := n0_; have BK226 := n1_; have GW226 := n2_; have GE226 := n3_; clear n0_ n1_ n2_ n3_; clear hb hbox hg; have hcz23_0 : w22.cell? ⟨gb226, 0, none⟩ = some (.int .i64 a0_0) := (kI BK226.out 0).trans rfl; have hcz23_1 : w22.cell? ⟨gb226, 1, none⟩ = some (.int .i64 a0_1) := (kI BK226.out 1).trans rfl; have hcz23_2 : w22.cell? ⟨gb226, 2, none⟩ = some (.int .i64 a0_2) := (kI BK226.out 2).trans rfl; have hcz23_3 : w22.cell? ⟨gb226, 3, none⟩ = some (.int .i64 a0_3) := (kI BK226.out 3).trans rfl; have hfz23_0 := kG BK226.out 0; have hfz23_1 := kG BK226.out 1; have hfz23_2 := kG BK226.out 2; have hfz23_3 := kG BK226.out 3) | ((with_reducible refine gate_dst (N := 3) rfl ?_); refine kO ?hg (N := 3) ?hd (cs := #[.int .i64 0, .int .i64 0, .int .i64 0, .int .i64 0]) (t := 32) ?hr ?_; (case hd => rfl); (case hg => rfl); (case hr => first | (go_simp; done) | (go_simp; rfl)); intro gb231 hg w24 hbox hb; have n0_ := Aside0.mk (kM (g := gb226) (o := .cells #[.int .i64 a0_0, .int .i64 a0_1, .int .i64 a0_2, .int .i64 a0_3] 32 (0, 0)) (by (with_reducible repeat (first | refine kE ?_ _ | refine kH ?_ | refine kF ?_ _)); exact BK226.out) hb); have n1_ := Aside0.mk (kJ (by repeat (first | (with_reducible first | exact HB.out | apply kB | apply kA | apply kC | refine kD ?_ GE226.out) | exact HB.out)) hb); have n2_ := Aside0.mk (hbox); have n3_ := Aside0.mk ((by rw [hg]; exact (kL (by repeat (first | (with_reducible first | exact HB.out | apply kB | apply kA | apply kC | refine kD ?_ GE226.out) | exact HB.out))) : w.heap.size ≤ gb231)); have n4_ := Aside0.mk ((by rw [hg]; exact (kL (by repeat (first | (with_reducible first | exact HB.out | apply kB | apply kA | apply kC | refine kD ?_ GE226.out) | exact HB.out))) : w.heap.size ≤ gb231)); have n5_ := Aside0.mk ((by rw [hg]; exact Nat.ne_of_lt (blk_lt (g := gb226) (o := .cells #[.int .i64 a0_0, .int .i64 a0_1, .int .i64 a0_2, .int .i64 a0_3] 32 (0, 0)) (by (with_reducible repeat (first | refine kE ?_ _ | refine kH ?_ | refine kF ?_ _)); exact BK226.out)) : gb226 ≠ gb231)); have n6_ := Aside0.mk ((by rw [hg]; exact Nat.ne_of_gt (blk_lt (g := gb226) (o := .cells #[.int .i64 a0_0, .int .i64 a0_1, .int .i64 a0_2, .int .i64 a0_3] 32 (0, 0)) (by (with_reducible repeat (first | refine kE ?_ _ | refine kH ?_ | refine kF ?_ _)); exact BK226.out)) : gb231 ≠ gb226)); clear BK226; clear HB; have BK226 := n0_; have HB := n1_; have BK231 := n2_; have GW231 := n3_; have GE231 := n4_; have NB226_231 := n5_; have NB231_226 := n6_; clear n0_ n1_ n2_ n3_ n4_ n5_ n6_; clear hb hbox hg; have hnb25 := NB231_226.out; have hnc25 := NB226_231.out; have hcz26_0 : w24.cell? ⟨gb231, 0, none⟩ = some (.int .i64 0) := (kI BK231.out 0).trans rfl; have hcz26_1 : w24.cell? ⟨gb231, 1, none⟩ = some (.int .i64 0) := (kI BK231.out 1).trans rfl; have hcz26_2 : w24.cell? ⟨gb231, 2, none⟩ = some (.int .i64 0) := (kI BK231.out 2).trans rfl; have hcz26_3 : w24.cell? ⟨gb231, 3, none⟩ = some (.int .i64 0) := (kI BK231.out 3).trans rfl; have hfz26_0 := kG BK231.out 0; have hfz26_1 := kG BK231.out 1; have hfz26_2 := kG BK231.out 2; have hfz26_3 := kG BK231.out 3; have hcz27_0 : w24.cell? ⟨gb226, 0, none⟩ = some (.int .i64 a0_0) := (kI BK226.out 0).trans rfl; have hcz27_1 : w24.cell? ⟨gb226, 1, none⟩ = some (.int .i64 a0_1) := (kI BK226.out 1).trans rfl; have hcz27_2 : w24.cell? ⟨gb226, 2, none⟩ = some (.int .i64 a0_2) := (kI BK226.out 2).trans rfl; have hcz27_3 : w24.cell? ⟨gb226, 3, none⟩ = some (.int .i64 a0_3) := (kI BK226.out 3).trans rfl; have hfz27_0 := kG BK226.out 0; have hfz27_1 := kG BK226.out 1; have hfz27_2 := kG BK226.out 2; have hfz27_3 := kG BK226.out 3))
        go_ret
        exact ⟨by first | rfl | (simp [errW_none, errW_some] <;> rfl) | (simp [*, errW_none, errW_some] <;> rfl), by repeat (first | (with_reducible first | exact HB.out | apply kB | apply kA | apply kC | refine kD ?_ GE226.out | refine kD ?_ GE231.out) | exact HB.out)⟩
    · rw [if_neg c14] at H
      have c14b0 : (a0_1 == 0 && (a0_2 == 0 && (a0_3 == 0))) = false := by simpa using c14
      (try (have c14b1 : decide (a0_1 = 0 && (a0_2 == 0 && (a0_3 == 0))) = false := by simpa using c14))
      (try (have c14b2 : (a0_1 == 0 && (a0_2 == 0 && (a0_3 == 0))) = false := by simpa using c14))
      (try (have c14b3 : ¬ (a0_1 = 0 && (a0_2 == 0 && (a0_3 == 0))) := by simpa using c14))
      clear c14
      obtain rfl := Option.some.inj H
      go_enter Tryz.func43, Tryz.ntmps43
      go_wp2_with (first | ((with_reducible refine gate_dst (N := 1) rfl ?_); refine kO ?hg (N := 1) ?hd (cs := #[.int .i64 a0_0, .int .i64 a0_1, .int .i64 a0_2, .int .i64 a0_3]) (t := 32) ?hr ?_; (case hd => rfl); (case hg => rfl); (case hr => first | (go_simp; done) | (go_simp; rfl)); intro gb226 hg w28 hbox hb; have n0_ := Aside0.mk (kJ (by repeat (first | (with_reducible first | exact HB.out | apply kB | apply kA | apply kC) | exact HB.out)) hb); have n1_ := Aside0.mk (hbox); have n2_ := Aside0.mk ((by rw [hg]; exact (kL (by repeat (first | (with_reducible first | exact HB.out | apply kB | apply kA | apply kC) | exact HB.out))) : w.heap.size ≤ gb226)); have n3_ := Aside0.mk ((by rw [hg]; exact (kL (by repeat (first | (with_reducible first | exact HB.out | apply kB | apply kA | apply kC) | exact HB.out))) : w.heap.size ≤ gb226)); clear HB; have HB := n0_; have BK226 := n1_; have GW226 := n2_; have GE226 := n3_; clear n0_ n1_ n2_ n3_; clear hb hbox hg; have hcz29_0 : w28.cell? ⟨gb226, 0, none⟩ = some (.int .i64 a0_0) := (kI BK226.out 0).trans rfl; have hcz29_1 : w28.cell? ⟨gb226, 1, none⟩ = some (.int .i64 a0_1) := (kI BK226.out 1).trans rfl; have hcz29_2 : w28.cell? ⟨gb226, 2, none⟩ = some (.int .i64 a0_2) := (kI BK226.out 2).trans rfl; have hcz29_3 : w28.cell? ⟨gb226, 3, none⟩ = some (.int .i64 a0_3) := (kI BK226.out 3).trans rfl; have hfz29_0 := kG BK226.out 0; have hfz29_1 := kG BK226.out 1; have hfz29_2 := kG BK226.out 2; have hfz29_3 := kG BK226.out 3) | ((with_reducible refine gate_dst (N := 3) rfl ?_); refine kO ?hg (N := 3) ?hd (cs := #[.int .i64 0, .int .i64 0, .int .i64 0, .int .i64 0]) (t := 32) ?hr ?_; (case hd => rfl); (case hg => rfl); (case hr => first | (go_simp; done) | (go_simp; rfl)); intro gb231 hg w30 hbox hb; have n0_ := Aside0.mk (kM (g := gb226) (o := .cells #[.int .i64 a0_0, .int .i64 a0_1, .int .i64 a0_2, .int .i64 a0_3] 32 (0, 0)) (by (with_reducible repeat (first | refine kE ?_ _ | refine kH ?_ | refine kF ?_ _)); exact BK226.out) hb); have n1_ := Aside0.mk (kJ (by repeat (first | (with_reducible first | exact HB.out | apply kB | apply kA | apply kC | refine kD ?_ GE226.out) | exact HB.out)) hb); have n2_ := Aside0.mk (hbox); have n3_ := Aside0.mk ((by rw [hg]; exact (kL (by repeat (first | (with_reducible first | exact HB.out | apply kB | apply kA | apply kC | refine kD ?_ GE226.out) | exact HB.out))) : w.heap.size ≤ gb231)); have n4_ := Aside0.mk ((by rw [hg]; exact (kL (by repeat (first | (with_reducible first | exact HB.out | apply kB | apply kA | apply kC | refine kD ?_ GE226.out) | exact HB.out))) : w.heap.size ≤ gb231)); have n5_ := Aside0.mk ((by rw [hg]; exact Nat.ne_of_lt (blk_lt (g := gb226) (o := .cells #[.int .i64 a0_0, .int .i64 a0_1, .int .i64 a0_2, .int .i64 a0_3] 32 (0, 0)) (by (with_reducible repeat (first | refine kE ?_ _ | refine kH ?_ | refine kF ?_ _)); exact BK226.out)) : gb226 ≠ gb231)); have n6_ := Aside0.mk ((by rw [hg]; exact Nat.ne_of_gt (blk_lt (g := gb226) (o := .cells #[.int .i64 a0_0, .int .i64 a0_1, .int .i64 a0_2, .int .i64 a0_3] 32 (0, 0)) (by (with_reducible repeat (first | refine kE ?_ _ | refine kH ?_ | refine kF ?_ _)); exact BK226.out)) : gb231 ≠ gb226)); clear BK226; clear HB; have BK226 := n0_; have HB := n1_; have BK231 := n2_; have GW231 := n3_; have GE231 := n4_; have NB226_231 := n5_; have NB231_226 := n6_; clear n0_ n1_ n2_ n3_ n4_ n5_ n6_; clear hb hbox hg; have hnb31 := NB231_226.out; have hnc31 := NB226_231.out; have hcz32_0 : w30.cell? ⟨gb231, 0, none⟩ = some (.int .i64 0) := (kI BK231.out 0).trans rfl; have hcz32_1 : w30.cell? ⟨gb231, 1, none⟩ = some (.int .i64 0) := (kI BK231.out 1).trans rfl; have hcz32_2 : w30.cell? ⟨gb231, 2, none⟩ = some (.int .i64 0) := (kI BK231.out 2).trans rfl; have hcz32_3 : w30.cell? ⟨gb231, 3, none⟩ = some (.int .i64 0) := (kI BK231.out 3).trans rfl; have hfz32_0 := kG BK231.out 0; have hfz32_1 := kG BK231.out 1; have hfz32_2 := kG BK231.out 2; have hfz32_3 := kG BK231.out 3; have hcz33_0 : w30.cell? ⟨gb226, 0, none⟩ = some (.int .i64 a0_0) := (kI BK226.out 0).trans rfl; have hcz33_1 : w30.cell? ⟨gb226, 1, none⟩ = some (.int .i64 a0_1) := (kI BK226.out 1).trans rfl; have hcz33_2 : w30.cell? ⟨gb226, 2, none⟩ = some (.int .i64 a0_2) := (kI BK226.out 2).trans rfl; have hcz33_3 : w30.cell? ⟨gb226, 3, none⟩ = some (.int .i64 a0_3) := (kI BK226.out 3).trans rfl; have hfz33_0 := kG BK226.out 0; have hfz33_1 := kG BK226.out 1; have hfz33_2 := kG BK226.out 2; have hfz33_3 := kG BK226.out 3))
      go_ret
      exact ⟨by first | rfl | (simp [errW_none, errW_some] <;> rfl) | (simp [*, errW_none, errW_some] <;> rfl), by repeat (first | (with_reducible first | exact HB.out | apply kB | apply kA | apply kC | refine kD ?_ GE226.out | refine kD ?_ GE231.out) | exact HB.out)⟩
end Go.Proofs.YthkmckmfgglafaaGreat.P
namespace Go.Proofs.YthkmckmfgglafaaGreat.P
open Go.RowKit Go.Proofs.YthkmckmfgglafaaGreatW.PrintWords Go.Proofs.YthkmckmfgglafaaGreatW.PrintLast Go.Proofs.YthkmckmfgglafaaGreatW.PrintMore
attribute [local go_sem] max2_int min2_int max_two min_two max_three min_three max_four min_four   -- for this text's walks alone
set_option linter.unusedVariables false
set_option linter.unusedSimpArgs false
mutual
def ops_exact.j1 : Nat → Int → Int → Int → Option (Int × Int)
  | 0, _, _, _ => none
  | k + 1, x0, x1, x8 => (num_Mul.f k x0 x1).bind fun bt232 => (if bt232.2 = 0 then ((num_Add.f bt232.1 x8).bind fun bt234 => (some (bt234.1, bt234.2))) else (some (0, bt232.2)))
def ops_exact.j0 : Nat → Int → Int → Int → Bool → Option (Int × Int)
  | 0, _, _, _, _ => none
  | k + 1, x0, x1, x8, x19 => if x19 = true then (ops_exact.j1 k (wrap64 (x0 + 1)) x1 (wrap64 (x8 - x1))) else (if x0 > 0 then (if x8 < 0 then (ops_exact.j1 k (wrap64 (x0 - 1)) x1 (wrap64 (x8 + x1))) else (ops_exact.j1 k x0 x1 x8)) else (ops_exact.j1 k x0 x1 x8))
end
def ops_exact.f (k : Nat) (a0 : Int) (a1 : Int) (a2 : Int) : Option (Int × Int) := if a1 = 0 then (none) else (if (wrap64 (a0 + (wrap64 (Int.tdiv a2 a1)))) < 0 then (ops_exact.j0 k (wrap64 (a0 + (wrap64 (Int.tdiv a2 a1)))) a1 (Int.tmod a2 a1) (decide ((Int.tmod a2 a1) > 0))) else (ops_exact.j0 k (wrap64 (a0 + (wrap64 (Int.tdiv a2 a1)))) a1 (Int.tmod a2 a1) false))
set_option maxHeartbeats 8000000 in
set_option maxRecDepth 100000 in
theorem ops_exact.calls (k : Nat) (a0 : Int) (a1 : Int) (a2 : Int) (r1 : Int) (r2 : Int) (w : World) (h : ops_exact.f k a0 a1 a2 = some (r1, r2)) :
    Calls Tryz.prog 45 #[.int .i64 a0, .int .i64 a1, .int .i64 a2] w fun e w' => e = .returned (.tuple #[.int .i64 r1, .int .i64 r2]) ∧ Below w.heap.size w w' := by
  have HB := Aside0.mk (Below.refl w.heap.size w)
  have H : (if a1 = 0 then (none) else (if (wrap64 (a0 + (wrap64 (Int.tdiv a2 a1)))) < 0 then (ops_exact.j0 k (wrap64 (a0 + (wrap64 (Int.tdiv a2 a1)))) a1 (Int.tmod a2 a1) (decide ((Int.tmod a2 a1) > 0))) else (ops_exact.j0 k (wrap64 (a0 + (wrap64 (Int.tdiv a2 a1)))) a1 (Int.tmod a2 a1) false))) = some (r1, r2) := h
  clear h
  by_cases c4 : a1 = 0
  · rw [if_pos c4] at H
    exact absurd H (by simp)
  · rw [if_neg c4] at H
    have c4b0 : (a1 == 0) = false := beq_eq_false_iff_ne.mpr c4
    have c4b1 : (a1 != 0) = true := bne_iff_ne.mpr c4
    have HC5 := Aside0.mk H
    clear H
    go_enter Tryz.func45, Tryz.ntmps45
    go_upto_block 0 with (fail)
    repeat (go_quiet (fail); go_upto_block 0 with (fail))
    go_cut [0, 8] (fun v0 v8 wc => ∃ (kq : Nat) (x0_4 : Int) (x8_4 : Int), v0 = .int .i64 x0_4 ∧ v8 = .int .i64 x8_4 ∧ Aside0 (ops_exact.j1 kq x0_4 a1 x8_4 = some (r1, r2)) ∧ Aside0 (kq ≤ k) ∧ Aside0 (Below w.heap.size w wc))
    case first =>
      have H := HC5.out
      clear HC5
      have HC6 := Aside0.mk H
      clear H
      go_upto_region 2 with (fail)
      repeat (go_quiet (fail); go_upto_region 2 with (fail))
      go_cut [19] (fun v19 wc => ∃ (kq : Nat) (x19_5 : Bool), v19 = .bool x19_5 ∧ Aside0 (ops_exact.j0 kq (wrap64 (a0 + (wrap64 (Int.tdiv a2 a1)))) a1 (Int.tmod a2 a1) x19_5 = some (r1, r2)) ∧ Aside0 (kq ≤ k) ∧ Aside0 (Below w.heap.size w wc))
      case first =>
        have H := HC6.out
        clear HC6
        by_cases c7 : (wrap64 (a0 + (wrap64 (Int.tdiv a2 a1)))) < 0
        · rw [if_pos c7] at H
          have c7b0 : decide ((wrap64 (a0 + (wrap64 (Int.tdiv a2 a1)))) < 0) = true := decide_eq_true c7
          clear c7
          (first | rw [c7b0] | (simp only [i64_w, i32_w]; rw [c7b0]) | skip)
          have H' := Aside0.mk H
          clear H
          go_wp2
          repeat (go_quiet (fail); try go_wp2)
          go_meet
          case rel => exact ⟨_, (decide ((Int.tmod a2 a1) > 0)), (by first | rfl | (simp; done) | (simp [*]; done)), H', ⟨by first | omega | exact Nat.le_refl _⟩, ⟨by repeat (first | (with_reducible first | exact HB.out | apply kB | apply kA | apply kC) | exact HB.out)⟩⟩
        · rw [if_neg c7] at H
          have c7b0 : decide ((wrap64 (a0 + (wrap64 (Int.tdiv a2 a1)))) < 0) = false := decide_eq_false c7
          clear c7
          (first | rw [c7b0] | (simp only [i64_w, i32_w]; rw [c7b0]) | skip)
          have H' := Aside0.mk H
          clear H
          go_wp2
          repeat (go_quiet (fail); try go_wp2)
          go_meet
          case rel => exact ⟨_, (false), (by first | rfl | (simp; done) | (simp [*]; done)), H', ⟨by first | omega | exact Nat.le_refl _⟩, ⟨by repeat (first | (with_reducible first | exact HB.out | apply kB | apply kA | apply kC) | exact HB.out)⟩⟩
      case rest =>
        clear HC6
        try clear p2
        try clear c4
        try clear c4b0
        try clear c4b1
        try clear p6
        try clear c7
        try clear c7b0
        obtain ⟨kq, x19_5, rfl, HA, HJ5, HB⟩ := hcut
        cases kq with
        | zero => exact absurd HA.out (by simp [ops_exact.j0])
        | succ kj5 =>
          have H := HA.out
          clear HA
          simp only [ops_exact.j0] at H
          by_cases c8 : x19_5 = true
          · subst c8
            have H1 : (ops_exact.j1 kj5 (wrap64 ((wrap64 (a0 + (wrap64 (Int.tdiv a2 a1)))) + 1)) a1 (wrap64 ((Int.tmod a2 a1) - a1))) = some (r1, r2) := by rw [if_pos rfl] at H; exact H
            clear H
            have H := H1
            clear H1
            have H' := Aside0.mk H
            clear H
            go_wp2
            repeat (go_quiet (fail); try go_wp2)
            go_meet
            case rel => exact ⟨_, (wrap64 ((wrap64 (a0 + (wrap64 (Int.tdiv a2 a1)))) + 1)), (wrap64 ((Int.tmod a2 a1) - a1)), (by first | rfl | (simp; done) | (simp [*]; done)), (by first | rfl | (simp; done) | (simp [*]; done)), H', ⟨by have := HJ5.out; first | omega | exact Nat.le_refl _⟩, ⟨by repeat (first | (with_reducible first | exact HB.out | apply kB | apply kA | apply kC) | exact HB.out)⟩⟩
          · replace c8 := Bool.eq_false_iff.mpr c8
            subst c8
            have H1 : (if (wrap64 (a0 + (wrap64 (Int.tdiv a2 a1)))) > 0 then (if (Int.tmod a2 a1) < 0 then (ops_exact.j1 kj5 (wrap64 ((wrap64 (a0 + (wrap64 (Int.tdiv a2 a1)))) - 1)) a1 (wrap64 ((Int.tmod a2 a1) + a1))) else (ops_exact.j1 kj5 (wrap64 (a0 + (wrap64 (Int.tdiv a2 a1)))) a1 (Int.tmod a2 a1))) else (ops_exact.j1 kj5 (wrap64 (a0 + (wrap64 (Int.tdiv a2 a1)))) a1 (Int.tmod a2 a1))) = some (r1, r2) := by rw [if_neg (show ¬ (false = true) by decide)] at H; exact H
            clear H
            have H := H1
            clear H1
            by_cases c9 : (wrap64 (a0 + (wrap64 (Int.tdiv a2 a1)))) > 0
            · rw [if_pos c9] at H
              have c9b0 : decide (0 < (wrap64 (a0 + (wrap64 (Int.tdiv a2 a1))))) = true := decide_eq_true c9
              clear c9
              by_cases c10 : (Int.tmod a2 a1) < 0
              · rw [if_pos c10] at H
                have c10b0 : decide ((Int.tmod a2 a1) < 0) = true := decide_eq_true c10
                clear c10
                have H' := Aside0.mk H
                clear H
                go_wp2
                repeat (go_quiet (fail); try go_wp2)
                go_meet
                case rel => exact ⟨_, (wrap64 ((wrap64 (a0 + (wrap64 (Int.tdiv a2 a1)))) - 1)), (wrap64 ((Int.tmod a2 a1) + a1)), (by first | rfl | (simp; done) | (simp [*]; done)), (by first | rfl | (simp; done) | (simp [*]; done)), H', ⟨by have := HJ5.out; first | omega | exact Nat.le_refl _⟩, ⟨by repeat (first | (with_reducible first | exact HB.out | apply kB | apply kA | apply kC) | exact HB.out)⟩⟩
              · rw [if_neg c10] at H
                have c10b0 : decide ((Int.tmod a2 a1) < 0) = false := decide_eq_false c10
                clear c10
                have H' := Aside0.mk H
                clear H
                go_wp2
                repeat (go_quiet (fail); try go_wp2)
                go_meet
                case rel => exact ⟨_, ((wrap64 (a0 + (wrap64 (Int.tdiv a2 a1))))), ((Int.tmod a2 a1)), (by first | rfl | (simp; done) | (simp [*]; done)), (by first | rfl | (simp; done) | (simp [*]; done)), H', ⟨by have := HJ5.out; first | omega | exact Nat.le_refl _⟩, ⟨by repeat (first | (with_reducible first | exact HB.out | apply kB | apply kA | apply kC) | exact HB.out)⟩⟩
            · rw [if_neg c9] at H
              have c9b0 : decide (0 < (wrap64 (a0 + (wrap64 (Int.tdiv a2 a1))))) = false := decide_eq_false c9
              clear c9
              have H' := Aside0.mk H
              clear H
              go_wp2
              repeat (go_quiet (fail); try go_wp2)
              go_meet
              case rel => exact ⟨_, ((wrap64 (a0 + (wrap64 (Int.tdiv a2 a1))))), ((Int.tmod a2 a1)), (by first | rfl | (simp; done) | (simp [*]; done)), (by first | rfl | (simp; done) | (simp [*]; done)), H', ⟨by have := HJ5.out; first | omega | exact Nat.le_refl _⟩, ⟨by repeat (first | (with_reducible first | exact HB.out | apply kB | apply kA | apply kC) | exact HB.out)⟩⟩
    case rest =>
      clear HC5
      try clear c1
      try clear p2
      try clear c4
      try clear c4b0
      try clear c4b1
      try clear p6
      try clear c7
      try clear c7b0
      try clear c8
      try clear c9
      try clear c9b0
      try clear c10
      try clear c10b0
      try clear p2
      try clear p6
      obtain ⟨kq, x0_4, x8_4, rfl, rfl, HA, HJ4, HB⟩ := hcut
      cases kq with
      | zero => exact absurd HA.out (by simp [ops_exact.j1])
      | succ kj4 =>
        have H := HA.out
        clear HA
        simp only [ops_exact.j1] at H
        replace H := Option.bind_eq_some_iff.mp H
        obtain ⟨⟨t232, t233⟩, A110, H⟩ := H
        replace H : (if t233 = 0 then ((num_Add.f t232 x8_4).bind fun bt234 => (some (bt234.1, bt234.2))) else (some (0, t233))) = some (r1, r2) := H
        have A11 := Aside0.mk A110
        clear A110
        by_cases c12 : t233 = 0
        · rw [if_pos c12] at H
          have c12b0 : (t233 == 0) = true := beq_iff_eq.mpr c12
          have c12b1 : (t233 != 0) = false := bne_eq_false_iff_eq.mpr c12
          clear c12
          replace H := Option.bind_eq_some_iff.mp H
          obtain ⟨⟨t234, t235⟩, A130, H⟩ := H
          replace H : (some (t234, t235)) = some (r1, r2) := H
          have A13 := Aside0.mk A130
          clear A130
          simp only [Option.some.injEq, Prod.mk.injEq] at H
          obtain ⟨rfl, rfl⟩ := H
          go_wp2_with (first | (go_at_call 97; (with_reducible refine (num_Mul.calls kj4 x0_4 a1 t232 t233 _ A11.out).mono ?_); rintro e w14 ⟨rfl, hb⟩; have n0_ := Aside0.mk (kJ (by repeat (first | (with_reducible first | exact HB.out | apply kB | apply kA | apply kC) | exact HB.out)) hb); clear HB; have HB := n0_; clear n0_; (try clear hb); (try clear hb2); (try clear hk); (try clear hi)) | (go_at_call 56; (with_reducible refine (num_Add.calls t232 x8_4 t234 t235 _ A13.out).mono ?_); rintro e w' ⟨rfl, ⟨nd, rfl⟩⟩; (try first | exact ⟨rfl, _, World.drewN_drewN _ _ _⟩ | exact ⟨rfl, _, Eq.trans (World.drewN_drewN _ _ _) (congrArg (World.drewN _) (Nat.add_assoc _ _ _))⟩)))
          repeat (go_quiet (first | (go_at_call 97; (with_reducible refine (num_Mul.calls kj4 x0_4 a1 t232 t233 _ A11.out).mono ?_); rintro e w14 ⟨rfl, hb⟩; have n0_ := Aside0.mk (kJ (by repeat (first | (with_reducible first | exact HB.out | apply kB | apply kA | apply kC) | exact HB.out)) hb); clear HB; have HB := n0_; clear n0_; (try clear hb); (try clear hb2); (try clear hk); (try clear hi)) | (go_at_call 56; (with_reducible refine (num_Add.calls t232 x8_4 t234 t235 _ A13.out).mono ?_); rintro e w' ⟨rfl, ⟨nd, rfl⟩⟩; (try first | exact ⟨rfl, _, World.drewN_drewN _ _ _⟩ | exact ⟨rfl, _, Eq.trans (World.drewN_drewN _ _ _) (congrArg (World.drewN _) (Nat.add_assoc _ _ _))⟩))); try go_wp2_with (first | (go_at_call 97; (with_reducible refine (num_Mul.calls kj4 x0_4 a1 t232 t233 _ A11.out).mono ?_); rintro e w14 ⟨rfl, hb⟩; have n0_ := Aside0.mk (kJ (by repeat (first | (with_reducible first | exact HB.out | apply kB | apply kA | apply kC) | exact HB.out)) hb); clear HB; have HB := n0_; clear n0_; (try clear hb); (try clear hb2); (try clear hk); (try clear hi)) | (go_at_call 56; (with_reducible refine (num_Add.calls t232 x8_4 t234 t235 _ A13.out).mono ?_); rintro e w' ⟨rfl, ⟨nd, rfl⟩⟩; (try first | exact ⟨rfl, _, World.drewN_drewN _ _ _⟩ | exact ⟨rfl, _, Eq.trans (World.drewN_drewN _ _ _) (congrArg (World.drewN _) (Nat.add_assoc _ _ _))⟩))))
          go_ret2
          exact ⟨by first | rfl | (simp [errW_none, errW_some] <;> rfl) | (simp [*, errW_none, errW_some] <;> rfl), by repeat (first | (with_reducible first | exact HB.out | apply kB | apply kA | apply kC) | exact HB.out)⟩
        · rw [if_neg c12] at H
          have c12b0 : (t233 == 0) = false := beq_eq_false_iff_ne.mpr c12
          have c12b1 : (t233 != 0) = true := bne_iff_ne.mpr c12
          simp only [Option.some.injEq, Prod.mk.injEq] at H
          obtain ⟨rfl, rfl⟩ := H
          go_wp2_with (first | (go_at_call 97; (with_reducible refine (num_Mul.calls kj4 x0_4 a1 t232 t233 _ A11.out).mono ?_); rintro e w15 ⟨rfl, hb⟩; have n0_ := Aside0.mk (kJ (by repeat (first | (with_reducible first | exact HB.out | apply kB | apply kA | apply kC) | exact HB.out)) hb); clear HB; have HB := n0_; clear n0_; (try clear hb); (try clear hb2); (try clear hk); (try clear hi)))
          repeat (go_quiet (first | (go_at_call 97; (with_reducible refine (num_Mul.calls kj4 x0_4 a1 t232 t233 _ A11.out).mono ?_); rintro e w15 ⟨rfl, hb⟩; have n0_ := Aside0.mk (kJ (by repeat (first | (with_reducible first | exact HB.out | apply kB | apply kA | apply kC) | exact HB.out)) hb); clear HB; have HB := n0_; clear n0_; (try clear hb); (try clear hb2); (try clear hk); (try clear hi))); try go_wp2_with (first | (go_at_call 97; (with_reducible refine (num_Mul.calls kj4 x0_4 a1 t232 t233 _ A11.out).mono ?_); rintro e w15 ⟨rfl, hb⟩; have n0_ := Aside0.mk (kJ (by repeat (first | (with_reducible first | exact HB.out | apply kB | apply kA | apply kC) | exact HB.out)) hb); clear HB; have HB := n0_; clear n0_; (try clear hb); (try clear hb2); (try clear hk); (try clear hi))))
          go_ret2
          exact ⟨by first | rfl | (simp [errW_none, errW_some] <;> rfl) | (simp [*, errW_none, errW_some] <;> rfl), by repeat (first | (with_reducible first | exact HB.out | apply kB | apply kA | apply kC) | exact HB.out)⟩
end Go.Proofs.YthkmckmfgglafaaGreat.P
