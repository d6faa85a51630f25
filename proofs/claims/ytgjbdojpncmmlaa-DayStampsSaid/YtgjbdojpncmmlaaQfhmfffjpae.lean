-- Written by a program of the session (a print of the seat's translation, functions given by hand among it). Lean checks it.
import Derived.Test.YtgjbdojpncmmlaaQbjoegdnofm
import Derived.Test.YtgjbdojpncmmlaaQnjbjiibdlc
import Derived.Test.YtgjbdojpncmmlaaQichagbehpd
import Derived.Test.YtgjbdojpncmmlaaQnfkpijegfp
import Derived.Test.YtgjbdojpncmmlaaQdojgepkmel
namespace Go.Proofs.Ytgjbdojpncmmlaa.P
open Go.RowKit Go.Proofs.YtgjbdojpncmmlaaW.PrintWords Go.Proofs.YtgjbdojpncmmlaaW.PrintLast Go.Proofs.YtgjbdojpncmmlaaW.PrintMore
open Go.Proofs.Ytgjbdojpncmmlaa.A
attribute [local go_sem] max2_int min2_int max_two min_two max_three min_three max_four min_four   -- for this text's walks alone
set_option linter.unusedVariables false
set_option linter.unusedSimpArgs false
def computusref01_Of.f (a0 : Int) : Option (Bool × List Int) := if a0 < 0 then (if 6 ≤ 35184372088832 then ((some (List.replicate 6 0 : List Int)).bind fun y379 => (if 0 < (y379.length : Int) then (if 1 < (y379.length : Int) then (some (true, ((y379.set (0 : Int).toNat (Go.bits .and .u64 (IntKind.u64.wrap (-(IntKind.u64.wrap (a0)))) 4294967295)).set (1 : Int).toNat ((IntKind.u64.wrap (-(IntKind.u64.wrap (a0)))) / 4294967296)))) else (none)) else (none))) else (none)) else (if 6 ≤ 35184372088832 then ((some (List.replicate 6 0 : List Int)).bind fun y384 => (if 0 < (y384.length : Int) then (if 1 < (y384.length : Int) then (some (false, ((y384.set (0 : Int).toNat (Go.bits .and .u64 (IntKind.u64.wrap (a0)) 4294967295)).set (1 : Int).toNat ((IntKind.u64.wrap (a0)) / 4294967296)))) else (none)) else (none))) else (none))
set_option maxHeartbeats 8000000 in
set_option maxRecDepth 100000 in
theorem computusref01_Of.calls (a0 : Int) (r1 : Bool) (r2 : List Int) (w : World) (h : computusref01_Of.f a0 = some (r1, r2)) :
    Calls Try.prog 71 #[.int .i64 a0] w fun e w' => ∃ v1_ : Value, e = .returned (.agg #[.bool r1, v1_]) ∧ Kd.R (Kd.int .u64) 75 w' w.heap.size (fun _ => True) v1_ r2 ∧ Below w.heap.size w w' := by
  have hu70 := Try.underlying70
  have HB := Aside0.mk (Below.refl w.heap.size w)
  have H : (if a0 < 0 then (if 6 ≤ 35184372088832 then ((some (List.replicate 6 0 : List Int)).bind fun y379 => (if 0 < (y379.length : Int) then (if 1 < (y379.length : Int) then (some (true, ((y379.set (0 : Int).toNat (Go.bits .and .u64 (IntKind.u64.wrap (-(IntKind.u64.wrap (a0)))) 4294967295)).set (1 : Int).toNat ((IntKind.u64.wrap (-(IntKind.u64.wrap (a0)))) / 4294967296)))) else (none)) else (none))) else (none)) else (if 6 ≤ 35184372088832 then ((some (List.replicate 6 0 : List Int)).bind fun y384 => (if 0 < (y384.length : Int) then (if 1 < (y384.length : Int) then (some (false, ((y384.set (0 : Int).toNat (Go.bits .and .u64 (IntKind.u64.wrap (a0)) 4294967295)).set (1 : Int).toNat ((IntKind.u64.wrap (a0)) / 4294967296)))) else (none)) else (none))) else (none))) = some (r1, r2) := h
  clear h
  by_cases c2 : a0 < 0
  · rw [if_pos c2] at H
    have c2b0 : decide (a0 < 0) = true := decide_eq_true c2
    clear c2
    by_cases c3 : 6 ≤ 35184372088832
    · rw [if_pos c3] at H
      have c3b0 := eq_true c3
      have c3b1 : decide (6 ≤ 35184372088832) = true := decide_eq_true c3
      clear c3
      obtain ⟨y379, hy379⟩ : ∃ y_ : List Int, y_ = (List.replicate 6 0) := ⟨_, rfl⟩
      replace H : (if 0 < (y379.length : Int) then (if 1 < (y379.length : Int) then (some (true, ((y379.set (0 : Int).toNat (Go.bits .and .u64 (IntKind.u64.wrap (-(IntKind.u64.wrap (a0)))) 4294967295)).set (1 : Int).toNat ((IntKind.u64.wrap (-(IntKind.u64.wrap (a0)))) / 4294967296)))) else (none)) else (none)) = some (r1, r2) := by first | (rw [hy379]; with_reducible exact H) | (have H2_ := (Option.bind_some _ _).symm.trans H; rw [hy379]; with_reducible exact H2_) | (have H2_ := (Option.bind_some _ _).symm.trans H; with_reducible exact H2_) | with_reducible exact H | (rw [hy379]; exact H) | exact H
      have Ny379 := Aside0.mk hy379
      clear hy379
      by_cases c4 : 0 < (y379.length : Int)
      · rw [if_pos c4] at H
        have c4b0 : decide (0 < (y379.length : Int)) = true := decide_eq_true c4
        have c4b1 : decide (0 < y379.length) = true := decide_eq_true (by omega)
        clear c4
        obtain ⟨y382, hy382⟩ : ∃ y_ : List Int, y_ = (y379.set (0 : Int).toNat (Go.bits .and .u64 (IntKind.u64.wrap (-(IntKind.u64.wrap (a0)))) 4294967295)) := ⟨_, rfl⟩
        replace H : (if 1 < (y379.length : Int) then (some (true, (y382.set (1 : Int).toNat ((IntKind.u64.wrap (-(IntKind.u64.wrap (a0)))) / 4294967296)))) else (none)) = some (r1, r2) := by first | (rw [hy382]; with_reducible exact H) | (have H2_ := (Option.bind_some _ _).symm.trans H; rw [hy382]; with_reducible exact H2_) | (have H2_ := (Option.bind_some _ _).symm.trans H; with_reducible exact H2_) | with_reducible exact H | (rw [hy382]; exact H) | exact H
        have Ny382 := Aside0.mk hy382
        clear hy382
        by_cases c6 : 1 < (y379.length : Int)
        · rw [if_pos c6] at H
          have c6b0 : decide (1 < (y379.length : Int)) = true := decide_eq_true c6
          have c6b1 : decide (1 < y379.length) = true := decide_eq_true (by omega)
          clear c6
          obtain ⟨y383, hy383⟩ : ∃ y_ : List Int, y_ = (y382.set (1 : Int).toNat ((IntKind.u64.wrap (-(IntKind.u64.wrap (a0)))) / 4294967296)) := ⟨_, rfl⟩
          replace H : (some (true, y383)) = some (r1, r2) := by first | (rw [hy383]; with_reducible exact H) | (have H2_ := (Option.bind_some _ _).symm.trans H; rw [hy383]; with_reducible exact H2_) | (have H2_ := (Option.bind_some _ _).symm.trans H; with_reducible exact H2_) | with_reducible exact H | (rw [hy383]; exact H) | exact H
          have Ny383 := Aside0.mk hy383
          clear hy383
          simp only [Option.some.injEq, Prod.mk.injEq] at H
          obtain ⟨rfl, rfl⟩ := H
          go_enter Try.func71, Try.ntmps71
          go_wp2_with (first | ((with_reducible refine gate_dst (N := 2) rfl ?_); refine box_event ?hg (N := 2) ?hd (cs := #[.bool false, .slice none 0 0]) (t := 70) ?hr ?_; (case hd => rfl); (case hg => rfl); (case hr => first | (go_simp; done) | (go_simp; rfl)); intro gb378 hg w8 hbox hb; have n0_ := Aside0.mk (kM (by repeat (first | (with_reducible first | exact HB.out | apply kG | apply kD | apply kF) | exact HB.out)) hb); have n1_ := Aside0.mk (hbox); have n2_ := Aside0.mk ((by rw [hg]; exact (kK (by repeat (first | (with_reducible first | exact HB.out | apply kG | apply kD | apply kF) | exact HB.out))) : w.heap.size ≤ gb378)); have n3_ := Aside0.mk ((by rw [hg]; exact (kK (by repeat (first | (with_reducible first | exact HB.out | apply kG | apply kD | apply kF) | exact HB.out))) : w.heap.size ≤ gb378)); clear HB; have HB := n0_; have BK378 := n1_; have GW378 := n2_; have GE378 := n3_; clear n0_ n1_ n2_ n3_; clear hb hbox hg) | ((with_reducible refine gate_dst (N := 11) rfl ?_); refine Kd.R_make (Kd.int .u64) _ 75 rfl (N := 11) rfl 68 _ _ rfl 6 rfl rfl Try.underlying68 (.int .u64 0) 8 info75 rfl (by decide) (by omega) 0 (ok := fun _ => True) (okp := fun _ => True) rfl (fun _ hk => hk) trivial (by omega) (by omega) (Below.refl _ _) (Nat.le_refl _) ?_; intro v380 w9 ho10 hb hg_ hnew_; clear hg_ hnew_; (first | rw [← Ny379.out] at ho10 | (simp only [Int.reduceToNat] at ho10; rw [← Ny379.out] at ho10)); have n0_ := Aside0.mk (Kd.R_lower ho10 (kK (by repeat (first | (with_reducible first | exact HB.out | apply kG | apply kD | apply kF | refine kA ?_ GE378.out) | exact HB.out)))); have n1_ := Aside0.mk (kI (g := gb378) (o := .cells #[.bool false, .slice none 0 0] 70 (0, 0)) (by (with_reducible repeat (first | refine kB ?_ _ | refine kE ?_ | refine kC ?_ _)); exact BK378.out) hb); have n2_ := Aside0.mk (kM (by repeat (first | (with_reducible first | exact HB.out | apply kG | apply kD | apply kF | refine kA ?_ GE378.out) | exact HB.out)) hb); clear BK378; clear HB; have HO381 := n0_; have BK378 := n1_; have HB := n2_; clear n0_ n1_ n2_; clear hb ho10; have p5 : 0 ≤ (0 : Int) := (by omega); have q5 : (0 : Int) < ((y379.length : Int) : Int) := of_decide_eq_true (by first | (with_reducible assumption) | assumption); have qi5 : (0 < y379.length) = True := eq_true (by omega); obtain ⟨go5, co5, eo5, gb5, gl5, cl5, HG5⟩ := Kd.R_form HO381.out (by omega); (first | cases eo5 | (injection eo5 with ea_ en_ ec_; (first | subst ea_ | (injection ea_ with ea_; subst ea_)); subst ec_; clear en_)); have GB5 := Aside0.mk gb5; have GG5 := Aside0.mk HG5; clear gb5 gl5 HG5; obtain ⟨hx5_0, hf5_0⟩ := Kd.R_celln 0 HO381.out (0 : Int) p5 q5; (try rw [show ((0 : Int)).toNat = 0 from rfl] at hx5_0); (try simp only [Nat.reduceMul, Nat.zero_mul, Nat.zero_add, Nat.reduceAdd] at hx5_0); (try rw [show ((0 : Int)).toNat = 0 from rfl] at hf5_0); (try simp only [Nat.reduceMul, Nat.zero_mul, Nat.zero_add, Nat.reduceAdd] at hf5_0); replace p5 := eq_true p5; replace q5 := eq_true q5; obtain ⟨hy11_, hz11_⟩ := Kd.R_celln 0 HO381.out (0 : Int) (by omega) (of_decide_eq_true (by first | (with_reducible assumption) | assumption)); (try simp only [Int.reduceToNat, Int.toNat_zero, Int.toNat_ofNat, Nat.reduceMul, Nat.zero_mul, Nat.zero_add] at hy11_ hz11_); (try rw [show ((0 : Int)).toNat = 0 from rfl] at hy11_); (try rw [show ((0 : Int)).toNat = 0 from rfl] at hz11_); have HP11 := Kd.R_putg HO381.out (0 : Int) (Go.bits .and .u64 (IntKind.u64.wrap (-(IntKind.u64.wrap (a0)))) 4294967295)) | ((with_reducible refine gate_store (t := 75) (p := 15) rfl ?_); refine store_event (t := 75) (p := 15) (v := ?vo_w12) (w1 := (w9.setCell ⟨go5, (0 : Int).toNat, none⟩ (.int .u64 (Go.bits .and .u64 (IntKind.u64.wrap (-(IntKind.u64.wrap (a0)))) 4294967295)))) ?hg ?ho ?hn ?hr ?_; (case ho => rfl); (case hg => rfl); (case hn => rfl); (case hr => first | (go_simp; done) | (go_simp; rfl)); intro w12 hw; have hg : w9.grownBy w12 (some go5) := (by rw [hw]; exact HP11.2); have hp_ : Kd.R (Kd.int .u64) 75 w12 w.heap.size (fun _ => True) (.slice (some ⟨go5, 0, none⟩) y379.length co5) y382 := (by rw [hw, Ny382.out]; exact HP11.1); clear HP11; have n0_ := Aside0.mk (blk_grown (g := gb378) (o := .cells #[.bool false, .slice none 0 0] 70 (0, 0)) (by (with_reducible repeat (first | refine kB ?_ _ | refine kE ?_ | refine kC ?_ _)); exact BK378.out) hg (Kd.R_ne HO381.out BK378.out (by decide))); have n1_ := Aside0.mk (hp_); have n2_ := Aside0.mk ((by rw [hw]; exact kA (HB.out) GB5.out : Below w.heap.size w w12)); clear BK378; clear HO381; clear HB; have BK378 := n0_; have HO381 := n1_; have HB := n2_; clear n0_ n1_ n2_; clear hg hw hp_; have p7 : 0 ≤ (1 : Int) := (by omega); have q7 : (1 : Int) < ((y379.length : Int) : Int) := of_decide_eq_true (by first | (with_reducible assumption) | assumption); have qi7 : (1 < y379.length) = True := eq_true (by omega); obtain ⟨hx7_0, hf7_0⟩ := Kd.R_celln 0 HO381.out (1 : Int) p7 q7; (try rw [show ((1 : Int)).toNat = 1 from rfl] at hx7_0); (try simp only [Nat.reduceMul, Nat.zero_mul, Nat.zero_add, Nat.reduceAdd] at hx7_0); (try rw [show ((1 : Int)).toNat = 1 from rfl] at hf7_0); (try simp only [Nat.reduceMul, Nat.zero_mul, Nat.zero_add, Nat.reduceAdd] at hf7_0); replace p7 := eq_true p7; replace q7 := eq_true q7; obtain ⟨hy13_, hz13_⟩ := Kd.R_celln 0 HO381.out (1 : Int) (by omega) (of_decide_eq_true (by first | (with_reducible assumption) | assumption)); (try simp only [Int.reduceToNat, Int.toNat_zero, Int.toNat_ofNat, Nat.reduceMul, Nat.zero_mul, Nat.zero_add] at hy13_ hz13_); (try rw [show ((1 : Int)).toNat = 1 from rfl] at hy13_); (try rw [show ((1 : Int)).toNat = 1 from rfl] at hz13_); have HP13 := Kd.R_putg HO381.out (1 : Int) ((IntKind.u64.wrap (-(IntKind.u64.wrap (a0)))) / 4294967296)) | ((with_reducible refine gate_store (t := 75) (p := 19) rfl ?_); refine store_event (t := 75) (p := 19) (v := ?vo_w14) (w1 := (w12.setCell ⟨go5, (1 : Int).toNat, none⟩ (.int .u64 ((IntKind.u64.wrap (-(IntKind.u64.wrap (a0)))) / 4294967296)))) ?hg ?ho ?hn ?hr ?_; (case ho => rfl); (case hg => rfl); (case hn => rfl); (case hr => first | (go_simp; done) | (go_simp; rfl)); intro w14 hw; have hg : w12.grownBy w14 (some go5) := (by rw [hw]; exact HP13.2); have hp_ : Kd.R (Kd.int .u64) 75 w14 w.heap.size (fun _ => True) (.slice (some ⟨go5, 0, none⟩) y379.length co5) y383 := (by rw [hw, Ny383.out]; exact HP13.1); clear HP13; have n0_ := Aside0.mk (blk_grown (g := gb378) (o := .cells #[.bool false, .slice none 0 0] 70 (0, 0)) (by (with_reducible repeat (first | refine kB ?_ _ | refine kE ?_ | refine kC ?_ _)); exact BK378.out) hg (Kd.R_ne HO381.out BK378.out (by decide))); have n1_ := Aside0.mk (hp_); have n2_ := Aside0.mk ((by rw [hw]; exact kA (HB.out) GB5.out : Below w.heap.size w w14)); clear BK378; clear HO381; clear HB; have BK378 := n0_; have HO381 := n1_; have HB := n2_; clear n0_ n1_ n2_; clear hg hw hp_; have hcz15_0 : w14.cell? ⟨gb378, 0, none⟩ = some (.bool false) := (kH BK378.out 0).trans rfl; have hcz15_1 : w14.cell? ⟨gb378, 1, none⟩ = some (.slice none 0 0) := (kH BK378.out 1).trans rfl; have hfz15_0 := kJ BK378.out 0; have hfz15_1 := kJ BK378.out 1))
          refine bodyPost_ret (results_cell_row rfl _ _ gb378 70 #[.bool true, .slice (some ⟨go5, 0, none⟩) y379.length co5] (0, 0) _ rfl (by (with_reducible repeat (first | refine kB ?_ _ | refine kE ?_ | refine kC ?_ _)); refine blk_put (cs := #[.bool true, .slice none 0 0]) ?_ 1 _ rfl; (with_reducible repeat (first | refine kB ?_ _ | refine kE ?_ | refine kC ?_ _)); refine blk_put (cs := #[.bool false, .slice none 0 0]) ?_ 0 _ rfl; (with_reducible repeat (first | refine kB ?_ _ | refine kE ?_ | refine kC ?_ _)); exact BK378.out) Try.underlying70 rfl (by kernel_rfl)) rfl ?_
          exact ⟨_, by first | rfl | (simp [errW_none, errW_some] <;> rfl) | (simp [*, errW_none, errW_some] <;> rfl), by (with_reducible repeat (first | apply Kd.R_alloc | apply Kd.R_drewN | apply Kd.R_drew)); exact Kd.R_mono (Kd.R_far (p := ⟨gb378, 1, none⟩) (Kd.R_far (p := ⟨gb378, 0, none⟩) (Kd.R_types HO381.out BK378.out (by decide)) (fun _ hk => hk.2) (.bool true)) (fun _ hk => hk.2) (.slice (some ⟨go5, 0, none⟩) y379.length co5)) (fun _ hk => trivial), by repeat (first | (with_reducible first | exact HB.out | apply kG | apply kD | apply kF | refine kA ?_ GE378.out) | exact HB.out)⟩
        · rw [if_neg c6] at H
          exact absurd H (by simp)
      · rw [if_neg c4] at H
        exact absurd H (by simp)
    · rw [if_neg c3] at H
      exact absurd H (by simp)
  · rw [if_neg c2] at H
    have c2b0 : decide (a0 < 0) = false := decide_eq_false c2
    clear c2
    by_cases c16 : 6 ≤ 35184372088832
    · rw [if_pos c16] at H
      have c16b0 := eq_true c16
      have c16b1 : decide (6 ≤ 35184372088832) = true := decide_eq_true c16
      clear c16
      obtain ⟨y384, hy384⟩ : ∃ y_ : List Int, y_ = (List.replicate 6 0) := ⟨_, rfl⟩
      replace H : (if 0 < (y384.length : Int) then (if 1 < (y384.length : Int) then (some (false, ((y384.set (0 : Int).toNat (Go.bits .and .u64 (IntKind.u64.wrap (a0)) 4294967295)).set (1 : Int).toNat ((IntKind.u64.wrap (a0)) / 4294967296)))) else (none)) else (none)) = some (r1, r2) := by first | (rw [hy384]; with_reducible exact H) | (have H2_ := (Option.bind_some _ _).symm.trans H; rw [hy384]; with_reducible exact H2_) | (have H2_ := (Option.bind_some _ _).symm.trans H; with_reducible exact H2_) | with_reducible exact H | (rw [hy384]; exact H) | exact H
      have Ny384 := Aside0.mk hy384
      clear hy384
      by_cases c17 : 0 < (y384.length : Int)
      · rw [if_pos c17] at H
        have c17b0 : decide (0 < (y384.length : Int)) = true := decide_eq_true c17
        have c17b1 : decide (0 < y384.length) = true := decide_eq_true (by omega)
        clear c17
        obtain ⟨y387, hy387⟩ : ∃ y_ : List Int, y_ = (y384.set (0 : Int).toNat (Go.bits .and .u64 (IntKind.u64.wrap (a0)) 4294967295)) := ⟨_, rfl⟩
        replace H : (if 1 < (y384.length : Int) then (some (false, (y387.set (1 : Int).toNat ((IntKind.u64.wrap (a0)) / 4294967296)))) else (none)) = some (r1, r2) := by first | (rw [hy387]; with_reducible exact H) | (have H2_ := (Option.bind_some _ _).symm.trans H; rw [hy387]; with_reducible exact H2_) | (have H2_ := (Option.bind_some _ _).symm.trans H; with_reducible exact H2_) | with_reducible exact H | (rw [hy387]; exact H) | exact H
        have Ny387 := Aside0.mk hy387
        clear hy387
        by_cases c19 : 1 < (y384.length : Int)
        · rw [if_pos c19] at H
          have c19b0 : decide (1 < (y384.length : Int)) = true := decide_eq_true c19
          have c19b1 : decide (1 < y384.length) = true := decide_eq_true (by omega)
          clear c19
          obtain ⟨y388, hy388⟩ : ∃ y_ : List Int, y_ = (y387.set (1 : Int).toNat ((IntKind.u64.wrap (a0)) / 4294967296)) := ⟨_, rfl⟩
          replace H : (some (false, y388)) = some (r1, r2) := by first | (rw [hy388]; with_reducible exact H) | (have H2_ := (Option.bind_some _ _).symm.trans H; rw [hy388]; with_reducible exact H2_) | (have H2_ := (Option.bind_some _ _).symm.trans H; with_reducible exact H2_) | with_reducible exact H | (rw [hy388]; exact H) | exact H
          have Ny388 := Aside0.mk hy388
          clear hy388
          simp only [Option.some.injEq, Prod.mk.injEq] at H
          obtain ⟨rfl, rfl⟩ := H
          go_enter Try.func71, Try.ntmps71
          go_wp2_with (first | ((with_reducible refine gate_dst (N := 2) rfl ?_); refine box_event ?hg (N := 2) ?hd (cs := #[.bool false, .slice none 0 0]) (t := 70) ?hr ?_; (case hd => rfl); (case hg => rfl); (case hr => first | (go_simp; done) | (go_simp; rfl)); intro gb378 hg w21 hbox hb; have n0_ := Aside0.mk (kM (by repeat (first | (with_reducible first | exact HB.out | apply kG | apply kD | apply kF) | exact HB.out)) hb); have n1_ := Aside0.mk (hbox); have n2_ := Aside0.mk ((by rw [hg]; exact (kK (by repeat (first | (with_reducible first | exact HB.out | apply kG | apply kD | apply kF) | exact HB.out))) : w.heap.size ≤ gb378)); have n3_ := Aside0.mk ((by rw [hg]; exact (kK (by repeat (first | (with_reducible first | exact HB.out | apply kG | apply kD | apply kF) | exact HB.out))) : w.heap.size ≤ gb378)); clear HB; have HB := n0_; have BK378 := n1_; have GW378 := n2_; have GE378 := n3_; clear n0_ n1_ n2_ n3_; clear hb hbox hg) | ((with_reducible refine gate_dst (N := 11) rfl ?_); refine Kd.R_make (Kd.int .u64) _ 75 rfl (N := 11) rfl 68 _ _ rfl 6 rfl rfl Try.underlying68 (.int .u64 0) 8 info75 rfl (by decide) (by omega) 0 (ok := fun _ => True) (okp := fun _ => True) rfl (fun _ hk => hk) trivial (by omega) (by omega) (Below.refl _ _) (Nat.le_refl _) ?_; intro v385 w22 ho23 hb hg_ hnew_; clear hg_ hnew_; (first | rw [← Ny384.out] at ho23 | (simp only [Int.reduceToNat] at ho23; rw [← Ny384.out] at ho23)); have n0_ := Aside0.mk (Kd.R_lower ho23 (kK (by repeat (first | (with_reducible first | exact HB.out | apply kG | apply kD | apply kF | refine kA ?_ GE378.out) | exact HB.out)))); have n1_ := Aside0.mk (kI (g := gb378) (o := .cells #[.bool false, .slice none 0 0] 70 (0, 0)) (by (with_reducible repeat (first | refine kB ?_ _ | refine kE ?_ | refine kC ?_ _)); exact BK378.out) hb); have n2_ := Aside0.mk (kM (by repeat (first | (with_reducible first | exact HB.out | apply kG | apply kD | apply kF | refine kA ?_ GE378.out) | exact HB.out)) hb); clear BK378; clear HB; have HO386 := n0_; have BK378 := n1_; have HB := n2_; clear n0_ n1_ n2_; clear hb ho23; have p18 : 0 ≤ (0 : Int) := (by omega); have q18 : (0 : Int) < ((y384.length : Int) : Int) := of_decide_eq_true (by first | (with_reducible assumption) | assumption); have qi18 : (0 < y384.length) = True := eq_true (by omega); obtain ⟨go18, co18, eo18, gb18, gl18, cl18, HG18⟩ := Kd.R_form HO386.out (by omega); (first | cases eo18 | (injection eo18 with ea_ en_ ec_; (first | subst ea_ | (injection ea_ with ea_; subst ea_)); subst ec_; clear en_)); have GB18 := Aside0.mk gb18; have GG18 := Aside0.mk HG18; clear gb18 gl18 HG18; obtain ⟨hx18_0, hf18_0⟩ := Kd.R_celln 0 HO386.out (0 : Int) p18 q18; (try rw [show ((0 : Int)).toNat = 0 from rfl] at hx18_0); (try simp only [Nat.reduceMul, Nat.zero_mul, Nat.zero_add, Nat.reduceAdd] at hx18_0); (try rw [show ((0 : Int)).toNat = 0 from rfl] at hf18_0); (try simp only [Nat.reduceMul, Nat.zero_mul, Nat.zero_add, Nat.reduceAdd] at hf18_0); replace p18 := eq_true p18; replace q18 := eq_true q18; obtain ⟨hy24_, hz24_⟩ := Kd.R_celln 0 HO386.out (0 : Int) (by omega) (of_decide_eq_true (by first | (with_reducible assumption) | assumption)); (try simp only [Int.reduceToNat, Int.toNat_zero, Int.toNat_ofNat, Nat.reduceMul, Nat.zero_mul, Nat.zero_add] at hy24_ hz24_); (try rw [show ((0 : Int)).toNat = 0 from rfl] at hy24_); (try rw [show ((0 : Int)).toNat = 0 from rfl] at hz24_); have HP24 := Kd.R_putg HO386.out (0 : Int) (Go.bits .and .u64 (IntKind.u64.wrap (a0)) 4294967295)) | ((with_reducible refine gate_store (t := 75) (p := 15) rfl ?_); refine store_event (t := 75) (p := 15) (v := ?vo_w25) (w1 := (w22.setCell ⟨go18, (0 : Int).toNat, none⟩ (.int .u64 (Go.bits .and .u64 (IntKind.u64.wrap (a0)) 4294967295)))) ?hg ?ho ?hn ?hr ?_; (case ho => rfl); (case hg => rfl); (case hn => rfl); (case hr => first | (go_simp; done) | (go_simp; rfl)); intro w25 hw; have hg : w22.grownBy w25 (some go18) := (by rw [hw]; exact HP24.2); have hp_ : Kd.R (Kd.int .u64) 75 w25 w.heap.size (fun _ => True) (.slice (some ⟨go18, 0, none⟩) y384.length co18) y387 := (by rw [hw, Ny387.out]; exact HP24.1); clear HP24; have n0_ := Aside0.mk (blk_grown (g := gb378) (o := .cells #[.bool false, .slice none 0 0] 70 (0, 0)) (by (with_reducible repeat (first | refine kB ?_ _ | refine kE ?_ | refine kC ?_ _)); exact BK378.out) hg (Kd.R_ne HO386.out BK378.out (by decide))); have n1_ := Aside0.mk (hp_); have n2_ := Aside0.mk ((by rw [hw]; exact kA (HB.out) GB18.out : Below w.heap.size w w25)); clear BK378; clear HO386; clear HB; have BK378 := n0_; have HO386 := n1_; have HB := n2_; clear n0_ n1_ n2_; clear hg hw hp_; have p20 : 0 ≤ (1 : Int) := (by omega); have q20 : (1 : Int) < ((y384.length : Int) : Int) := of_decide_eq_true (by first | (with_reducible assumption) | assumption); have qi20 : (1 < y384.length) = True := eq_true (by omega); obtain ⟨hx20_0, hf20_0⟩ := Kd.R_celln 0 HO386.out (1 : Int) p20 q20; (try rw [show ((1 : Int)).toNat = 1 from rfl] at hx20_0); (try simp only [Nat.reduceMul, Nat.zero_mul, Nat.zero_add, Nat.reduceAdd] at hx20_0); (try rw [show ((1 : Int)).toNat = 1 from rfl] at hf20_0); (try simp only [Nat.reduceMul, Nat.zero_mul, Nat.zero_add, Nat.reduceAdd] at hf20_0); replace p20 := eq_true p20; replace q20 := eq_true q20; obtain ⟨hy26_, hz26_⟩ := Kd.R_celln 0 HO386.out (1 : Int) (by omega) (of_decide_eq_true (by first | (with_reducible assumption) | assumption)); (try simp only [Int.reduceToNat, Int.toNat_zero, Int.toNat_ofNat, Nat.reduceMul, Nat.zero_mul, Nat.zero_add] at hy26_ hz26_); (try rw [show ((1 : Int)).toNat = 1 from rfl] at hy26_); (try rw [show ((1 : Int)).toNat = 1 from rfl] at hz26_); have HP26 := Kd.R_putg HO386.out (1 : Int) ((IntKind.u64.wrap (a0)) / 4294967296)) | ((with_reducible refine gate_store (t := 75) (p := 19) rfl ?_); refine store_event (t := 75) (p := 19) (v := ?vo_w27) (w1 := (w25.setCell ⟨go18, (1 : Int).toNat, none⟩ (.int .u64 ((IntKind.u64.wrap (a0)) / 4294967296)))) ?hg ?ho ?hn ?hr ?_; (case ho => rfl); (case hg => rfl); (case hn => rfl); (case hr => first | (go_simp; done) | (go_simp; rfl)); intro w27 hw; have hg : w25.grownBy w27 (some go18) := (by rw [hw]; exact HP26.2); have hp_ : Kd.R (Kd.int .u64) 75 w27 w.heap.size (fun _ => True) (.slice (some ⟨go18, 0, none⟩) y384.length co18) y388 := (by rw [hw, Ny388.out]; exact HP26.1); clear HP26; have n0_ := Aside0.mk (blk_grown (g := gb378) (o := .cells #[.bool false, .slice none 0 0] 70 (0, 0)) (by (with_reducible repeat (first | refine kB ?_ _ | refine kE ?_ | refine kC ?_ _)); exact BK378.out) hg (Kd.R_ne HO386.out BK378.out (by decide))); have n1_ := Aside0.mk (hp_); have n2_ := Aside0.mk ((by rw [hw]; exact kA (HB.out) GB18.out : Below w.heap.size w w27)); clear BK378; clear HO386; clear HB; have BK378 := n0_; have HO386 := n1_; have HB := n2_; clear n0_ n1_ n2_; clear hg hw hp_; have hcz28_0 : w27.cell? ⟨gb378, 0, none⟩ = some (.bool false) := (kH BK378.out 0).trans rfl; have hcz28_1 : w27.cell? ⟨gb378, 1, none⟩ = some (.slice none 0 0) := (kH BK378.out 1).trans rfl; have hfz28_0 := kJ BK378.out 0; have hfz28_1 := kJ BK378.out 1))
          refine bodyPost_ret (results_cell_row rfl _ _ gb378 70 #[.bool false, .slice (some ⟨go18, 0, none⟩) y384.length co18] (0, 0) _ rfl (by (with_reducible repeat (first | refine kB ?_ _ | refine kE ?_ | refine kC ?_ _)); refine blk_put (cs := #[.bool false, .slice none 0 0]) ?_ 1 _ rfl; (with_reducible repeat (first | refine kB ?_ _ | refine kE ?_ | refine kC ?_ _)); refine blk_put (cs := #[.bool false, .slice none 0 0]) ?_ 0 _ rfl; (with_reducible repeat (first | refine kB ?_ _ | refine kE ?_ | refine kC ?_ _)); exact BK378.out) Try.underlying70 rfl (by kernel_rfl)) rfl ?_
          exact ⟨_, by first | rfl | (simp [errW_none, errW_some] <;> rfl) | (simp [*, errW_none, errW_some] <;> rfl), by (with_reducible repeat (first | apply Kd.R_alloc | apply Kd.R_drewN | apply Kd.R_drew)); exact Kd.R_mono (Kd.R_far (p := ⟨gb378, 1, none⟩) (Kd.R_far (p := ⟨gb378, 0, none⟩) (Kd.R_types HO386.out BK378.out (by decide)) (fun _ hk => hk.2) (.bool false)) (fun _ hk => hk.2) (.slice (some ⟨go18, 0, none⟩) y384.length co18)) (fun _ hk => trivial), by repeat (first | (with_reducible first | exact HB.out | apply kG | apply kD | apply kF | refine kA ?_ GE378.out) | exact HB.out)⟩
        · rw [if_neg c19] at H
          exact absurd H (by simp)
      · rw [if_neg c17] at H
        exact absurd H (by simp)
    · rw [if_neg c16] at H
      exact absurd H (by simp)
end Go.Proofs.Ytgjbdojpncmmlaa.P
namespace Go.Proofs.Ytgjbdojpncmmlaa.P
open Go.RowKit Go.Proofs.YtgjbdojpncmmlaaW.PrintWords Go.Proofs.YtgjbdojpncmmlaaW.PrintLast Go.Proofs.YtgjbdojpncmmlaaW.PrintMore
attribute [local go_sem] max2_int min2_int max_two min_two max_three min_three max_four min_four   -- for this text's walks alone
set_option linter.unusedVariables false
set_option linter.unusedSimpArgs false
def computusref01_divide.l0 : Nat → List Int → List Int → List Int → List Int → Int → Option (List Int × List Int)
  | 0, _, _, _, _, _ => none
  | k + 1, x0, x1, x6, x7, x8 => if x8 ≥ 0 then ((computusref01_add.f k x7 x7).bind fun t522 => (if 0 < (t522.length : Int) then (if 0 ≤ (wrap64 (Int.tdiv x8 32)) then (if (wrap64 (Int.tdiv x8 32)) < (x0.length : Int) then (if 0 ≤ (IntKind.u64.wrap (Int.tmod x8 32)) then ((some (t522.set (0 : Int).toNat (Go.bits .or .u64 (rd t522 0) (Go.bits .and .u64 (shr .u64 (rd x0 (wrap64 (Int.tdiv x8 32))) (IntKind.u64.wrap (Int.tmod x8 32))) 1)) : List Int)).bind fun y527 => ((computusref01_cmp.f k y527 x1).bind fun t528 => (if t528 ≥ 0 then ((computusref01_less.f k y527 x1).bind fun t529 => (if (wrap64 (Int.tdiv x8 32)) < (x6.length : Int) then (computusref01_divide.l0 k x0 x1 (x6.set ((wrap64 (Int.tdiv x8 32)) : Int).toNat (Go.bits .or .u64 (rd x6 (wrap64 (Int.tdiv x8 32))) (shl .u64 1 (IntKind.u64.wrap (Int.tmod x8 32))))) t529 (wrap64 (x8 - 1))) else (none))) else (computusref01_divide.l0 k x0 x1 x6 y527 (wrap64 (x8 - 1)))))) else (none)) else (none)) else (none)) else (none))) else (some (x6, x7))
def computusref01_divide.f (k : Nat) (l0 : List Int) (l1 : List Int) : Option (List Int × List Int) := if 6 ≤ 35184372088832 then (computusref01_divide.l0 k l0 l1 (List.replicate 6 0) (List.replicate 6 0) 191) else (none)
def computusref01_divide.T7 : Bool × List (List Nat × List Nat) := (true, [([], []), ([], []), ([1], [1]), ([2], [2]), ([], []), ([], []), ([5], [5]), ([4, 6], [4, 6]), ([7], [7]), ([], []), ([9], [9]), ([10], [10]), ([8, 11], [8, 11]), ([12], [12]), ([3, 13], [3, 13]), ([0, 0, 1, 2, 3, 4, 5, 6, 7, 8, 9, 10, 11, 12, 13, 14], [0]), ([15, 14, 0, 1, 2, 3, 4, 5, 6, 7, 8, 9, 10, 11, 12, 13, 14], [14, 15])])
def computusref01_divide.B7 : List Nat := [0, 0, 2, 6, 0, 0, 32, 112, 240, 0, 512, 1536, 4080, 8176, 16382, 32767, 65535]
theorem computusref01_divide.tab7 : rtab .any (opsOf Try.f95 7) = computusref01_divide.T7 := by kernel_rfl
theorem computusref01_divide.bits7 : waitsOk computusref01_divide.T7.2 computusref01_divide.B7 = true := by kernel_rfl
set_option maxHeartbeats 8000000 in
set_option maxRecDepth 100000 in
theorem computusref01_divide.calls (k : Nat) (A0 : Option Addr) (c0 : Nat) (l0 : List Int) (A1 : Option Addr) (c1 : Nat) (l1 : List Int) (r1 : List Int) (r2 : List Int) (w : World) (hr0 : Kd.C (Kd.int .u64) w A0 l0.length l0) (hc0 : l0.length ≤ c0) (hr1 : Kd.C (Kd.int .u64) w A1 l1.length l1) (hc1 : l1.length ≤ c1) (h : computusref01_divide.f k l0 l1 = some (r1, r2)) :
    Calls Try.prog 95 #[.slice A0 l0.length c0, .slice A1 l1.length c1] w fun e w' => ∃ v0_ v1_ : Value, e = .returned (.tuple #[v0_, v1_]) ∧ Kd.R (Kd.int .u64) 75 w' w.heap.size (fun k_ => some k_ ≠ (v1_ : Value).ownBlock) v0_ r1 ∧ Kd.R (Kd.int .u64) 75 w' w.heap.size (fun k_ => some k_ ≠ (v0_ : Value).ownBlock) v1_ r2 ∧ Below w.heap.size w w' := by
  have HR0 := Aside0.mk hr0
  have HC0 := Aside0.mk hc0
  clear hr0 hc0
  have HR1 := Aside0.mk hr1
  have HC1 := Aside0.mk hc1
  clear hr1 hc1
  have HB := Aside0.mk (Below.refl w.heap.size w)
  have H : (if 6 ≤ 35184372088832 then (computusref01_divide.l0 k l0 l1 (List.replicate 6 0) (List.replicate 6 0) 191) else (none)) = some (r1, r2) := h
  clear h
  by_cases c3 : 6 ≤ 35184372088832
  · rw [if_pos c3] at H
    have c3b0 := eq_true c3
    have c3b1 : decide (6 ≤ 35184372088832) = true := decide_eq_true c3
    clear c3
    obtain ⟨y516, hy516⟩ : ∃ y_ : List Int, y_ = (List.replicate 6 0) := ⟨_, rfl⟩
    replace H : (computusref01_divide.l0 k l0 l1 y516 (List.replicate 6 0) 191) = some (r1, r2) := by first | (rw [hy516]; with_reducible exact H) | (have H2_ := (Option.bind_some _ _).symm.trans H; rw [hy516]; with_reducible exact H2_) | (have H2_ := (Option.bind_some _ _).symm.trans H; with_reducible exact H2_) | with_reducible exact H | (rw [hy516]; exact H) | exact H
    have Ny516 := Aside0.mk hy516
    clear hy516
    obtain ⟨y519, hy519⟩ : ∃ y_ : List Int, y_ = (List.replicate 6 0) := ⟨_, rfl⟩
    replace H : (computusref01_divide.l0 k l0 l1 y516 y519 191) = some (r1, r2) := by first | (rw [hy519]; with_reducible exact H) | (have H2_ := (Option.bind_some _ _).symm.trans H; rw [hy519]; with_reducible exact H2_) | (have H2_ := (Option.bind_some _ _).symm.trans H; with_reducible exact H2_) | with_reducible exact H | (rw [hy519]; exact H) | exact H
    have Ny519 := Aside0.mk hy519
    clear hy519
    have H' := Aside0.mk H
    clear H
    go_enter Try.func95, Try.ntmps95
    go_wp2_with (first | ((with_reducible refine gate_dst (N := 9) rfl ?_); refine Kd.R_make (Kd.int .u64) _ 75 rfl (N := 9) rfl 68 _ _ rfl 6 rfl rfl Try.underlying68 (.int .u64 0) 8 info75 rfl (by decide) (by omega) 0 (ok := fun _ => True) (okp := fun _ => True) rfl (fun _ hk => hk) trivial (by omega) (by omega) (Below.refl _ _) (Nat.le_refl _) ?_; intro v517 w4 ho5 hb hg_ hnew_; clear hg_ hnew_; (first | rw [← Ny516.out] at ho5 | (simp only [Int.reduceToNat] at ho5; rw [← Ny516.out] at ho5)); have n0_ := Aside0.mk (Kd.R_lower ho5 (kK (by repeat (first | (with_reducible first | exact HB.out | apply kG | apply kD | apply kF) | exact HB.out)))); have n1_ := Aside0.mk (kM (by repeat (first | (with_reducible first | exact HB.out | apply kG | apply kD | apply kF) | exact HB.out)) hb); clear HB; have HO518 := n0_; have HB := n1_; clear n0_ n1_; clear hb ho5) | ((with_reducible refine gate_dst (N := 10) rfl ?_); refine Kd.R_make (Kd.int .u64) _ 75 rfl (N := 10) rfl 68 _ _ rfl 6 rfl rfl Try.underlying68 (.int .u64 0) 8 info75 rfl (by decide) (by omega) 0 (ok := fun _ => True) (okp := fun _ => True) rfl (fun _ hk => hk) trivial (by omega) (by omega) (Below.refl _ _) (Nat.le_refl _) ?_; intro v520 w6 ho7 hb hg_ hnew_; clear hg_ hnew_; (first | rw [← Ny519.out] at ho7 | (simp only [Int.reduceToNat] at ho7; rw [← Ny519.out] at ho7)); have n0_ := Aside0.mk (Kd.R_elder' (by (with_reducible repeat (first | apply Kd.R_alloc | apply Kd.R_drewN | apply Kd.R_drew)); exact HO518.out) (Kd.R_base ho7) hb); have n1_ := Aside0.mk (Kd.R_lower (Kd.R_new' ho7 (Kd.R_lt (by (with_reducible repeat (first | apply Kd.R_alloc | apply Kd.R_drewN | apply Kd.R_drew)); exact HO518.out))) (kK (by repeat (first | (with_reducible first | exact HB.out | apply kG | apply kD | apply kF) | exact HB.out)))); have n2_ := Aside0.mk (kM (by repeat (first | (with_reducible first | exact HB.out | apply kG | apply kD | apply kF) | exact HB.out)) hb); clear HO518; clear HB; have HO518 := n0_; have HO521 := n1_; have HB := n2_; clear n0_ n1_ n2_; clear hb ho7))
    go_loopg [7, 8] k (fun kq v7 v8 w' => ∃ (x6_1 : List Int) (x7_1 : List Int) (x8_1 : Int), v8 = .int .i64 x8_1 ∧ Aside0 (computusref01_divide.l0 kq l0 l1 x6_1 x7_1 x8_1 = some (r1, r2)) ∧ Aside0 (kq ≤ k) ∧ Aside0 (Kd.R (Kd.int .u64) 75 w' w.heap.size (fun k_ => some k_ ≠ (v7 : Value).ownBlock) v517 x6_1) ∧ Aside0 (Kd.R (Kd.int .u64) 75 w' w.heap.size (fun k_ => some k_ ≠ (v517 : Value).ownBlock) v7 x7_1) ∧ Aside0 (Below w.heap.size w w'))
    case atStart => exact ⟨(y516), (y519), (191), (by first | rfl | (simp; done) | (simp [*]; done)), H', ⟨Nat.le_refl _⟩, ⟨by (with_reducible repeat (first | apply Kd.R_alloc | apply Kd.R_drewN | apply Kd.R_drew)); exact Kd.R_mono HO518.out (fun _ hk => hk.2)⟩, ⟨by (with_reducible repeat (first | apply Kd.R_alloc | apply Kd.R_drewN | apply Kd.R_drew)); exact Kd.R_mono HO521.out (fun _ hk => hk.2)⟩, ⟨by repeat (first | (with_reducible first | exact HB.out | apply kG | apply kD | apply kF) | exact HB.out)⟩⟩
    case round =>
      clear H'
      try clear c1
      try clear p2
      try clear c3
      try clear c3b0
      try clear c3b1
      obtain ⟨x6_1, x7_1, x8_1, rfl, HA, HK1, HO_6, HO_7, HB⟩ := hrel
      cases gk with
      | zero => exact absurd HA.out (by simp [computusref01_divide.l0])
      | succ k1 =>
        have H := HA.out
        clear HA
        simp only [computusref01_divide.l0] at H
        by_cases c8 : x8_1 ≥ 0
        · rw [if_pos c8] at H
          have c8b0 : decide (0 ≤ x8_1) = true := decide_eq_true c8
          clear c8
          replace H := Option.bind_eq_some_iff.mp H
          obtain ⟨t522, A90, H⟩ := H
          replace H : (if 0 < (t522.length : Int) then (if 0 ≤ (wrap64 (Int.tdiv x8_1 32)) then (if (wrap64 (Int.tdiv x8_1 32)) < (l0.length : Int) then (if 0 ≤ (IntKind.u64.wrap (Int.tmod x8_1 32)) then ((some (t522.set (0 : Int).toNat (Go.bits .or .u64 (rd t522 0) (Go.bits .and .u64 (shr .u64 (rd l0 (wrap64 (Int.tdiv x8_1 32))) (IntKind.u64.wrap (Int.tmod x8_1 32))) 1)) : List Int)).bind fun y527 => ((computusref01_cmp.f k1 y527 l1).bind fun t528 => (if t528 ≥ 0 then ((computusref01_less.f k1 y527 l1).bind fun t529 => (if (wrap64 (Int.tdiv x8_1 32)) < (x6_1.length : Int) then (computusref01_divide.l0 k1 l0 l1 (x6_1.set ((wrap64 (Int.tdiv x8_1 32)) : Int).toNat (Go.bits .or .u64 (rd x6_1 (wrap64 (Int.tdiv x8_1 32))) (shl .u64 1 (IntKind.u64.wrap (Int.tmod x8_1 32))))) t529 (wrap64 (x8_1 - 1))) else (none))) else (computusref01_divide.l0 k1 l0 l1 x6_1 y527 (wrap64 (x8_1 - 1)))))) else (none)) else (none)) else (none)) else (none)) = some (r1, r2) := H
          have A9 := Aside0.mk A90
          clear A90
          by_cases c10 : 0 < (t522.length : Int)
          · rw [if_pos c10] at H
            have c10b0 : decide (0 < (t522.length : Int)) = true := decide_eq_true c10
            have c10b1 : decide (0 < t522.length) = true := decide_eq_true (by omega)
            clear c10
            obtain ⟨ji11, hji11⟩ : ∃ j_ : Int, (wrap64 (Int.tdiv x8_1 32)) = j_ := ⟨_, rfl⟩
            replace H : (if 0 ≤ (ji11) then (if (ji11) < (l0.length : Int) then (if 0 ≤ (IntKind.u64.wrap (Int.tmod x8_1 32)) then ((some (t522.set (0 : Int).toNat (Go.bits .or .u64 (rd t522 0) (Go.bits .and .u64 (shr .u64 (rd l0 (ji11)) (IntKind.u64.wrap (Int.tmod x8_1 32))) 1)) : List Int)).bind fun y527 => ((computusref01_cmp.f k1 y527 l1).bind fun t528 => (if t528 ≥ 0 then ((computusref01_less.f k1 y527 l1).bind fun t529 => (if (ji11) < (x6_1.length : Int) then (computusref01_divide.l0 k1 l0 l1 (x6_1.set ((ji11) : Int).toNat (Go.bits .or .u64 (rd x6_1 (ji11)) (shl .u64 1 (IntKind.u64.wrap (Int.tmod x8_1 32))))) t529 (wrap64 (x8_1 - 1))) else (none))) else (computusref01_divide.l0 k1 l0 l1 x6_1 y527 (wrap64 (x8_1 - 1)))))) else (none)) else (none)) else (none)) = some (r1, r2) := by first | (rw [hji11] at H; exact H) | (simp only [hji11] at H ⊢; exact H)
            (try rw [hji11] at A9)
            have hji11w : (IntKind.i64.wrap (Int.tdiv x8_1 32)) = ji11 := (kN _).trans hji11
            by_cases c12 : 0 ≤ (ji11)
            · rw [if_pos c12] at H
              have c12b0 : decide (0 ≤ (ji11)) = true := decide_eq_true c12
              clear c12
              by_cases c13 : (ji11) < (l0.length : Int)
              · rw [if_pos c13] at H
                have c13b0 : decide ((ji11) < (l0.length : Int)) = true := decide_eq_true c13
                clear c13
                obtain ⟨ji14, hji14⟩ : ∃ j_ : Int, (IntKind.u64.wrap (Int.tmod x8_1 32)) = j_ := ⟨_, rfl⟩
                replace H : (if 0 ≤ (ji14) then ((some (t522.set (0 : Int).toNat (Go.bits .or .u64 (rd t522 0) (Go.bits .and .u64 (shr .u64 (rd l0 (ji11)) (ji14)) 1)) : List Int)).bind fun y527 => ((computusref01_cmp.f k1 y527 l1).bind fun t528 => (if t528 ≥ 0 then ((computusref01_less.f k1 y527 l1).bind fun t529 => (if (ji11) < (x6_1.length : Int) then (computusref01_divide.l0 k1 l0 l1 (x6_1.set ((ji11) : Int).toNat (Go.bits .or .u64 (rd x6_1 (ji11)) (shl .u64 1 (ji14)))) t529 (wrap64 (x8_1 - 1))) else (none))) else (computusref01_divide.l0 k1 l0 l1 x6_1 y527 (wrap64 (x8_1 - 1)))))) else (none)) = some (r1, r2) := by first | (rw [hji14] at H; exact H) | (simp only [hji14] at H ⊢; exact H)
                (try rw [hji14] at A9)
                by_cases c15 : 0 ≤ (ji14)
                · rw [if_pos c15] at H
                  have c15b0 := eq_true c15
                  have c15b1 : decide (0 ≤ (ji14)) = true := decide_eq_true c15
                  clear c15
                  obtain ⟨ji16, hji16⟩ : ∃ j_ : Int, (shr .u64 (rd l0 (ji11)) (ji14)) = j_ := ⟨_, rfl⟩
                  replace H : ((some (t522.set (0 : Int).toNat (Go.bits .or .u64 (rd t522 0) (Go.bits .and .u64 (ji16) 1)) : List Int)).bind fun y527 => ((computusref01_cmp.f k1 y527 l1).bind fun t528 => (if t528 ≥ 0 then ((computusref01_less.f k1 y527 l1).bind fun t529 => (if (ji11) < (x6_1.length : Int) then (computusref01_divide.l0 k1 l0 l1 (x6_1.set ((ji11) : Int).toNat (Go.bits .or .u64 (rd x6_1 (ji11)) (shl .u64 1 (ji14)))) t529 (wrap64 (x8_1 - 1))) else (none))) else (computusref01_divide.l0 k1 l0 l1 x6_1 y527 (wrap64 (x8_1 - 1)))))) = some (r1, r2) := by first | (rw [hji16] at H; exact H) | (simp only [hji16] at H ⊢; exact H)
                  (try rw [hji16] at A9)
                  have hji16_ : ((rd l0 (ji11)) / 2 ^ min (ji14).toNat 64) = ji16 := hji16
                  have hji16z : (ji14) ≤ 64 → ((rd l0 (ji11)) / 2 ^ (ji14).toNat) = ji16 := shr_small hji16
                  obtain ⟨y527, hy527⟩ : ∃ y_ : List Int, y_ = (t522.set (0 : Int).toNat (Go.bits .or .u64 (rd t522 0) (Go.bits .and .u64 (ji16) 1))) := ⟨_, rfl⟩
                  replace H : ((computusref01_cmp.f k1 y527 l1).bind fun t528 => (if t528 ≥ 0 then ((computusref01_less.f k1 y527 l1).bind fun t529 => (if (ji11) < (x6_1.length : Int) then (computusref01_divide.l0 k1 l0 l1 (x6_1.set ((ji11) : Int).toNat (Go.bits .or .u64 (rd x6_1 (ji11)) (shl .u64 1 (ji14)))) t529 (wrap64 (x8_1 - 1))) else (none))) else (computusref01_divide.l0 k1 l0 l1 x6_1 y527 (wrap64 (x8_1 - 1))))) = some (r1, r2) := by first | (rw [hy527]; with_reducible exact H) | (have H2_ := (Option.bind_some _ _).symm.trans H; rw [hy527]; with_reducible exact H2_) | (have H2_ := (Option.bind_some _ _).symm.trans H; with_reducible exact H2_) | with_reducible exact H | (rw [hy527]; exact H) | exact H
                  have Ny527 := Aside0.mk hy527
                  clear hy527
                  replace H := Option.bind_eq_some_iff.mp H
                  obtain ⟨t528, A180, H⟩ := H
                  replace H : (if t528 ≥ 0 then ((computusref01_less.f k1 y527 l1).bind fun t529 => (if (ji11) < (x6_1.length : Int) then (computusref01_divide.l0 k1 l0 l1 (x6_1.set ((ji11) : Int).toNat (Go.bits .or .u64 (rd x6_1 (ji11)) (shl .u64 1 (ji14)))) t529 (wrap64 (x8_1 - 1))) else (none))) else (computusref01_divide.l0 k1 l0 l1 x6_1 y527 (wrap64 (x8_1 - 1)))) = some (r1, r2) := H
                  have A18 := Aside0.mk A180
                  clear A180
                  by_cases c19 : t528 ≥ 0
                  · rw [if_pos c19] at H
                    have c19b0 : decide (0 ≤ t528) = true := decide_eq_true c19
                    clear c19
                    replace H := Option.bind_eq_some_iff.mp H
                    obtain ⟨t529, A200, H⟩ := H
                    replace H : (if (ji11) < (x6_1.length : Int) then (computusref01_divide.l0 k1 l0 l1 (x6_1.set ((ji11) : Int).toNat (Go.bits .or .u64 (rd x6_1 (ji11)) (shl .u64 1 (ji14)))) t529 (wrap64 (x8_1 - 1))) else (none)) = some (r1, r2) := H
                    have A20 := Aside0.mk A200
                    clear A200
                    by_cases c21 : (ji11) < (x6_1.length : Int)
                    · rw [if_pos c21] at H
                      have c21b0 : decide ((ji11) < (x6_1.length : Int)) = true := decide_eq_true c21
                      clear c21
                      have c22b0 := eq_true (of_decide_eq_true (by first | (with_reducible assumption) | assumption) : 0 ≤ (ji14))
                      obtain ⟨ji23, hji23⟩ : ∃ j_ : Int, (shl .u64 1 (ji14)) = j_ := ⟨_, rfl⟩
                      replace H : (computusref01_divide.l0 k1 l0 l1 (x6_1.set ((ji11) : Int).toNat (Go.bits .or .u64 (rd x6_1 (ji11)) (ji23))) t529 (wrap64 (x8_1 - 1))) = some (r1, r2) := by first | (rw [hji23] at H; exact H) | (simp only [hji23] at H ⊢; exact H)
                      (try rw [hji23] at A9)
                      (try rw [hji23] at A18)
                      (try rw [hji23] at A20)
                      have hji23_ : (IntKind.u64.wrap (1 * 2 ^ min (ji14).toNat 64)) = ji23 := hji23
                      have hji23z : (ji14) ≤ 64 → (IntKind.u64.wrap (1 * 2 ^ (ji14).toNat)) = ji23 := shl_small hji23
                      have hji23u : (IntKind.u64.wrap (2 ^ min (ji14).toNat 64)) = ji23 := by have h_ := hji23_; rw [Int.one_mul] at h_; exact h_
                      have hji23v : (ji14) ≤ 64 → (IntKind.u64.wrap (2 ^ (ji14).toNat)) = ji23 := fun hle_ => by have h_ := hji23z hle_; rw [Int.one_mul] at h_; exact h_
                      obtain ⟨y533, hy533⟩ : ∃ y_ : List Int, y_ = (x6_1.set ((ji11) : Int).toNat (Go.bits .or .u64 (rd x6_1 (ji11)) (ji23))) := ⟨_, rfl⟩
                      replace H : (computusref01_divide.l0 k1 l0 l1 y533 t529 (wrap64 (x8_1 - 1))) = some (r1, r2) := by first | (rw [hy533]; with_reducible exact H) | (have H2_ := (Option.bind_some _ _).symm.trans H; rw [hy533]; with_reducible exact H2_) | (have H2_ := (Option.bind_some _ _).symm.trans H; with_reducible exact H2_) | with_reducible exact H | (rw [hy533]; exact H) | exact H
                      have Ny533 := Aside0.mk hy533
                      clear hy533
                      have H' := Aside0.mk H
                      clear H
                      obtain ⟨Ao25, co25, eo25⟩ := Kd.R_slice HO_7.out
                      subst eo25
                      try go_wp2_with (first | ((with_reducible refine kL (f := 84) rfl ?_); refine goesL_ (some 17) rfl rfl Try.func84 (by kernel_rfl) rfl #[.slice Ao25 x7_1.length co25, .slice Ao25 x7_1.length co25] rfl (by (try simp only [List.map_toArray, List.map_cons, List.map_nil]); first | done | rfl | (simp only [List.length_drop, List.length_take]; rfl)) ?_; (with_reducible refine (computusref01_add.calls k1 _ _ x7_1 _ _ x7_1 t522 _ ?side1 ?side2 ?side3 ?side4 A9.out).mono ?_); (case side1 => repeat (first | exact (Kd.R_reads' HO_7.out).2.2 | (with_reducible refine Kd.C_alloc ?_ _) | (with_reducible refine Kd.C_drewN ?_ _) | (with_reducible refine Kd.C_drew ?_))); (case side2 => exact (Kd.R_reads' HO_7.out).2.1); (case side3 => repeat (first | exact (Kd.R_reads' HO_7.out).2.2 | (with_reducible refine Kd.C_alloc ?_ _) | (with_reducible refine Kd.C_drewN ?_ _) | (with_reducible refine Kd.C_drew ?_))); (case side4 => exact (Kd.R_reads' HO_7.out).2.1); rintro e w26 ⟨v523, rfl, ho0, hb⟩; refine ⟨_, rfl, ?_⟩; have n0_ := Aside0.mk (Kd.R_elder' (by (with_reducible repeat (first | apply Kd.R_alloc | apply Kd.R_drewN | apply Kd.R_drew)); exact HO_6.out) (Kd.R_base ho0) hb); have n1_ := Aside0.mk (Kd.R_elder' (by (with_reducible repeat (first | apply Kd.R_alloc | apply Kd.R_drewN | apply Kd.R_drew)); exact HO_7.out) (Kd.R_base ho0) hb); have n2_ := Aside0.mk (Kd.R_lower (Kd.R_new' (Kd.R_new' ho0 (Kd.R_lt (by (with_reducible repeat (first | apply Kd.R_alloc | apply Kd.R_drewN | apply Kd.R_drew)); exact HO_6.out))) (Kd.R_lt (by (with_reducible repeat (first | apply Kd.R_alloc | apply Kd.R_drewN | apply Kd.R_drew)); exact HO_7.out))) (kK (by repeat (first | (with_reducible first | exact HB.out | apply kG | apply kD | apply kF) | exact HB.out)))); have n3_ := Aside0.mk (kM (by repeat (first | (with_reducible first | exact HB.out | apply kG | apply kD | apply kF) | exact HB.out)) hb); clear HO_6; clear HO_7; clear HB; have HO_6 := n0_; have HO_7 := n1_; have HO524 := n2_; have HB := n3_; clear n0_ n1_ n2_ n3_; (try clear hb); (try clear hb2); (try clear hk); (try clear hi); (try clear ho0)))
                      have n0_ := Aside0.mk (Kd.R_drew HO_6.out)
                      have n1_ := Aside0.mk (Kd.R_drew HO_7.out)
                      have n2_ := Aside0.mk (Kd.R_drew HO524.out)
                      have n3_ := Aside0.mk (kF HB.out)
                      clear HO_6
                      clear HO_7
                      clear HO524
                      clear HB
                      have HO_6 := n0_
                      have HO_7 := n1_
                      have HO524 := n2_
                      have HB := n3_
                      clear n0_ n1_ n2_ n3_
                      obtain ⟨Ao28, co28, eo28⟩ := Kd.R_slice HO524.out
                      (first | subst eo28 | (injection eo28 with f1_ f2_ f3_; have f4_ := f1_.symm; have f5_ := f3_.symm; clear f1_ f2_ f3_; subst f4_; subst f5_))
                      have p525 : 0 ≤ (0 : Int) := (by omega)
                      have q525 : 0 < (t522.length : Int) := of_decide_eq_true (by first | (with_reducible assumption) | assumption)
                      obtain ⟨ad525, e525, hx525_0⟩ := Kd.at_int (Kd.R_reads' HO524.out).2.2 0 p525 q525
                      cases e525
                      have qi525 : (0 < t522.length) = True := eq_true (by omega)
                      (try rw [show ((0 : Int)).toNat = 0 from rfl] at hx525_0)
                      (try rw [Addr.add_zero'] at hx525_0)
                      replace p525 := eq_true p525
                      replace q525 := eq_true q525
                      have p526 : 0 ≤ ((ji11) : Int) := of_decide_eq_true (by first | (with_reducible assumption) | assumption)
                      have q526 : (ji11) < (l0.length : Int) := of_decide_eq_true (by first | (with_reducible assumption) | assumption)
                      obtain ⟨ad526, e526, hx526_0⟩ := Kd.at_int HR0.out (ji11) p526 q526
                      have hw526_0 := hx526_0
                      cases e526
                      replace hx526_0 := (HB.out.cell (World.block_lt_of_cell? w _ hx526_0)).trans hx526_0
                      replace p526 := eq_true p526
                      replace q526 := eq_true q526
                      have p17 : 0 ≤ (0 : Int) := (by omega)
                      have q17 : (0 : Int) < ((t522.length : Int) : Int) := of_decide_eq_true (by first | (with_reducible assumption) | assumption)
                      have qi17 : (0 < t522.length) = True := eq_true (by omega)
                      obtain ⟨go17, co17, eo17, gb17, gl17, cl17, HG17⟩ := Kd.R_form HO524.out (by omega)
                      (first | cases eo17 | (injection eo17 with ea_ en_ ec_; (first | subst ea_ | (injection ea_ with ea_; subst ea_)); subst ec_; clear en_))
                      have GB17 := Aside0.mk gb17
                      have GG17 := Aside0.mk HG17
                      clear gb17 gl17 HG17
                      (first | simp only [add_plain] at hx525_0 | skip)
                      obtain ⟨hx17_0, hf17_0⟩ := Kd.R_celln 0 HO524.out (0 : Int) p17 q17
                      (try rw [show ((0 : Int)).toNat = 0 from rfl] at hx17_0)
                      (try simp only [Nat.reduceMul, Nat.zero_mul, Nat.zero_add, Nat.reduceAdd] at hx17_0)
                      (try rw [show ((0 : Int)).toNat = 0 from rfl] at hf17_0)
                      (try simp only [Nat.reduceMul, Nat.zero_mul, Nat.zero_add, Nat.reduceAdd] at hf17_0)
                      replace p17 := eq_true p17
                      replace q17 := eq_true q17
                      have HP29 := Kd.R_putn HO524.out (0 : Int) (Go.bits .or .u64 (rd t522 0) (Go.bits .and .u64 (ji16) 1))
                      rw [← Ny527.out] at HP29
                      have HQ29 := Aside0.mk HP29
                      clear HP29
                      refine start_ (n := 17) (S := fun w' => w'.cell? ⟨go17, 0, none⟩ = some (.int .u64 (rd t522 0)) ∧ w'.cell? (ad526.add ((ji11)).toNat) = some (.int .u64 (rd l0 (ji11)))) (ds := [16]) #[false, false, false, false, false, false, false, false, false, false, false, false, false, false, false, false, false] (by kernel_rfl) rfl rfl ⟨hx525_0, ((HB.out.cell (World.block_lt_of_cell? w _ hw526_0)).trans hw526_0)⟩ (fun hHeld => ?_); refine with_tabW computusref01_divide.tab7 computusref01_divide.bits7 (fun HT_ HW_ => ?_)
                      generalize w26.drew = w27 at HO_6 HO_7 HO524 HB GG17 HQ29 hf17_0 hx17_0 hx525_0 hx526_0 hHeld ⊢
                      refine pure_ (i := 0) (N := some 18) (v := ?_) (a' := ?_) #[true, false, false, false, false, false, false, false, false, false, false, false, false, false, false, false, false] rfl rfl (kQ HT_.out (by kernel_rfl)) (fun _ _ _ h => h) (Or.inl ⟨by rfl, ?_⟩) ?_ ?_
                      rotate_left
                      · intro w'
                        go_simp
                        with_reducible rfl
                      rotate_left
                      · simp only [Act.put, List.setIfInBounds_toArray, List.set_cons_zero, List.set_cons_succ, kN, kO]
                        rfl
                      refine pure_ (i := 1) (N := some 19) (v := ?_) (a' := ?_) #[true, true, false, false, false, false, false, false, false, false, false, false, false, false, false, false, false] rfl rfl (kQ HT_.out (by kernel_rfl)) (fun _ _ _ h => h) (Or.inl ⟨by rfl, ?_⟩) ?_ ?_
                      rotate_left
                      · intro w'
                        go_simp
                        with_reducible rfl
                      rotate_left
                      · simp only [Act.put, List.setIfInBounds_toArray, List.set_cons_zero, List.set_cons_succ, kN, kO]
                        rfl
                      refine pure_ (i := 2) (N := some 20) (v := ?_) (a' := ?_) #[true, true, true, false, false, false, false, false, false, false, false, false, false, false, false, false, false] rfl rfl (kQ HT_.out (by kernel_rfl)) (fun _ _ _ h => h) (Or.inl ⟨by rfl, ?_⟩) ?_ ?_
                      rotate_left
                      · intro w'
                        go_simp
                        with_reducible rfl
                      rotate_left
                      · simp only [Act.put, List.setIfInBounds_toArray, List.set_cons_zero, List.set_cons_succ, kN, kO]
                        rfl
                      refine pure_ (i := 4) (N := some 22) (v := ?_) (a' := ?_) #[true, true, true, false, true, false, false, false, false, false, false, false, false, false, false, false, false] rfl rfl (kQ HT_.out (by kernel_rfl)) (fun _ _ _ h => h) (Or.inl ⟨by rfl, ?_⟩) ?_ ?_
                      rotate_left
                      · intro w'
                        go_simp
                        with_reducible rfl
                      rotate_left
                      · simp only [Act.put, List.setIfInBounds_toArray, List.set_cons_zero, List.set_cons_succ, kN, kO]
                        rfl
                      refine pure_ (i := 5) (N := some 23) (v := ?_) (a' := ?_) #[true, true, true, false, true, true, false, false, false, false, false, false, false, false, false, false, false] rfl rfl (kQ HT_.out (by kernel_rfl)) (fun _ _ _ h => h) (Or.inl ⟨by rfl, ?_⟩) ?_ ?_
                      rotate_left
                      · intro w'
                        go_simp
                        with_reducible rfl
                      rotate_left
                      · simp only [Act.put, List.setIfInBounds_toArray, List.set_cons_zero, List.set_cons_succ, kN, kO]
                        rfl
                      refine pure_ (i := 6) (N := some 24) (v := ?_) (a' := ?_) #[true, true, true, false, true, true, true, false, false, false, false, false, false, false, false, false, false] rfl rfl (kQ HT_.out (by kernel_rfl)) (fun _ _ _ h => h) (Or.inl ⟨by rfl, ?_⟩) ?_ ?_
                      rotate_left
                      · intro w'
                        go_simp
                        with_reducible rfl
                      rotate_left
                      · simp only [Act.put, List.setIfInBounds_toArray, List.set_cons_zero, List.set_cons_succ, kN, kO]
                        rfl
                      refine pure_ (i := 7) (N := some 25) (v := ?_) (a' := ?_) #[true, true, true, false, true, true, true, true, false, false, false, false, false, false, false, false, false] rfl rfl (kQ HT_.out (by kernel_rfl)) (fun _ _ _ h => h) (Or.inl ⟨by rfl, ?_⟩) ?_ ?_
                      rotate_left
                      · intro w'
                        go_simp
                        with_reducible rfl
                      rotate_left
                      · simp only [Act.put, List.setIfInBounds_toArray, List.set_cons_zero, List.set_cons_succ, kN, kO]
                        rfl
                      refine pure_ (i := 9) (N := some 27) (v := ?_) (a' := ?_) #[true, true, true, false, true, true, true, true, false, true, false, false, false, false, false, false, false] rfl rfl (kQ HT_.out (by kernel_rfl)) (fun _ _ _ h => h) (Or.inl ⟨by rfl, ?_⟩) ?_ ?_
                      rotate_left
                      · intro w'
                        go_simp
                        with_reducible rfl
                      rotate_left
                      · simp only [Act.put, List.setIfInBounds_toArray, List.set_cons_zero, List.set_cons_succ, kN, kO]
                        rfl
                      refine pure_ (i := 10) (N := some 28) (v := ?_) (a' := ?_) #[true, true, true, false, true, true, true, true, false, true, true, false, false, false, false, false, false] rfl rfl (kQ HT_.out (by kernel_rfl)) (fun _ _ _ h => h) (Or.inl ⟨by rfl, ?_⟩) ?_ ?_
                      rotate_left
                      · intro w'
                        go_simp
                        with_reducible rfl
                      rotate_left
                      · simp only [Act.put, List.setIfInBounds_toArray, List.set_cons_zero, List.set_cons_succ, kN, kO]
                        rfl
                      refine pure_ (i := 11) (N := some 29) (v := ?_) (a' := ?_) #[true, true, true, false, true, true, true, true, false, true, true, true, false, false, false, false, false] rfl rfl (kQ HT_.out (by kernel_rfl)) (fun _ _ _ h => h) (Or.inl ⟨by rfl, ?_⟩) ?_ ?_
                      rotate_left
                      · intro w'
                        go_simp
                        with_reducible rfl
                      rotate_left
                      · simp only [Act.put, List.setIfInBounds_toArray, List.set_cons_zero, List.set_cons_succ, kN, kO]
                        rfl
                      refine take_ (i := 3) (N := some 21) (v := ?_) (a' := ?_) #[true, true, true, true, true, true, true, true, false, true, true, true, false, false, false, false, false] rfl rfl (take_ofW HT_.out HW_.out (by kernel_rfl)) (fun _ _ _ h => h) (Or.inl ⟨by rfl, ?_⟩) hHeld ?_ ?_
                      rotate_left
                      · rintro w' ⟨s0, s1⟩
                        go_simp
                        with_reducible rfl
                      rotate_left
                      · simp only [Act.put, List.setIfInBounds_toArray, List.set_cons_zero, List.set_cons_succ, kN, kO]
                        rfl
                      refine take_ (i := 8) (N := some 26) (v := ?_) (a' := ?_) #[true, true, true, true, true, true, true, true, true, true, true, true, false, false, false, false, false] rfl rfl (take_ofW HT_.out HW_.out (by kernel_rfl)) (fun _ _ _ h => h) (Or.inl ⟨by rfl, ?_⟩) hHeld ?_ ?_
                      rotate_left
                      · rintro w' ⟨s0, s1⟩
                        go_simp
                        with_reducible rfl
                      rotate_left
                      · simp only [Act.put, List.setIfInBounds_toArray, List.set_cons_zero, List.set_cons_succ, kN, kO]
                        rfl
                      refine pure_ (i := 12) (N := some 30) (v := ?_) (a' := ?_) #[true, true, true, true, true, true, true, true, true, true, true, true, true, false, false, false, false] rfl rfl (kQ HT_.out (by kernel_rfl)) (fun _ _ _ h => h) (Or.inl ⟨by rfl, ?_⟩) ?_ ?_
                      rotate_left
                      · intro w'
                        go_simp
                        with_reducible rfl
                      rotate_left
                      · simp only [Act.put, List.setIfInBounds_toArray, List.set_cons_zero, List.set_cons_succ, kN, kO]
                        rfl
                      refine pure_ (i := 13) (N := some 31) (v := ?_) (a' := ?_) #[true, true, true, true, true, true, true, true, true, true, true, true, true, true, false, false, false] rfl rfl (kQ HT_.out (by kernel_rfl)) (fun _ _ _ h => h) (Or.inl ⟨by rfl, ?_⟩) ?_ ?_
                      rotate_left
                      · intro w'
                        go_simp
                        with_reducible rfl
                      rotate_left
                      · simp only [Act.put, List.setIfInBounds_toArray, List.set_cons_zero, List.set_cons_succ, kN, kO]
                        rfl
                      refine pure_ (i := 14) (N := some 32) (v := ?_) (a' := ?_) #[true, true, true, true, true, true, true, true, true, true, true, true, true, true, true, false, false] rfl rfl (kQ HT_.out (by kernel_rfl)) (fun _ _ _ h => h) (Or.inl ⟨by rfl, ?_⟩) ?_ ?_
                      rotate_left
                      · intro w'
                        go_simp
                        with_reducible rfl
                      rotate_left
                      · simp only [Act.put, List.setIfInBounds_toArray, List.set_cons_zero, List.set_cons_succ, kN, kO]
                        rfl
                      refine pure_ (i := 15) (N := some 33) (v := ?_) (a' := ?_) #[true, true, true, true, true, true, true, true, true, true, true, true, true, true, true, true, false] rfl rfl (kQ HT_.out (by kernel_rfl)) (fun _ _ _ h => h) (Or.inl ⟨by rfl, ?_⟩) ?_ ?_
                      rotate_left
                      · intro w'
                        go_simp
                        with_reducible rfl
                      rotate_left
                      · simp only [Act.put, List.setIfInBounds_toArray, List.set_cons_zero, List.set_cons_succ, kN, kO]
                        rfl
                      refine last_ (i := 16) (N := none) #[true, true, true, true, true, true, true, true, true, true, true, true, true, true, true, true, true] rfl rfl (one_of HT_.out (by kernel_rfl)) (by decide) (fun K hK => ?_)
                      refine skip_ (w1 := ?_) (by rfl) rfl ?_ ?_
                      rotate_left
                      · go_simp
                        rfl
                      refine hK.out _ _ ?_
                      clear hK K
                      refine done_ (done_of HT_.out (by kernel_rfl)) ?_
                      try go_wp2_with (first | ((with_reducible refine kL (f := 85) rfl ?_); refine goesL_ (some 36) rfl rfl Try.func85 (by kernel_rfl) rfl #[.slice (some ⟨go17, 0, none⟩) y527.length co28, .slice A1 l1.length c1] rfl (by (try simp only [List.map_toArray, List.map_cons, List.map_nil]); first | done | (rw [show y527.length = t522.length from (Kd.R_reads' HQ29.out).1.symm] <;> rfl) | rfl | (simp only [List.length_drop, List.length_take]; rfl)) ?_; (with_reducible refine (computusref01_cmp.calls k1 _ _ y527 _ _ l1 t528 _ ?side1 ?side2 ?side3 ?side4 A18.out).mono ?_); (case side1 => refine (Kd.R_reads' (e := 75) (base := w.heap.size) (ok := fun k_ => ((True ∧ some k_ ≠ (v517 : Value).ownBlock) ∧ some k_ ≠ (.slice Ao25 x7_1.length co25 : Value).ownBlock)) (n := t522.length) (c := co28) ?_).2.2; exact (by (with_reducible repeat (first | apply Kd.R_alloc | apply Kd.R_drewN | apply Kd.R_drew)); exact HQ29.out)); (case side2 => rw [show y527.length = t522.length from (Kd.R_reads' HQ29.out).1.symm]; exact (Kd.R_reads' HO524.out).2.1); (case side3 => exact Kd.C_below HR1.out (by repeat (first | (with_reducible first | exact HB.out | apply kG | apply kD | apply kF | refine kA ?_ GB17.out) | exact HB.out))); (case side4 => exact HC1.out); rintro e w' ⟨rfl, ⟨nd, rfl⟩⟩; refine ⟨_, rfl, ?_⟩) | ((with_reducible refine kL (f := 86) rfl ?_); refine goesL_ (some 40) rfl rfl Try.func86 (by kernel_rfl) rfl #[.slice (some ⟨go17, 0, none⟩) y527.length co28, .slice A1 l1.length c1] rfl (by (try simp only [List.map_toArray, List.map_cons, List.map_nil]); first | done | (rw [show y527.length = t522.length from (Kd.R_reads' HQ29.out).1.symm] <;> rfl) | rfl | (simp only [List.length_drop, List.length_take]; rfl)) ?_; (with_reducible refine (computusref01_less.calls k1 _ _ y527 _ _ l1 t529 _ ?side1 ?side2 ?side3 ?side4 A20.out).mono ?_); (case side1 => refine (Kd.R_reads' (e := 75) (base := w.heap.size) (ok := fun k_ => ((True ∧ some k_ ≠ (v517 : Value).ownBlock) ∧ some k_ ≠ (.slice Ao25 x7_1.length co25 : Value).ownBlock)) (n := t522.length) (c := co28) ?_).2.2; exact (by (with_reducible repeat (first | apply Kd.R_alloc | apply Kd.R_drewN | apply Kd.R_drew)); exact HQ29.out)); (case side2 => rw [show y527.length = t522.length from (Kd.R_reads' HQ29.out).1.symm]; exact (Kd.R_reads' HO524.out).2.1); (case side3 => exact Kd.C_below HR1.out (by repeat (first | (with_reducible first | exact HB.out | apply kG | apply kD | apply kF | refine kA ?_ GB17.out) | exact HB.out))); (case side4 => exact HC1.out); rintro e w30 ⟨v530, rfl, ho0, hb⟩; refine ⟨_, rfl, ?_⟩; have n0_ := Aside0.mk (Kd.R_elder' (by (with_reducible repeat (first | apply Kd.R_alloc | apply Kd.R_drewN | apply Kd.R_drew)); exact (Kd.R_mono (Kd.R_far (p := ⟨go17, 0, none⟩) (Kd.R_mono HO_6.out (fun k_ hk => (⟨hk, fun e_ => hk.2 (by rw [e_]; rfl)⟩ : _ ∧ k_ ≠ go17))) (fun _ hk => hk.2) (.int .u64 (Go.bits .or .u64 (rd t522 0) (Go.bits .and .u64 (ji16) 1)))) (fun _ h_ => h_.1))) (Kd.R_base ho0) hb); have n1_ := Aside0.mk (Kd.R_elder' (by (with_reducible repeat (first | apply Kd.R_alloc | apply Kd.R_drewN | apply Kd.R_drew)); exact (Kd.R_mono (Kd.R_far (p := ⟨go17, 0, none⟩) (Kd.R_mono HO_7.out (fun k_ hk => (⟨hk, fun e_ => hk.2 (by rw [e_]; rfl)⟩ : _ ∧ k_ ≠ go17))) (fun _ hk => hk.2) (.int .u64 (Go.bits .or .u64 (rd t522 0) (Go.bits .and .u64 (ji16) 1)))) (fun _ h_ => h_.1))) (Kd.R_base ho0) hb); have n2_ := Aside0.mk (Kd.R_elder' (by (with_reducible repeat (first | apply Kd.R_alloc | apply Kd.R_drewN | apply Kd.R_drew)); exact HQ29.out) (Kd.R_base ho0) hb); have n3_ := Aside0.mk (Kd.R_lower (Kd.R_new' (Kd.R_new' (Kd.R_new' ho0 (Kd.R_lt (by (with_reducible repeat (first | apply Kd.R_alloc | apply Kd.R_drewN | apply Kd.R_drew)); exact (Kd.R_mono (Kd.R_far (p := ⟨go17, 0, none⟩) (Kd.R_mono HO_6.out (fun k_ hk => (⟨hk, fun e_ => hk.2 (by rw [e_]; rfl)⟩ : _ ∧ k_ ≠ go17))) (fun _ hk => hk.2) (.int .u64 (Go.bits .or .u64 (rd t522 0) (Go.bits .and .u64 (ji16) 1)))) (fun _ h_ => h_.1))))) (Kd.R_lt (by (with_reducible repeat (first | apply Kd.R_alloc | apply Kd.R_drewN | apply Kd.R_drew)); exact (Kd.R_mono (Kd.R_far (p := ⟨go17, 0, none⟩) (Kd.R_mono HO_7.out (fun k_ hk => (⟨hk, fun e_ => hk.2 (by rw [e_]; rfl)⟩ : _ ∧ k_ ≠ go17))) (fun _ hk => hk.2) (.int .u64 (Go.bits .or .u64 (rd t522 0) (Go.bits .and .u64 (ji16) 1)))) (fun _ h_ => h_.1))))) (Kd.R_lt (by (with_reducible repeat (first | apply Kd.R_alloc | apply Kd.R_drewN | apply Kd.R_drew)); exact HQ29.out))) (kK (by repeat (first | (with_reducible first | exact HB.out | apply kG | apply kD | apply kF | refine kA ?_ GB17.out) | exact HB.out)))); have n4_ := Aside0.mk (kM (by repeat (first | (with_reducible first | exact HB.out | apply kG | apply kD | apply kF | refine kA ?_ GB17.out) | exact HB.out)) hb); clear HO_6; clear HO_7; clear HO524; clear HB; have HO_6 := n0_; have HO_7 := n1_; have HO524 := n2_; have HO531 := n3_; have HB := n4_; clear n0_ n1_ n2_ n3_ n4_; (try clear hb); (try clear hb2); (try clear hk); (try clear hi); (try clear ho0); obtain ⟨Ao31, co31, eo31⟩ := Kd.R_slice HO_6.out; subst eo31; have p532 : 0 ≤ ((ji11) : Int) := of_decide_eq_true (by first | (with_reducible assumption) | assumption); have q532 : (ji11) < (x6_1.length : Int) := of_decide_eq_true (by first | (with_reducible assumption) | assumption); obtain ⟨ad532, e532, hx532_0⟩ := Kd.at_int (Kd.R_reads' HO_6.out).2.2 (ji11) p532 q532; cases e532; replace p532 := eq_true p532; replace q532 := eq_true q532; have p24 : 0 ≤ ((ji11) : Int) := of_decide_eq_true (by first | (with_reducible assumption) | assumption); have q24 : ((ji11) : Int) < ((x6_1.length : Int) : Int) := of_decide_eq_true (by first | (with_reducible assumption) | assumption); obtain ⟨go24, co24, eo24, gb24, gl24, cl24, HG24⟩ := Kd.R_form HO_6.out (by omega); (first | cases eo24 | (injection eo24 with ea_ en_ ec_; (first | subst ea_ | (injection ea_ with ea_; subst ea_)); subst ec_; clear en_)); have GB24 := Aside0.mk gb24; have GG24 := Aside0.mk HG24; clear gb24 gl24 HG24; (first | simp only [add_plain] at hx532_0 | skip); obtain ⟨hx24_0, hf24_0⟩ := Kd.R_celln 0 HO_6.out ((ji11) : Int) p24 q24; replace p24 := eq_true p24; replace q24 := eq_true q24; have n_ := Aside0.mk (Kd.R_mono (ok' := (fun k_ => some k_ ≠ (.slice Ao25 x7_1.length co25 : Value).ownBlock ∧ some k_ ≠ (.slice (some ⟨go17, 0, none⟩) t522.length co28 : Value).ownBlock ∧ some k_ ≠ (v530 : Value).ownBlock)) HO_6.out (fun k_ hk => ⟨hk.1.1, ⟨hk.1.2, hk.2⟩⟩)); clear HO_6; have HO_6 := n_; clear n_; obtain ⟨hy32_, hz32_⟩ := Kd.R_celln 0 HO_6.out ((ji11) : Int) (of_decide_eq_true (by first | (with_reducible assumption) | assumption)) (of_decide_eq_true (by first | (with_reducible assumption) | assumption)); have HP32 := Kd.R_putg HO_6.out ((ji11) : Int) (Go.bits .or .u64 (rd x6_1 (ji11)) (ji23))) | ((with_reducible refine gate_store (t := 75) (p := 54) rfl ?_); refine store_event (t := 75) (p := 54) (v := ?vo_w33) (w1 := (w30.setCell ⟨go24, ((ji11) : Int).toNat, none⟩ (.int .u64 (Go.bits .or .u64 (rd x6_1 (ji11)) (ji23))))) ?hg ?ho ?hn ?hr ?_; (case ho => rfl); (case hg => rfl); (case hn => rfl); (case hr => first | (go_simp; done) | (go_simp; rfl)); intro w33 hw; have hg : w30.grownBy w33 (some go24) := (by rw [hw]; exact HP32.2); have hp_ : Kd.R (Kd.int .u64) 75 w33 w.heap.size (fun k_ => some k_ ≠ (.slice Ao25 x7_1.length co25 : Value).ownBlock ∧ some k_ ≠ (.slice (some ⟨go17, 0, none⟩) t522.length co28 : Value).ownBlock ∧ some k_ ≠ (v530 : Value).ownBlock) (.slice (some ⟨go24, 0, none⟩) x6_1.length co31) y533 := (by rw [hw, Ny533.out]; exact HP32.1); clear HP32; have n0_ := Aside0.mk (hp_); have n1_ := Aside0.mk (Kd.R_after (v := (.slice (some ⟨go24, 0, none⟩) x6_1.length co31)) (v1 := (.slice (some ⟨go24, 0, none⟩) x6_1.length co31)) (ok := (fun k_ => some k_ ≠ (.slice (some ⟨go17, 0, none⟩) t522.length co28 : Value).ownBlock ∧ some k_ ≠ (v530 : Value).ownBlock)) (by (with_reducible repeat (first | apply Kd.R_alloc | apply Kd.R_drewN | apply Kd.R_drew)); exact Kd.R_mono HO_7.out (fun _ hk => ⟨⟨hk.1.2, hk.2⟩, hk.1.1⟩)) hg (.inl rfl)); have n2_ := Aside0.mk (Kd.R_after (v := (.slice (some ⟨go24, 0, none⟩) x6_1.length co31)) (v1 := (.slice (some ⟨go24, 0, none⟩) x6_1.length co31)) (ok := (fun k_ => some k_ ≠ (.slice Ao25 x7_1.length co25 : Value).ownBlock ∧ some k_ ≠ (v530 : Value).ownBlock)) (by (with_reducible repeat (first | apply Kd.R_alloc | apply Kd.R_drewN | apply Kd.R_drew)); exact Kd.R_mono HO524.out (fun _ hk => ⟨⟨hk.1.2, hk.2⟩, hk.1.1.2⟩)) hg (.inl rfl)); have n3_ := Aside0.mk (Kd.R_after (v := (.slice (some ⟨go24, 0, none⟩) x6_1.length co31)) (v1 := (.slice (some ⟨go24, 0, none⟩) x6_1.length co31)) (ok := (fun k_ => some k_ ≠ (.slice Ao25 x7_1.length co25 : Value).ownBlock ∧ some k_ ≠ (.slice (some ⟨go17, 0, none⟩) t522.length co28 : Value).ownBlock)) (by (with_reducible repeat (first | apply Kd.R_alloc | apply Kd.R_drewN | apply Kd.R_drew)); exact Kd.R_mono HO531.out (fun _ hk => ⟨⟨hk.1.2, hk.2⟩, hk.1.1.2⟩)) hg (.inl rfl)); have n4_ := Aside0.mk ((by rw [hw]; exact kA (HB.out) GB24.out : Below w.heap.size w w33)); clear HO_6; clear HO_7; clear HO524; clear HO531; clear HB; have HO_6 := n0_; have HO_7 := n1_; have HO524 := n2_; have HO531 := n3_; have HB := n4_; clear n0_ n1_ n2_ n3_ n4_; clear hg hw hp_))
                      go_roundg k1
                      case measure => have := HK1.out; omega
                      case rel => exact ⟨(y533), (t529), (wrap64 (x8_1 - 1)), (by first | rfl | (simp; done) | (simp [*]; done)), H', ⟨by have := HK1.out; omega⟩, ⟨by (with_reducible repeat (first | apply Kd.R_alloc | apply Kd.R_drewN | apply Kd.R_drew)); exact Kd.R_mono HO_6.out (fun _ hk => hk.2.2)⟩, ⟨by (with_reducible repeat (first | apply Kd.R_alloc | apply Kd.R_drewN | apply Kd.R_drew)); exact Kd.R_mono HO531.out (fun _ hk => hk.2)⟩, ⟨by repeat (first | (with_reducible first | exact HB.out | apply kG | apply kD | apply kF) | exact HB.out)⟩⟩
                    · rw [if_neg c21] at H
                      exact absurd H (by simp)
                  · rw [if_neg c19] at H
                    have c19b0 : decide (0 ≤ t528) = false := decide_eq_false c19
                    clear c19
                    have H' := Aside0.mk H
                    clear H
                    obtain ⟨Ao34, co34, eo34⟩ := Kd.R_slice HO_7.out
                    subst eo34
                    try go_wp2_with (first | ((with_reducible refine kL (f := 84) rfl ?_); refine goesL_ (some 17) rfl rfl Try.func84 (by kernel_rfl) rfl #[.slice Ao34 x7_1.length co34, .slice Ao34 x7_1.length co34] rfl (by (try simp only [List.map_toArray, List.map_cons, List.map_nil]); first | done | rfl | (simp only [List.length_drop, List.length_take]; rfl)) ?_; (with_reducible refine (computusref01_add.calls k1 _ _ x7_1 _ _ x7_1 t522 _ ?side1 ?side2 ?side3 ?side4 A9.out).mono ?_); (case side1 => repeat (first | exact (Kd.R_reads' HO_7.out).2.2 | (with_reducible refine Kd.C_alloc ?_ _) | (with_reducible refine Kd.C_drewN ?_ _) | (with_reducible refine Kd.C_drew ?_))); (case side2 => exact (Kd.R_reads' HO_7.out).2.1); (case side3 => repeat (first | exact (Kd.R_reads' HO_7.out).2.2 | (with_reducible refine Kd.C_alloc ?_ _) | (with_reducible refine Kd.C_drewN ?_ _) | (with_reducible refine Kd.C_drew ?_))); (case side4 => exact (Kd.R_reads' HO_7.out).2.1); rintro e w35 ⟨v523, rfl, ho0, hb⟩; refine ⟨_, rfl, ?_⟩; have n0_ := Aside0.mk (Kd.R_elder' (by (with_reducible repeat (first | apply Kd.R_alloc | apply Kd.R_drewN | apply Kd.R_drew)); exact HO_6.out) (Kd.R_base ho0) hb); have n1_ := Aside0.mk (Kd.R_elder' (by (with_reducible repeat (first | apply Kd.R_alloc | apply Kd.R_drewN | apply Kd.R_drew)); exact HO_7.out) (Kd.R_base ho0) hb); have n2_ := Aside0.mk (Kd.R_lower (Kd.R_new' (Kd.R_new' ho0 (Kd.R_lt (by (with_reducible repeat (first | apply Kd.R_alloc | apply Kd.R_drewN | apply Kd.R_drew)); exact HO_6.out))) (Kd.R_lt (by (with_reducible repeat (first | apply Kd.R_alloc | apply Kd.R_drewN | apply Kd.R_drew)); exact HO_7.out))) (kK (by repeat (first | (with_reducible first | exact HB.out | apply kG | apply kD | apply kF) | exact HB.out)))); have n3_ := Aside0.mk (kM (by repeat (first | (with_reducible first | exact HB.out | apply kG | apply kD | apply kF) | exact HB.out)) hb); clear HO_6; clear HO_7; clear HB; have HO_6 := n0_; have HO_7 := n1_; have HO524 := n2_; have HB := n3_; clear n0_ n1_ n2_ n3_; (try clear hb); (try clear hb2); (try clear hk); (try clear hi); (try clear ho0)))
                    have n0_ := Aside0.mk (Kd.R_drew HO_6.out)
                    have n1_ := Aside0.mk (Kd.R_drew HO_7.out)
                    have n2_ := Aside0.mk (Kd.R_drew HO524.out)
                    have n3_ := Aside0.mk (kF HB.out)
                    clear HO_6
                    clear HO_7
                    clear HO524
                    clear HB
                    have HO_6 := n0_
                    have HO_7 := n1_
                    have HO524 := n2_
                    have HB := n3_
                    clear n0_ n1_ n2_ n3_
                    obtain ⟨Ao37, co37, eo37⟩ := Kd.R_slice HO524.out
                    (first | subst eo37 | (injection eo37 with f1_ f2_ f3_; have f4_ := f1_.symm; have f5_ := f3_.symm; clear f1_ f2_ f3_; subst f4_; subst f5_))
                    have p525 : 0 ≤ (0 : Int) := (by omega)
                    have q525 : 0 < (t522.length : Int) := of_decide_eq_true (by first | (with_reducible assumption) | assumption)
                    obtain ⟨ad525, e525, hx525_0⟩ := Kd.at_int (Kd.R_reads' HO524.out).2.2 0 p525 q525
                    cases e525
                    have qi525 : (0 < t522.length) = True := eq_true (by omega)
                    (try rw [show ((0 : Int)).toNat = 0 from rfl] at hx525_0)
                    (try rw [Addr.add_zero'] at hx525_0)
                    replace p525 := eq_true p525
                    replace q525 := eq_true q525
                    have p526 : 0 ≤ ((ji11) : Int) := of_decide_eq_true (by first | (with_reducible assumption) | assumption)
                    have q526 : (ji11) < (l0.length : Int) := of_decide_eq_true (by first | (with_reducible assumption) | assumption)
                    obtain ⟨ad526, e526, hx526_0⟩ := Kd.at_int HR0.out (ji11) p526 q526
                    have hw526_0 := hx526_0
                    cases e526
                    replace hx526_0 := (HB.out.cell (World.block_lt_of_cell? w _ hx526_0)).trans hx526_0
                    replace p526 := eq_true p526
                    replace q526 := eq_true q526
                    have p17 : 0 ≤ (0 : Int) := (by omega)
                    have q17 : (0 : Int) < ((t522.length : Int) : Int) := of_decide_eq_true (by first | (with_reducible assumption) | assumption)
                    have qi17 : (0 < t522.length) = True := eq_true (by omega)
                    obtain ⟨go17, co17, eo17, gb17, gl17, cl17, HG17⟩ := Kd.R_form HO524.out (by omega)
                    (first | cases eo17 | (injection eo17 with ea_ en_ ec_; (first | subst ea_ | (injection ea_ with ea_; subst ea_)); subst ec_; clear en_))
                    have GB17 := Aside0.mk gb17
                    have GG17 := Aside0.mk HG17
                    clear gb17 gl17 HG17
                    (first | simp only [add_plain] at hx525_0 | skip)
                    obtain ⟨hx17_0, hf17_0⟩ := Kd.R_celln 0 HO524.out (0 : Int) p17 q17
                    (try rw [show ((0 : Int)).toNat = 0 from rfl] at hx17_0)
                    (try simp only [Nat.reduceMul, Nat.zero_mul, Nat.zero_add, Nat.reduceAdd] at hx17_0)
                    (try rw [show ((0 : Int)).toNat = 0 from rfl] at hf17_0)
                    (try simp only [Nat.reduceMul, Nat.zero_mul, Nat.zero_add, Nat.reduceAdd] at hf17_0)
                    replace p17 := eq_true p17
                    replace q17 := eq_true q17
                    have HP38 := Kd.R_putn HO524.out (0 : Int) (Go.bits .or .u64 (rd t522 0) (Go.bits .and .u64 (ji16) 1))
                    rw [← Ny527.out] at HP38
                    have HQ38 := Aside0.mk HP38
                    clear HP38
                    refine start_ (n := 17) (S := fun w' => w'.cell? ⟨go17, 0, none⟩ = some (.int .u64 (rd t522 0)) ∧ w'.cell? (ad526.add ((ji11)).toNat) = some (.int .u64 (rd l0 (ji11)))) (ds := [16]) #[false, false, false, false, false, false, false, false, false, false, false, false, false, false, false, false, false] (by kernel_rfl) rfl rfl ⟨hx525_0, ((HB.out.cell (World.block_lt_of_cell? w _ hw526_0)).trans hw526_0)⟩ (fun hHeld => ?_); refine with_tabW computusref01_divide.tab7 computusref01_divide.bits7 (fun HT_ HW_ => ?_)
                    generalize w35.drew = w36 at HO_6 HO_7 HO524 HB GG17 HQ38 hf17_0 hx17_0 hx525_0 hx526_0 hHeld ⊢
                    refine pure_ (i := 0) (N := some 18) (v := ?_) (a' := ?_) #[true, false, false, false, false, false, false, false, false, false, false, false, false, false, false, false, false] rfl rfl (kQ HT_.out (by kernel_rfl)) (fun _ _ _ h => h) (Or.inl ⟨by rfl, ?_⟩) ?_ ?_
                    rotate_left
                    · intro w'
                      go_simp
                      with_reducible rfl
                    rotate_left
                    · simp only [Act.put, List.setIfInBounds_toArray, List.set_cons_zero, List.set_cons_succ, kN, kO]
                      rfl
                    refine pure_ (i := 1) (N := some 19) (v := ?_) (a' := ?_) #[true, true, false, false, false, false, false, false, false, false, false, false, false, false, false, false, false] rfl rfl (kQ HT_.out (by kernel_rfl)) (fun _ _ _ h => h) (Or.inl ⟨by rfl, ?_⟩) ?_ ?_
                    rotate_left
                    · intro w'
                      go_simp
                      with_reducible rfl
                    rotate_left
                    · simp only [Act.put, List.setIfInBounds_toArray, List.set_cons_zero, List.set_cons_succ, kN, kO]
                      rfl
                    refine pure_ (i := 2) (N := some 20) (v := ?_) (a' := ?_) #[true, true, true, false, false, false, false, false, false, false, false, false, false, false, false, false, false] rfl rfl (kQ HT_.out (by kernel_rfl)) (fun _ _ _ h => h) (Or.inl ⟨by rfl, ?_⟩) ?_ ?_
                    rotate_left
                    · intro w'
                      go_simp
                      with_reducible rfl
                    rotate_left
                    · simp only [Act.put, List.setIfInBounds_toArray, List.set_cons_zero, List.set_cons_succ, kN, kO]
                      rfl
                    refine pure_ (i := 4) (N := some 22) (v := ?_) (a' := ?_) #[true, true, true, false, true, false, false, false, false, false, false, false, false, false, false, false, false] rfl rfl (kQ HT_.out (by kernel_rfl)) (fun _ _ _ h => h) (Or.inl ⟨by rfl, ?_⟩) ?_ ?_
                    rotate_left
                    · intro w'
                      go_simp
                      with_reducible rfl
                    rotate_left
                    · simp only [Act.put, List.setIfInBounds_toArray, List.set_cons_zero, List.set_cons_succ, kN, kO]
                      rfl
                    refine pure_ (i := 5) (N := some 23) (v := ?_) (a' := ?_) #[true, true, true, false, true, true, false, false, false, false, false, false, false, false, false, false, false] rfl rfl (kQ HT_.out (by kernel_rfl)) (fun _ _ _ h => h) (Or.inl ⟨by rfl, ?_⟩) ?_ ?_
                    rotate_left
                    · intro w'
                      go_simp
                      with_reducible rfl
                    rotate_left
                    · simp only [Act.put, List.setIfInBounds_toArray, List.set_cons_zero, List.set_cons_succ, kN, kO]
                      rfl
                    refine pure_ (i := 6) (N := some 24) (v := ?_) (a' := ?_) #[true, true, true, false, true, true, true, false, false, false, false, false, false, false, false, false, false] rfl rfl (kQ HT_.out (by kernel_rfl)) (fun _ _ _ h => h) (Or.inl ⟨by rfl, ?_⟩) ?_ ?_
                    rotate_left
                    · intro w'
                      go_simp
                      with_reducible rfl
                    rotate_left
                    · simp only [Act.put, List.setIfInBounds_toArray, List.set_cons_zero, List.set_cons_succ, kN, kO]
                      rfl
                    refine pure_ (i := 7) (N := some 25) (v := ?_) (a' := ?_) #[true, true, true, false, true, true, true, true, false, false, false, false, false, false, false, false, false] rfl rfl (kQ HT_.out (by kernel_rfl)) (fun _ _ _ h => h) (Or.inl ⟨by rfl, ?_⟩) ?_ ?_
                    rotate_left
                    · intro w'
                      go_simp
                      with_reducible rfl
                    rotate_left
                    · simp only [Act.put, List.setIfInBounds_toArray, List.set_cons_zero, List.set_cons_succ, kN, kO]
                      rfl
                    refine pure_ (i := 9) (N := some 27) (v := ?_) (a' := ?_) #[true, true, true, false, true, true, true, true, false, true, false, false, false, false, false, false, false] rfl rfl (kQ HT_.out (by kernel_rfl)) (fun _ _ _ h => h) (Or.inl ⟨by rfl, ?_⟩) ?_ ?_
                    rotate_left
                    · intro w'
                      go_simp
                      with_reducible rfl
                    rotate_left
                    · simp only [Act.put, List.setIfInBounds_toArray, List.set_cons_zero, List.set_cons_succ, kN, kO]
                      rfl
                    refine pure_ (i := 10) (N := some 28) (v := ?_) (a' := ?_) #[true, true, true, false, true, true, true, true, false, true, true, false, false, false, false, false, false] rfl rfl (kQ HT_.out (by kernel_rfl)) (fun _ _ _ h => h) (Or.inl ⟨by rfl, ?_⟩) ?_ ?_
                    rotate_left
                    · intro w'
                      go_simp
                      with_reducible rfl
                    rotate_left
                    · simp only [Act.put, List.setIfInBounds_toArray, List.set_cons_zero, List.set_cons_succ, kN, kO]
                      rfl
                    refine pure_ (i := 11) (N := some 29) (v := ?_) (a' := ?_) #[true, true, true, false, true, true, true, true, false, true, true, true, false, false, false, false, false] rfl rfl (kQ HT_.out (by kernel_rfl)) (fun _ _ _ h => h) (Or.inl ⟨by rfl, ?_⟩) ?_ ?_
                    rotate_left
                    · intro w'
                      go_simp
                      with_reducible rfl
                    rotate_left
                    · simp only [Act.put, List.setIfInBounds_toArray, List.set_cons_zero, List.set_cons_succ, kN, kO]
                      rfl
                    refine take_ (i := 3) (N := some 21) (v := ?_) (a' := ?_) #[true, true, true, true, true, true, true, true, false, true, true, true, false, false, false, false, false] rfl rfl (take_ofW HT_.out HW_.out (by kernel_rfl)) (fun _ _ _ h => h) (Or.inl ⟨by rfl, ?_⟩) hHeld ?_ ?_
                    rotate_left
                    · rintro w' ⟨s0, s1⟩
                      go_simp
                      with_reducible rfl
                    rotate_left
                    · simp only [Act.put, List.setIfInBounds_toArray, List.set_cons_zero, List.set_cons_succ, kN, kO]
                      rfl
                    refine take_ (i := 8) (N := some 26) (v := ?_) (a' := ?_) #[true, true, true, true, true, true, true, true, true, true, true, true, false, false, false, false, false] rfl rfl (take_ofW HT_.out HW_.out (by kernel_rfl)) (fun _ _ _ h => h) (Or.inl ⟨by rfl, ?_⟩) hHeld ?_ ?_
                    rotate_left
                    · rintro w' ⟨s0, s1⟩
                      go_simp
                      with_reducible rfl
                    rotate_left
                    · simp only [Act.put, List.setIfInBounds_toArray, List.set_cons_zero, List.set_cons_succ, kN, kO]
                      rfl
                    refine pure_ (i := 12) (N := some 30) (v := ?_) (a' := ?_) #[true, true, true, true, true, true, true, true, true, true, true, true, true, false, false, false, false] rfl rfl (kQ HT_.out (by kernel_rfl)) (fun _ _ _ h => h) (Or.inl ⟨by rfl, ?_⟩) ?_ ?_
                    rotate_left
                    · intro w'
                      go_simp
                      with_reducible rfl
                    rotate_left
                    · simp only [Act.put, List.setIfInBounds_toArray, List.set_cons_zero, List.set_cons_succ, kN, kO]
                      rfl
                    refine pure_ (i := 13) (N := some 31) (v := ?_) (a' := ?_) #[true, true, true, true, true, true, true, true, true, true, true, true, true, true, false, false, false] rfl rfl (kQ HT_.out (by kernel_rfl)) (fun _ _ _ h => h) (Or.inl ⟨by rfl, ?_⟩) ?_ ?_
                    rotate_left
                    · intro w'
                      go_simp
                      with_reducible rfl
                    rotate_left
                    · simp only [Act.put, List.setIfInBounds_toArray, List.set_cons_zero, List.set_cons_succ, kN, kO]
                      rfl
                    refine pure_ (i := 14) (N := some 32) (v := ?_) (a' := ?_) #[true, true, true, true, true, true, true, true, true, true, true, true, true, true, true, false, false] rfl rfl (kQ HT_.out (by kernel_rfl)) (fun _ _ _ h => h) (Or.inl ⟨by rfl, ?_⟩) ?_ ?_
                    rotate_left
                    · intro w'
                      go_simp
                      with_reducible rfl
                    rotate_left
                    · simp only [Act.put, List.setIfInBounds_toArray, List.set_cons_zero, List.set_cons_succ, kN, kO]
                      rfl
                    refine pure_ (i := 15) (N := some 33) (v := ?_) (a' := ?_) #[true, true, true, true, true, true, true, true, true, true, true, true, true, true, true, true, false] rfl rfl (kQ HT_.out (by kernel_rfl)) (fun _ _ _ h => h) (Or.inl ⟨by rfl, ?_⟩) ?_ ?_
                    rotate_left
                    · intro w'
                      go_simp
                      with_reducible rfl
                    rotate_left
                    · simp only [Act.put, List.setIfInBounds_toArray, List.set_cons_zero, List.set_cons_succ, kN, kO]
                      rfl
                    refine last_ (i := 16) (N := none) #[true, true, true, true, true, true, true, true, true, true, true, true, true, true, true, true, true] rfl rfl (one_of HT_.out (by kernel_rfl)) (by decide) (fun K hK => ?_)
                    refine skip_ (w1 := ?_) (by rfl) rfl ?_ ?_
                    rotate_left
                    · go_simp
                      rfl
                    refine hK.out _ _ ?_
                    clear hK K
                    refine done_ (done_of HT_.out (by kernel_rfl)) ?_
                    try go_wp2_with (first | ((with_reducible refine kL (f := 85) rfl ?_); refine goesL_ (some 36) rfl rfl Try.func85 (by kernel_rfl) rfl #[.slice (some ⟨go17, 0, none⟩) y527.length co37, .slice A1 l1.length c1] rfl (by (try simp only [List.map_toArray, List.map_cons, List.map_nil]); first | done | (rw [show y527.length = t522.length from (Kd.R_reads' HQ38.out).1.symm] <;> rfl) | rfl | (simp only [List.length_drop, List.length_take]; rfl)) ?_; (with_reducible refine (computusref01_cmp.calls k1 _ _ y527 _ _ l1 t528 _ ?side1 ?side2 ?side3 ?side4 A18.out).mono ?_); (case side1 => refine (Kd.R_reads' (e := 75) (base := w.heap.size) (ok := fun k_ => ((True ∧ some k_ ≠ (v517 : Value).ownBlock) ∧ some k_ ≠ (.slice Ao34 x7_1.length co34 : Value).ownBlock)) (n := t522.length) (c := co37) ?_).2.2; exact (by (with_reducible repeat (first | apply Kd.R_alloc | apply Kd.R_drewN | apply Kd.R_drew)); exact HQ38.out)); (case side2 => rw [show y527.length = t522.length from (Kd.R_reads' HQ38.out).1.symm]; exact (Kd.R_reads' HO524.out).2.1); (case side3 => exact Kd.C_below HR1.out (by repeat (first | (with_reducible first | exact HB.out | apply kG | apply kD | apply kF | refine kA ?_ GB17.out) | exact HB.out))); (case side4 => exact HC1.out); rintro e w' ⟨rfl, ⟨nd, rfl⟩⟩; refine ⟨_, rfl, ?_⟩))
                    go_roundg k1
                    case measure => have := HK1.out; omega
                    case rel => exact ⟨(x6_1), (y527), (wrap64 (x8_1 - 1)), (by first | rfl | (simp; done) | (simp [*]; done)), H', ⟨by have := HK1.out; omega⟩, ⟨by (with_reducible repeat (first | apply Kd.R_alloc | apply Kd.R_drewN | apply Kd.R_drew)); exact Kd.R_mono (Kd.R_far (p := ⟨go17, 0, none⟩) (Kd.R_mono HO_6.out (fun k_ hk => (⟨hk, fun e_ => hk.2 (by rw [e_]; rfl)⟩ : _ ∧ k_ ≠ go17))) (fun _ hk => hk.2) (.int .u64 (Go.bits .or .u64 (rd t522 0) (Go.bits .and .u64 (ji16) 1)))) (fun _ hk => hk.1.2)⟩, ⟨by (with_reducible repeat (first | apply Kd.R_alloc | apply Kd.R_drewN | apply Kd.R_drew)); exact Kd.R_mono HQ38.out (fun _ hk => hk.1.2)⟩, ⟨by repeat (first | (with_reducible first | exact HB.out | apply kG | apply kD | apply kF | refine kA ?_ GB17.out) | exact HB.out)⟩⟩
                · rw [if_neg c15] at H
                  exact absurd H (by simp)
              · rw [if_neg c13] at H
                exact absurd H (by simp)
            · rw [if_neg c12] at H
              exact absurd H (by simp)
          · rw [if_neg c10] at H
            exact absurd H (by simp)
        · rw [if_neg c8] at H
          have c8b0 : decide (0 ≤ x8_1) = false := decide_eq_false c8
          clear c8
          simp only [Option.some.injEq, Prod.mk.injEq] at H
          obtain ⟨rfl, rfl⟩ := H
          go_wp2
          go_ret2
          exact ⟨_, _, by first | rfl | (simp [errW_none, errW_some] <;> rfl) | (simp [*, errW_none, errW_some] <;> rfl), by (with_reducible repeat (first | apply Kd.R_alloc | apply Kd.R_drewN | apply Kd.R_drew)); exact HO_6.out, by (with_reducible repeat (first | apply Kd.R_alloc | apply Kd.R_drewN | apply Kd.R_drew)); exact HO_7.out, by repeat (first | (with_reducible first | exact HB.out | apply kG | apply kD | apply kF) | exact HB.out)⟩
  · rw [if_neg c3] at H
    exact absurd H (by simp)
end Go.Proofs.Ytgjbdojpncmmlaa.P
namespace Go.Proofs.Ytgjbdojpncmmlaa.P
open Go.RowKit Go.Proofs.YtgjbdojpncmmlaaW.PrintWords Go.Proofs.YtgjbdojpncmmlaaW.PrintLast Go.Proofs.YtgjbdojpncmmlaaW.PrintMore
attribute [local go_sem] max2_int min2_int max_two min_two max_three min_three max_four min_four   -- for this text's walks alone
set_option linter.unusedVariables false
set_option linter.unusedSimpArgs false
def computusref01_zero.f (k : Nat) (l0 : List Int) : Option (Bool) := if 6 ≤ 35184372088832 then ((computusref01_cmp.f k l0 (List.replicate 6 0)).bind fun t537 => (some (t537 == 0))) else (none)
set_option maxHeartbeats 8000000 in
set_option maxRecDepth 100000 in
theorem computusref01_zero.calls (k : Nat) (A0 : Option Addr) (c0 : Nat) (l0 : List Int) (r : Bool) (w : World) (hr0 : Kd.C (Kd.int .u64) w A0 l0.length l0) (hc0 : l0.length ≤ c0) (h : computusref01_zero.f k l0 = some r) :
    Calls Try.prog 96 #[.slice A0 l0.length c0] w fun e w' => e = .returned (.bool r) ∧ Below w.heap.size w w' := by
  have HR0 := Aside0.mk hr0
  have HC0 := Aside0.mk hc0
  clear hr0 hc0
  have HB := Aside0.mk (Below.refl w.heap.size w)
  have H : (if 6 ≤ 35184372088832 then ((computusref01_cmp.f k l0 (List.replicate 6 0)).bind fun t537 => (some (t537 == 0))) else (none)) = some r := h
  clear h
  by_cases c2 : 6 ≤ 35184372088832
  · rw [if_pos c2] at H
    have c2b0 := eq_true c2
    have c2b1 : decide (6 ≤ 35184372088832) = true := decide_eq_true c2
    clear c2
    obtain ⟨y534, hy534⟩ : ∃ y_ : List Int, y_ = (List.replicate 6 0) := ⟨_, rfl⟩
    replace H : ((computusref01_cmp.f k l0 y534).bind fun t537 => (some (t537 == 0))) = some r := by first | (rw [hy534]; with_reducible exact H) | (have H2_ := (Option.bind_some _ _).symm.trans H; rw [hy534]; with_reducible exact H2_) | (have H2_ := (Option.bind_some _ _).symm.trans H; with_reducible exact H2_) | with_reducible exact H | (rw [hy534]; exact H) | exact H
    have Ny534 := Aside0.mk hy534
    clear hy534
    replace H := Option.bind_eq_some_iff.mp H
    obtain ⟨t537, A30, H⟩ := H
    replace H : (some (t537 == 0)) = some r := H
    have A3 := Aside0.mk A30
    clear A30
    obtain rfl := Option.some.inj H
    go_enter Try.func96, Try.ntmps96
    go_wp2_with (first | ((with_reducible refine gate_dst (N := 4) rfl ?_); refine Kd.R_make (Kd.int .u64) _ 75 rfl (N := 4) rfl 68 _ _ rfl 6 rfl rfl Try.underlying68 (.int .u64 0) 8 info75 rfl (by decide) (by omega) 0 (ok := fun _ => True) (okp := fun _ => True) rfl (fun _ hk => hk) trivial (by omega) (by omega) (Below.refl _ _) (Nat.le_refl _) ?_; intro v535 w4 ho5 hb hg_ hnew_; clear hg_ hnew_; (first | rw [← Ny534.out] at ho5 | (simp only [Int.reduceToNat] at ho5; rw [← Ny534.out] at ho5)); have n0_ := Aside0.mk (Kd.R_lower ho5 (kK (by repeat (first | (with_reducible first | exact HB.out | apply kG | apply kD | apply kF) | exact HB.out)))); have n1_ := Aside0.mk (kM (by repeat (first | (with_reducible first | exact HB.out | apply kG | apply kD | apply kF) | exact HB.out)) hb); clear HB; have HO536 := n0_; have HB := n1_; clear n0_ n1_; clear hb ho5; obtain ⟨Ao6, co6, eo6⟩ := Kd.R_slice HO536.out; subst eo6) | ((with_reducible refine kL (f := 85) rfl ?_); refine goesL_ (some 5) rfl rfl Try.func85 (by kernel_rfl) rfl #[.slice A0 l0.length c0, .slice Ao6 y534.length co6] rfl (by (try simp only [List.map_toArray, List.map_cons, List.map_nil]); first | done | rfl | (simp only [List.length_drop, List.length_take]; rfl)) ?_; (with_reducible refine (computusref01_cmp.calls k _ _ l0 _ _ y534 t537 _ ?side1 ?side2 ?side3 ?side4 A3.out).mono ?_); (case side1 => repeat (first | exact (Kd.C_below HR0.out HB.out) | (with_reducible refine Kd.C_alloc ?_ _) | (with_reducible refine Kd.C_drewN ?_ _) | (with_reducible refine Kd.C_drew ?_))); (case side2 => exact HC0.out); (case side3 => repeat (first | exact (Kd.R_reads' HO536.out).2.2 | (with_reducible refine Kd.C_alloc ?_ _) | (with_reducible refine Kd.C_drewN ?_ _) | (with_reducible refine Kd.C_drew ?_))); (case side4 => exact (Kd.R_reads' HO536.out).2.1); rintro e w' ⟨rfl, ⟨nd, rfl⟩⟩; refine ⟨_, rfl, ?_⟩))
    go_ret
    exact ⟨by first | rfl | (simp [errW_none, errW_some] <;> rfl) | (simp [*, errW_none, errW_some] <;> rfl), by repeat (first | (with_reducible first | exact HB.out | apply kG | apply kD | apply kF) | exact HB.out)⟩
  · rw [if_neg c2] at H
    exact absurd H (by simp)
end Go.Proofs.Ytgjbdojpncmmlaa.P
