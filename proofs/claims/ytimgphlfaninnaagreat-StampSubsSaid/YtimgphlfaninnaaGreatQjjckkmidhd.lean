import Derived.Test.YtimgphlfaninnaaGreatQoobaoafdnj
import Derived.Test.YtimgphlfaninnaaGreatQghjfngbobd
import Derived.Test.YtimgphlfaninnaaGreatQaneaoahjfn
import Derived.Test.YtimgphlfaninnaaGreatQlgomohghol
import Derived.Test.YtimgphlfaninnaaGreatQhninfjcbop
namespace Go.Proofs.YtimgphlfaninnaaGreat.P
open Go.RowKit Go.Proofs.YtimgphlfaninnaaGreatW.PrintWords Go.Proofs.YtimgphlfaninnaaGreatW.PrintLast Go.Proofs.YtimgphlfaninnaaGreatW.PrintMore
 attribute [local go_sem] jQ jP zB zC jE jD jO jN
set_option linter.unusedVariables false
set_option linter.unusedSimpArgs false
def bD.l0 : Nat → List Int → List Int → List Int → Int → Int → Option (List Int)
 | 0, _, _, _, _, _ => none
 | k + 1, x0, x1, x5, x6, x7 => if x7 < 6 then (if 0 ≤ x7 then (if x7 < (x0.length : Int) then (if x7 < (x1.length : Int) then (if x7 < (x5.length : Int) then (bD.l0 k x0 x1 (x5.set (x7 : Int).toNat (Go.bits .and .u64 (IntKind.u64.wrap ((IntKind.u64.wrap ((IntKind.u64.wrap ((rd x0 x7) + 4294967296)) - (rd x1 x7))) - x6)) 4294967295)) (IntKind.u64.wrap (1 - ((IntKind.u64.wrap ((IntKind.u64.wrap ((IntKind.u64.wrap ((rd x0 x7) + 4294967296)) - (rd x1 x7))) - x6)) / 4294967296))) (wrap64 (x7 + 1))) else (none)) else (none)) else (none)) else (none)) else (some x5)
def bD.f (k : Nat) (l0 : List Int) (l1 : List Int) : Option (List Int) := if 6 ≤ 35184372088832 then (bD.l0 k l0 l1 (List.replicate 6 0) 0 0) else (none)
theorem bD.mono_l : ∀ k, (∀ y0 y1 y2 y3 y4, LeO (bD.l0 k y0 y1 y2 y3 y4) (bD.l0 (k + 1) y0 y1 y2 y3 y4))
 | 0 => fun _ _ _ _ _ r h => by simp [bD.l0] at h
 | k + 1 => by
  have ih0 := bD.mono_l k
  · intro y0 y1 y2 y3 y4
    unfold bD.l0
    repeat' first
    | (with_reducible exact ih0 _ _ _ _ _)
    | (with_reducible exact LeO.refl _)
    | (with_reducible exact LeO.none _)
    | (with_reducible refine LeO.ite ?_ ?_)
    | (with_reducible refine LeO.bind ?_ (fun _ => ?_))
    | exact ih0 _ _ _ _ _
    | exact LeO.none _
    | refine LeO.ite ?_ ?_
    | refine LeO.bind ?_ (fun _ => ?_)
theorem bD.mono : ∀ a0 a1 k, LeO (bD.f k a0 a1) (bD.f (k + 1) a0 a1) := by
 intro a0 a1 k
 have ih0 := bD.mono_l k
 unfold bD.f
 repeat' first
  | (with_reducible exact ih0 _ _ _ _ _)
  | (with_reducible exact LeO.refl _)
  | (with_reducible exact LeO.none _)
  | (with_reducible refine LeO.ite ?_ ?_)
  | (with_reducible refine LeO.bind ?_ (fun _ => ?_))
  | exact ih0 _ _ _ _ _
  | exact LeO.none _
  | refine LeO.ite ?_ ?_
  | refine LeO.bind ?_ (fun _ => ?_)
set_option maxHeartbeats 8000000 in
set_option maxRecDepth 100000 in
theorem bD.calls (k : Nat) (A0 : Option Addr) (c0 : Nat) (l0 : List Int) (A1 : Option Addr) (c1 : Nat) (l1 : List Int) (r : List Int) (w : World) (hr0 : Kd.C (Kd.int .u64) w A0 l0.length l0) (hc0 : l0.length ≤ c0) (hr1 : Kd.C (Kd.int .u64) w A1 l1.length l1) (hc1 : l1.length ≤ c1) (h : bD.f k l0 l1 = some r) :
 Calls Tryz.prog 135 #[.slice A0 l0.length c0, .slice A1 l1.length c1] w fun e w' => ∃ v0_ : Value, e = .returned (v0_) ∧ Kd.R (Kd.int .u64) 155 w' w.heap.size (fun _ => True) v0_ r ∧ Below w.heap.size w w' := by
 have HR0 := Aside0.mk hr0
 have HC0 := Aside0.mk hc0
 clear hr0 hc0
 have HR1 := Aside0.mk hr1
 have HC1 := Aside0.mk hc1
 clear hr1 hc1
 have HB := Aside0.mk (Below.refl w.heap.size w)
 have H : (if 6 ≤ 35184372088832 then (bD.l0 k l0 l1 (List.replicate 6 0) 0 0) else (none)) = some r := h
 clear h
 by_cases c3 : 6 ≤ 35184372088832
 · rw [if_pos c3] at H
   have c3b0 := eq_true c3
   have c3b1 : decide (6 ≤ 35184372088832) = true := decide_eq_true c3
   clear c3
   obtain ⟨y445, hy445⟩ : ∃ y_ : List Int, y_ = (List.replicate 6 0) := ⟨_, rfl⟩
   replace H : (bD.l0 k l0 l1 y445 0 0) = some r := by first | (rw [hy445]; with_reducible exact H) | (have H2_ := (Option.bind_some _ _).symm.trans H; rw [hy445]; with_reducible exact H2_) | (have H2_ := (Option.bind_some _ _).symm.trans H; with_reducible exact H2_) | with_reducible exact H | (rw [hy445]; exact H) | exact H
   have Ny445 := Aside0.mk hy445
   clear hy445
   have H' := Aside0.mk H
   clear H
   go_enter Tryz.func135, Tryz.ntmps135
   go_wp2_with (first | ((with_reducible refine gate_dst (N := 9) rfl ?_); refine Kd.R_make (Kd.int .u64) _ 155 rfl (N := 9) rfl 133 _ _ rfl 6 rfl rfl Tryz.underlying133 (.int .u64 0) 8 info155 rfl (by decide) (by omega) 0 (ok := fun _ => True) (okp := fun _ => True) rfl (fun _ hk => hk) trivial (by omega) (by omega) (Below.refl _ _) (Nat.le_refl _) ?_; intro v446 w4 ho5 hb hg_ hnew_; clear hg_ hnew_; (first | rw [← Ny445.out] at ho5 | (simp only [Int.reduceToNat] at ho5; rw [← Ny445.out] at ho5)); have n0_ := Aside0.mk (Kd.R_lower ho5 (zF (by repeat (first | (with_reducible first | exact HB.out | apply kO | apply kF | apply kQ) | exact HB.out)))); have n1_ := Aside0.mk (jZ (by repeat (first | (with_reducible first | exact HB.out | apply kO | apply kF | apply kQ) | exact HB.out)) hb); clear HB; have HO447 := n0_; have HB := n1_; clear n0_ n1_; clear hb ho5))
   repeat (go_quiet (first | ((with_reducible refine gate_dst (N := 9) rfl ?_); refine Kd.R_make (Kd.int .u64) _ 155 rfl (N := 9) rfl 133 _ _ rfl 6 rfl rfl Tryz.underlying133 (.int .u64 0) 8 info155 rfl (by decide) (by omega) 0 (ok := fun _ => True) (okp := fun _ => True) rfl (fun _ hk => hk) trivial (by omega) (by omega) (Below.refl _ _) (Nat.le_refl _) ?_; intro v446 w4 ho5 hb hg_ hnew_; clear hg_ hnew_; (first | rw [← Ny445.out] at ho5 | (simp only [Int.reduceToNat] at ho5; rw [← Ny445.out] at ho5)); have n0_ := Aside0.mk (Kd.R_lower ho5 (zF (by repeat (first | (with_reducible first | exact HB.out | apply kO | apply kF | apply kQ) | exact HB.out)))); have n1_ := Aside0.mk (jZ (by repeat (first | (with_reducible first | exact HB.out | apply kO | apply kF | apply kQ) | exact HB.out)) hb); clear HB; have HO447 := n0_; have HB := n1_; clear n0_ n1_; clear hb ho5)); try go_wp2_with (first | ((with_reducible refine gate_dst (N := 9) rfl ?_); refine Kd.R_make (Kd.int .u64) _ 155 rfl (N := 9) rfl 133 _ _ rfl 6 rfl rfl Tryz.underlying133 (.int .u64 0) 8 info155 rfl (by decide) (by omega) 0 (ok := fun _ => True) (okp := fun _ => True) rfl (fun _ hk => hk) trivial (by omega) (by omega) (Below.refl _ _) (Nat.le_refl _) ?_; intro v446 w4 ho5 hb hg_ hnew_; clear hg_ hnew_; (first | rw [← Ny445.out] at ho5 | (simp only [Int.reduceToNat] at ho5; rw [← Ny445.out] at ho5)); have n0_ := Aside0.mk (Kd.R_lower ho5 (zF (by repeat (first | (with_reducible first | exact HB.out | apply kO | apply kF | apply kQ) | exact HB.out)))); have n1_ := Aside0.mk (jZ (by repeat (first | (with_reducible first | exact HB.out | apply kO | apply kF | apply kQ) | exact HB.out)) hb); clear HB; have HO447 := n0_; have HB := n1_; clear n0_ n1_; clear hb ho5)))
   go_loopg [6, 7] k (fun kq v6 v7 w' => ∃ (x5_1 : List Int) (x6_1 : Int) (x7_1 : Int), v6 = .int .u64 x6_1 ∧ v7 = .int .i64 x7_1 ∧ Aside0 (bD.l0 kq l0 l1 x5_1 x6_1 x7_1 = some r) ∧ Aside0 (kq ≤ k) ∧ Aside0 (Kd.R (Kd.int .u64) 155 w' w.heap.size (fun _ => True) v446 x5_1) ∧ Aside0 (Below w.heap.size w w'))
   case atStart => exact ⟨(y445), (0), (0), (by first | rfl | (simp; done) | (simp [*]; done)), (by first | rfl | (simp; done) | (simp [*]; done)), H', ⟨Nat.le_refl _⟩, ⟨by (with_reducible repeat (first | apply Kd.R_alloc | apply Kd.R_drewN | apply Kd.R_drew)); exact HO447.out⟩, ⟨by repeat (first | (with_reducible first | exact HB.out | apply kO | apply kF | apply kQ) | exact HB.out)⟩⟩
   case round =>
    clear H'
    try clear c1
    try clear p2
    try clear c3
    try clear c3b0
    try clear c3b1
    obtain ⟨x5_1, x6_1, x7_1, rfl, rfl, HA, HK1, HO_5, HB⟩ := hrel
    cases gk with
    | zero => exact absurd HA.out (by simp [bD.l0])
    | succ k1 =>
     have H := HA.out
     clear HA
     simp only [bD.l0] at H
     by_cases c6 : x7_1 < 6
     · rw [if_pos c6] at H
       have c6b0 : decide (x7_1 < 6) = true := decide_eq_true c6
       clear c6
       by_cases c7 : 0 ≤ x7_1
       · rw [if_pos c7] at H
         have c7b0 : decide (0 ≤ x7_1) = true := decide_eq_true c7
         clear c7
         by_cases c8 : x7_1 < (l0.length : Int)
         · rw [if_pos c8] at H
           have c8b0 : decide (x7_1 < (l0.length : Int)) = true := decide_eq_true c8
           clear c8
           by_cases c9 : x7_1 < (l1.length : Int)
           · rw [if_pos c9] at H
             have c9b0 : decide (x7_1 < (l1.length : Int)) = true := decide_eq_true c9
             clear c9
             by_cases c10 : x7_1 < (x5_1.length : Int)
             · rw [if_pos c10] at H
               have c10b0 : decide (x7_1 < (x5_1.length : Int)) = true := decide_eq_true c10
               clear c10
               obtain ⟨y450, hy450⟩ : ∃ y_ : List Int, y_ = (x5_1.set (x7_1 : Int).toNat (Go.bits .and .u64 (IntKind.u64.wrap ((IntKind.u64.wrap ((IntKind.u64.wrap ((rd l0 x7_1) + 4294967296)) - (rd l1 x7_1))) - x6_1)) 4294967295)) := ⟨_, rfl⟩
               replace H : (bD.l0 k1 l0 l1 y450 (IntKind.u64.wrap (1 - ((IntKind.u64.wrap ((IntKind.u64.wrap ((IntKind.u64.wrap ((rd l0 x7_1) + 4294967296)) - (rd l1 x7_1))) - x6_1)) / 4294967296))) (wrap64 (x7_1 + 1))) = some r := by first | (rw [hy450]; with_reducible exact H) | (have H2_ := (Option.bind_some _ _).symm.trans H; rw [hy450]; with_reducible exact H2_) | (have H2_ := (Option.bind_some _ _).symm.trans H; with_reducible exact H2_) | with_reducible exact H | (rw [hy450]; exact H) | exact H
               have Ny450 := Aside0.mk hy450
               clear hy450
               have H' := Aside0.mk H
               clear H
               have p448 : 0 ≤ (x7_1 : Int) := of_decide_eq_true (by first | (with_reducible assumption) | assumption)
               have q448 : x7_1 < (l0.length : Int) := of_decide_eq_true (by first | (with_reducible assumption) | assumption)
               obtain ⟨ad448, e448, hx448_0⟩ := Kd.at_int HR0.out x7_1 p448 q448
               cases e448
               replace hx448_0 := (HB.out.cell (World.block_lt_of_cell? w _ hx448_0)).trans hx448_0
               replace p448 := eq_true p448
               replace q448 := eq_true q448
               have p449 : 0 ≤ (x7_1 : Int) := of_decide_eq_true (by first | (with_reducible assumption) | assumption)
               have q449 : x7_1 < (l1.length : Int) := of_decide_eq_true (by first | (with_reducible assumption) | assumption)
               obtain ⟨ad449, e449, hx449_0⟩ := Kd.at_int HR1.out x7_1 p449 q449
               cases e449
               replace hx449_0 := (HB.out.cell (World.block_lt_of_cell? w _ hx449_0)).trans hx449_0
               replace p449 := eq_true p449
               replace q449 := eq_true q449
               have p11 : 0 ≤ (x7_1 : Int) := of_decide_eq_true (by first | (with_reducible assumption) | assumption)
               have q11 : (x7_1 : Int) < ((x5_1.length : Int) : Int) := of_decide_eq_true (by first | (with_reducible assumption) | assumption)
               obtain ⟨go11, co11, eo11, gb11, gl11, cl11, HG11⟩ := Kd.R_form HO_5.out (by omega)
               (first | cases eo11 | (injection eo11 with ea_ en_ ec_; (first | subst ea_ | (injection ea_ with ea_; subst ea_)); subst ec_; clear en_))
               have GB11 := Aside0.mk gb11
               have GG11 := Aside0.mk HG11
               clear gb11 gl11 HG11
               obtain ⟨hx11_0, hf11_0⟩ := Kd.R_celln 0 HO_5.out (x7_1 : Int) p11 q11
               replace p11 := eq_true p11
               replace q11 := eq_true q11
               have HP12 := Kd.R_putg HO_5.out (x7_1 : Int) (Go.bits .and .u64 (IntKind.u64.wrap ((IntKind.u64.wrap ((IntKind.u64.wrap ((rd l0 x7_1) + 4294967296)) - (rd l1 x7_1))) - x6_1)) 4294967295)
               go_wp2_with (first | ((with_reducible refine gate_store (t := 155) (p := 30) rfl ?_); (try (rw [drewN_self wr]; generalize hq_ : World.drewN wr _ = wr; have n0_ := Aside0.mk (Kd.R_at hq_ HO_5.out); have n1_ := Aside0.mk (below_at hq_ HB.out); clear hq_ HO_5 HB; have HO_5 := n0_; have HB := n1_; clear n0_ n1_; (try (obtain ⟨hxr_, hfr_⟩ := Kd.R_celln 0 HO_5.out (x7_1 : Int) (of_eq_true p11) (of_eq_true q11))); (try (have HP12 := Kd.R_putg HO_5.out (x7_1 : Int) (Go.bits .and .u64 (IntKind.u64.wrap ((IntKind.u64.wrap ((IntKind.u64.wrap ((rd l0 x7_1) + 4294967296)) - (rd l1 x7_1))) - x6_1)) 4294967295))))); refine store_event (t := 155) (p := 30) (v := ?vo_w13) (w1 := (wr.setCell ⟨go11, (x7_1 : Int).toNat, none⟩ (.int .u64 (Go.bits .and .u64 (IntKind.u64.wrap ((IntKind.u64.wrap ((IntKind.u64.wrap ((rd l0 x7_1) + 4294967296)) - (rd l1 x7_1))) - x6_1)) 4294967295)))) ?hg ?ho ?hn ?hr ?_; (case ho => rfl); (case hg => rfl); (case hn => rfl); (case hr => first | (go_simp; done) | (go_simp; rfl)); intro w13 hw; have hg : wr.grownBy w13 (some go11) := (by rw [hw]; exact HP12.2); have hp_ : Kd.R (Kd.int .u64) 155 w13 w.heap.size (fun _ => True) (.slice (some ⟨go11, 0, none⟩) x5_1.length co11) y450 := (by rw [hw, Ny450.out]; exact HP12.1); clear HP12; have n0_ := Aside0.mk (hp_); have n1_ := Aside0.mk ((by rw [hw]; exact bA (HB.out) GB11.out : Below w.heap.size w w13)); clear HO_5; clear HB; have HO_5 := n0_; have HB := n1_; clear n0_ n1_; clear hg hw hp_))
               repeat (go_quiet (first | ((with_reducible refine gate_store (t := 155) (p := 30) rfl ?_); (try (rw [drewN_self wr]; generalize hq_ : World.drewN wr _ = wr; have n0_ := Aside0.mk (Kd.R_at hq_ HO_5.out); have n1_ := Aside0.mk (below_at hq_ HB.out); clear hq_ HO_5 HB; have HO_5 := n0_; have HB := n1_; clear n0_ n1_; (try (obtain ⟨hxr_, hfr_⟩ := Kd.R_celln 0 HO_5.out (x7_1 : Int) (of_eq_true p11) (of_eq_true q11))); (try (have HP12 := Kd.R_putg HO_5.out (x7_1 : Int) (Go.bits .and .u64 (IntKind.u64.wrap ((IntKind.u64.wrap ((IntKind.u64.wrap ((rd l0 x7_1) + 4294967296)) - (rd l1 x7_1))) - x6_1)) 4294967295))))); refine store_event (t := 155) (p := 30) (v := ?vo_w13) (w1 := (wr.setCell ⟨go11, (x7_1 : Int).toNat, none⟩ (.int .u64 (Go.bits .and .u64 (IntKind.u64.wrap ((IntKind.u64.wrap ((IntKind.u64.wrap ((rd l0 x7_1) + 4294967296)) - (rd l1 x7_1))) - x6_1)) 4294967295)))) ?hg ?ho ?hn ?hr ?_; (case ho => rfl); (case hg => rfl); (case hn => rfl); (case hr => first | (go_simp; done) | (go_simp; rfl)); intro w13 hw; have hg : wr.grownBy w13 (some go11) := (by rw [hw]; exact HP12.2); have hp_ : Kd.R (Kd.int .u64) 155 w13 w.heap.size (fun _ => True) (.slice (some ⟨go11, 0, none⟩) x5_1.length co11) y450 := (by rw [hw, Ny450.out]; exact HP12.1); clear HP12; have n0_ := Aside0.mk (hp_); have n1_ := Aside0.mk ((by rw [hw]; exact bA (HB.out) GB11.out : Below w.heap.size w w13)); clear HO_5; clear HB; have HO_5 := n0_; have HB := n1_; clear n0_ n1_; clear hg hw hp_)); try go_wp2_with (first | ((with_reducible refine gate_store (t := 155) (p := 30) rfl ?_); (try (rw [drewN_self wr]; generalize hq_ : World.drewN wr _ = wr; have n0_ := Aside0.mk (Kd.R_at hq_ HO_5.out); have n1_ := Aside0.mk (below_at hq_ HB.out); clear hq_ HO_5 HB; have HO_5 := n0_; have HB := n1_; clear n0_ n1_; (try (obtain ⟨hxr_, hfr_⟩ := Kd.R_celln 0 HO_5.out (x7_1 : Int) (of_eq_true p11) (of_eq_true q11))); (try (have HP12 := Kd.R_putg HO_5.out (x7_1 : Int) (Go.bits .and .u64 (IntKind.u64.wrap ((IntKind.u64.wrap ((IntKind.u64.wrap ((rd l0 x7_1) + 4294967296)) - (rd l1 x7_1))) - x6_1)) 4294967295))))); refine store_event (t := 155) (p := 30) (v := ?vo_w13) (w1 := (wr.setCell ⟨go11, (x7_1 : Int).toNat, none⟩ (.int .u64 (Go.bits .and .u64 (IntKind.u64.wrap ((IntKind.u64.wrap ((IntKind.u64.wrap ((rd l0 x7_1) + 4294967296)) - (rd l1 x7_1))) - x6_1)) 4294967295)))) ?hg ?ho ?hn ?hr ?_; (case ho => rfl); (case hg => rfl); (case hn => rfl); (case hr => first | (go_simp; done) | (go_simp; rfl)); intro w13 hw; have hg : wr.grownBy w13 (some go11) := (by rw [hw]; exact HP12.2); have hp_ : Kd.R (Kd.int .u64) 155 w13 w.heap.size (fun _ => True) (.slice (some ⟨go11, 0, none⟩) x5_1.length co11) y450 := (by rw [hw, Ny450.out]; exact HP12.1); clear HP12; have n0_ := Aside0.mk (hp_); have n1_ := Aside0.mk ((by rw [hw]; exact bA (HB.out) GB11.out : Below w.heap.size w w13)); clear HO_5; clear HB; have HO_5 := n0_; have HB := n1_; clear n0_ n1_; clear hg hw hp_)))
               go_roundg k1
               case measure => have := HK1.out; omega
               case rel => exact ⟨(y450), (IntKind.u64.wrap (1 - ((IntKind.u64.wrap ((IntKind.u64.wrap ((IntKind.u64.wrap ((rd l0 x7_1) + 4294967296)) - (rd l1 x7_1))) - x6_1)) / 4294967296))), (wrap64 (x7_1 + 1)), (by first | rfl | (simp; done) | (simp [*]; done)), (by first | rfl | (simp; done) | (simp [*]; done)), H', ⟨by have := HK1.out; omega⟩, ⟨by (with_reducible repeat (first | apply Kd.R_alloc | apply Kd.R_drewN | apply Kd.R_drew)); exact HO_5.out⟩, ⟨by repeat (first | (with_reducible first | exact HB.out | apply kO | apply kF | apply kQ) | exact HB.out)⟩⟩
             · rw [if_neg c10] at H
               exact absurd H (by simp)
           · rw [if_neg c9] at H
             exact absurd H (by simp)
         · rw [if_neg c8] at H
           exact absurd H (by simp)
       · rw [if_neg c7] at H
         exact absurd H (by simp)
     · rw [if_neg c6] at H
       have c6b0 : decide (x7_1 < 6) = false := decide_eq_false c6
       clear c6
       obtain rfl := Option.some.inj H
       go_wp2
       repeat (go_quiet (fail); try go_wp2)
       go_ret
       exact ⟨_, by first | rfl | (simp [zR, zS] <;> rfl) | (simp [*, zR, zS] <;> rfl), by (with_reducible repeat (first | apply Kd.R_alloc | apply Kd.R_drewN | apply Kd.R_drew)); exact HO_5.out, by repeat (first | (with_reducible first | exact HB.out | apply kO | apply kF | apply kQ) | exact HB.out)⟩
 · rw [if_neg c3] at H
   exact absurd H (by simp)
end Go.Proofs.YtimgphlfaninnaaGreat.P
namespace Go.Proofs.YtimgphlfaninnaaGreat.Civ
set_option linter.unusedVariables false
set_option linter.unusedSimpArgs false
open Go.RowKit Go.Proofs.YtimgphlfaninnaaGreatW.PrintWords Go.Proofs.YtimgphlfaninnaaGreatW.PrintLast Go.Proofs.YtimgphlfaninnaaGreatW.PrintMore Go.Proofs.YtimgphlfaninnaaGreat.P
theorem u64m (x : Int) : IntKind.u64.wrap x = x % 18446744073709551616 := by simp [IntKind.wrap, IntKind.bits, IntKind.signed]
theorem u64w {x : Int} (h1 : 0 ≤ x) (h2 : x ≤ 18446744073709551615) : IntKind.u64.wrap x = x := by rw [u64m]; omega
theorem wraps_u64 (n : Int) (h₀ : 0 ≤ n) (h₁ : n < 2 ^ 64) : IntKind.u64.wrap n = n := by rw [u64m]; omega
theorem and32 {x : Int} (h1 : 0 ≤ x) (h2 : x ≤ 18446744073709551615) : Go.bits .and .u64 x 4294967295 = x % 4294967296 :=
 bits_mask .u64 64 (by decide) wraps_u64 32 (by decide) x h1 (by omega)
theorem orj (i : Nat) (hi : i ≤ 63) {x y : Int} (hx0 : 0 ≤ x) (hx : x % 2 ^ i = 0) (hx1 : x ≤ 18446744073709551615) (hy0 : 0 ≤ y) (hy : y < 2 ^ i) : Go.bits .or .u64 x y = x + y := by
 refine bits_join .u64 64 (by decide) wraps_u64 i x y hx0 hx (by omega) hy0 hy ?_
 have : (2 : Int) ^ i ≤ 2 ^ 63 := by exact_mod_cast Nat.pow_le_pow_right (by decide) hi
 omega
def dig (n : Int) : List Int := [n % 4294967296, n / 4294967296 % 4294967296, n / 4294967296 / 4294967296 % 4294967296, n / 4294967296 / 4294967296 / 4294967296 % 4294967296, n / 4294967296 / 4294967296 / 4294967296 / 4294967296 % 4294967296, n / 4294967296 / 4294967296 / 4294967296 / 4294967296 / 4294967296 % 4294967296]
theorem part_bd (x : Int) : 0 ≤ x % 4294967296 ∧ x % 4294967296 < 4294967296 := by omega
theorem part_eq (x : Int) : x = x % 4294967296 + 4294967296 * (x / 4294967296) := by omega
theorem dig_form {a : Int} (h0 : 0 ≤ a) (h1 : a < 6277101735386680763835789423207666416102355444464034512896) : ∃ a0 a1 a2 a3 a4 a5, dig a = [a0, a1, a2, a3, a4, a5] ∧ ((0 ≤ a0 ∧ a0 < 4294967296) ∧ (0 ≤ a1 ∧ a1 < 4294967296) ∧ (0 ≤ a2 ∧ a2 < 4294967296) ∧ (0 ≤ a3 ∧ a3 < 4294967296) ∧ (0 ≤ a4 ∧ a4 < 4294967296) ∧ (0 ≤ a5 ∧ a5 < 4294967296)) ∧ a = a0 + 4294967296 * (a1 + 4294967296 * (a2 + 4294967296 * (a3 + 4294967296 * (a4 + 4294967296 * (a5))))) := by
 refine ⟨_, _, _, _, _, _, rfl, ⟨part_bd _, part_bd _, part_bd _, part_bd _, part_bd _, part_bd _⟩, ?_⟩
 have e : a / 4294967296 / 4294967296 / 4294967296 / 4294967296 / 4294967296 % 4294967296 = a / 4294967296 / 4294967296 / 4294967296 / 4294967296 / 4294967296 := by
  have h : a / 4294967296 / 4294967296 / 4294967296 / 4294967296 / 4294967296 = a / 1461501637330902918203684832716283019655932542976 := by omega
  omega
 rw [e, ← part_eq, ← part_eq, ← part_eq, ← part_eq, ← part_eq]
theorem part_lo {x y : Int} (h : 0 ≤ x ∧ x < 4294967296) : (x + 4294967296 * y) % 4294967296 = x ∧ (x + 4294967296 * y) / 4294967296 = y := by omega
theorem dig_of {a : Int} {a0 a1 a2 a3 a4 a5 : Int} (h : (0 ≤ a0 ∧ a0 < 4294967296) ∧ (0 ≤ a1 ∧ a1 < 4294967296) ∧ (0 ≤ a2 ∧ a2 < 4294967296) ∧ (0 ≤ a3 ∧ a3 < 4294967296) ∧ (0 ≤ a4 ∧ a4 < 4294967296) ∧ (0 ≤ a5 ∧ a5 < 4294967296)) (e : a = a0 + 4294967296 * (a1 + 4294967296 * (a2 + 4294967296 * (a3 + 4294967296 * (a4 + 4294967296 * (a5)))))) : dig a = [a0, a1, a2, a3, a4, a5] := by
 obtain ⟨h0, h1, h2, h3, h4, h5⟩ := h
 have h6 : a5 % 4294967296 = a5 := by omega
 unfold dig
 rw [e]
 simp only [(part_lo h0).1, (part_lo h0).2, (part_lo h1).1, (part_lo h1).2, (part_lo h2).1, (part_lo h2).2, (part_lo h3).1, (part_lo h3).2, (part_lo h4).1, (part_lo h4).2, h6]
theorem dig_zero : dig 0 = List.replicate 6 0 := rfl
theorem dig_length (a : Int) : (dig a).length = 6 := rfl
theorem hv_bd {a0 a1 a2 a3 a4 a5 : Int} (h : (0 ≤ a0 ∧ a0 < 4294967296) ∧ (0 ≤ a1 ∧ a1 < 4294967296) ∧ (0 ≤ a2 ∧ a2 < 4294967296) ∧ (0 ≤ a3 ∧ a3 < 4294967296) ∧ (0 ≤ a4 ∧ a4 < 4294967296) ∧ (0 ≤ a5 ∧ a5 < 4294967296)) : 0 ≤ a0 + 4294967296 * (a1 + 4294967296 * (a2 + 4294967296 * (a3 + 4294967296 * (a4 + 4294967296 * (a5))))) ∧ a0 + 4294967296 * (a1 + 4294967296 * (a2 + 4294967296 * (a3 + 4294967296 * (a4 + 4294967296 * (a5))))) < 6277101735386680763835789423207666416102355444464034512896 := by
 obtain ⟨h0, h1, h2, h3, h4, h5⟩ := h
 have g4 : 0 ≤ a4 + 4294967296 * a5 ∧ a4 + 4294967296 * a5 < 18446744073709551616 := by omega
 generalize a4 + 4294967296 * a5 = x4 at *
 have g3 : 0 ≤ a3 + 4294967296 * x4 ∧ a3 + 4294967296 * x4 < 79228162514264337593543950336 := by omega
 generalize a3 + 4294967296 * x4 = x3 at *
 have g2 : 0 ≤ a2 + 4294967296 * x3 ∧ a2 + 4294967296 * x3 < 340282366920938463463374607431768211456 := by omega
 generalize a2 + 4294967296 * x3 = x2 at *
 have g1 : 0 ≤ a1 + 4294967296 * x2 ∧ a1 + 4294967296 * x2 < 1461501637330902918203684832716283019655932542976 := by omega
 generalize a1 + 4294967296 * x2 = x1 at *
 omega
theorem mod_of {x D c : Int} (h : x = D + 6277101735386680763835789423207666416102355444464034512896 * c) (h0 : 0 ≤ D ∧ D < 6277101735386680763835789423207666416102355444464034512896) : x % 6277101735386680763835789423207666416102355444464034512896 = D := by omega
theorem add_next (k : Nat) {x0 x1 x5 : List Int} {c i u v : Int} (h0 : 0 ≤ i) (h6 : i < 6) (l0 : x0.length = 6) (l1 : x1.length = 6) (l5 : x5.length = 6) (hc : 0 ≤ c ∧ c ≤ 1)
 (hu : rd x0 i = u) (hv : rd x1 i = v) (ub : 0 ≤ u ∧ u < 4294967296) (vb : 0 ≤ v ∧ v < 4294967296) :
 ∃ d c', bI.l0 (k + 1) x0 x1 x5 c i = bI.l0 k x0 x1 (x5.set i.toNat d) c' (i + 1) ∧ (0 ≤ d ∧ d < 4294967296) ∧ (0 ≤ c' ∧ c' ≤ 1) ∧ c + u + v = d + 4294967296 * c' := by
 refine ⟨(c + u + v) % 4294967296, (c + u + v) / 4294967296, ?_, part_bd _, by omega, part_eq _⟩
 simp only [bI.l0]
 rw [if_pos h6, if_pos h0, l0, l1, l5, if_pos (by omega), if_pos (by omega), if_pos (by omega), hu, hv, u64w (x := c + u) (by omega) (by omega), u64w (x := c + u + v) (by omega) (by omega), and32 (by omega) (by omega), w64 (by omega) (by omega)]
theorem add_key {a0 a1 a2 a3 a4 a5 b0 b1 b2 b3 b4 b5 d0 d1 d2 d3 d4 d5 c1 c2 c3 c4 c5 c6 : Int} (h0 : 0 + a0 + b0 = d0 + 4294967296 * c1) (h1 : c1 + a1 + b1 = d1 + 4294967296 * c2) (h2 : c2 + a2 + b2 = d2 + 4294967296 * c3) (h3 : c3 + a3 + b3 = d3 + 4294967296 * c4) (h4 : c4 + a4 + b4 = d4 + 4294967296 * c5) (h5 : c5 + a5 + b5 = d5 + 4294967296 * c6) : (a0 + 4294967296 * (a1 + 4294967296 * (a2 + 4294967296 * (a3 + 4294967296 * (a4 + 4294967296 * (a5)))))) + (b0 + 4294967296 * (b1 + 4294967296 * (b2 + 4294967296 * (b3 + 4294967296 * (b4 + 4294967296 * (b5)))))) = (d0 + 4294967296 * (d1 + 4294967296 * (d2 + 4294967296 * (d3 + 4294967296 * (d4 + 4294967296 * (d5)))))) + 6277101735386680763835789423207666416102355444464034512896 * c6 := by omega
theorem add_dig (k : Nat) {a b : Int} (ha : 0 ≤ a) (ha1 : a < 6277101735386680763835789423207666416102355444464034512896) (hb : 0 ≤ b) (hb1 : b < 6277101735386680763835789423207666416102355444464034512896) : bI.f (k + 7) (dig a) (dig b) = some (dig ((a + b) % 6277101735386680763835789423207666416102355444464034512896)) := by
 obtain ⟨a0, a1, a2, a3, a4, a5, ea, ⟨A0, A1, A2, A3, A4, A5⟩, va⟩ := dig_form ha ha1
 obtain ⟨b0, b1, b2, b3, b4, b5, eb, ⟨B0, B1, B2, B3, B4, B5⟩, vb⟩ := dig_form hb hb1
 clear ha ha1 hb hb1
 rw [ea, eb]
 unfold bI.f
 rw [if_pos (by decide), show (List.replicate 6 0 : List Int) = [0, 0, 0, 0, 0, 0] from rfl]
 have C0 : (0 : Int) ≤ 0 ∧ (0 : Int) ≤ 1 := by decide
 obtain ⟨d0, c1, e0, D0, C1, E0⟩ := add_next (k + 6) (x0 := [a0, a1, a2, a3, a4, a5]) (x1 := [b0, b1, b2, b3, b4, b5]) (x5 := [0, 0, 0, 0, 0, 0]) (c := 0) (i := 0) (u := a0) (v := b0) (by decide) (by decide) rfl rfl rfl C0 rfl rfl A0 B0
 refine e0.trans ?_
 show bI.l0 (k + 6) [a0, a1, a2, a3, a4, a5] [b0, b1, b2, b3, b4, b5] [d0, 0, 0, 0, 0, 0] c1 1 = _
 obtain ⟨d1, c2, e1, D1, C2, E1⟩ := add_next (k + 5) (x0 := [a0, a1, a2, a3, a4, a5]) (x1 := [b0, b1, b2, b3, b4, b5]) (x5 := [d0, 0, 0, 0, 0, 0]) (c := c1) (i := 1) (u := a1) (v := b1) (by decide) (by decide) rfl rfl rfl C1 rfl rfl A1 B1
 refine e1.trans ?_
 show bI.l0 (k + 5) [a0, a1, a2, a3, a4, a5] [b0, b1, b2, b3, b4, b5] [d0, d1, 0, 0, 0, 0] c2 2 = _
 obtain ⟨d2, c3, e2, D2, C3, E2⟩ := add_next (k + 4) (x0 := [a0, a1, a2, a3, a4, a5]) (x1 := [b0, b1, b2, b3, b4, b5]) (x5 := [d0, d1, 0, 0, 0, 0]) (c := c2) (i := 2) (u := a2) (v := b2) (by decide) (by decide) rfl rfl rfl C2 rfl rfl A2 B2
 refine e2.trans ?_
 show bI.l0 (k + 4) [a0, a1, a2, a3, a4, a5] [b0, b1, b2, b3, b4, b5] [d0, d1, d2, 0, 0, 0] c3 3 = _
 obtain ⟨d3, c4, e3, D3, C4, E3⟩ := add_next (k + 3) (x0 := [a0, a1, a2, a3, a4, a5]) (x1 := [b0, b1, b2, b3, b4, b5]) (x5 := [d0, d1, d2, 0, 0, 0]) (c := c3) (i := 3) (u := a3) (v := b3) (by decide) (by decide) rfl rfl rfl C3 rfl rfl A3 B3
 refine e3.trans ?_
 show bI.l0 (k + 3) [a0, a1, a2, a3, a4, a5] [b0, b1, b2, b3, b4, b5] [d0, d1, d2, d3, 0, 0] c4 4 = _
 obtain ⟨d4, c5, e4, D4, C5, E4⟩ := add_next (k + 2) (x0 := [a0, a1, a2, a3, a4, a5]) (x1 := [b0, b1, b2, b3, b4, b5]) (x5 := [d0, d1, d2, d3, 0, 0]) (c := c4) (i := 4) (u := a4) (v := b4) (by decide) (by decide) rfl rfl rfl C4 rfl rfl A4 B4
 refine e4.trans ?_
 show bI.l0 (k + 2) [a0, a1, a2, a3, a4, a5] [b0, b1, b2, b3, b4, b5] [d0, d1, d2, d3, d4, 0] c5 5 = _
 obtain ⟨d5, c6, e5, D5, C6, E5⟩ := add_next (k + 1) (x0 := [a0, a1, a2, a3, a4, a5]) (x1 := [b0, b1, b2, b3, b4, b5]) (x5 := [d0, d1, d2, d3, d4, 0]) (c := c5) (i := 5) (u := a5) (v := b5) (by decide) (by decide) rfl rfl rfl C5 rfl rfl A5 B5
 refine e5.trans ?_
 show bI.l0 (k + 1) [a0, a1, a2, a3, a4, a5] [b0, b1, b2, b3, b4, b5] [d0, d1, d2, d3, d4, d5] c6 6 = _
 simp only [bI.l0]
 have key := add_key E0 E1 E2 E3 E4 E5
 rw [← va, ← vb] at key
 rw [if_neg (by decide), dig_of ⟨D0, D1, D2, D3, D4, D5⟩ (mod_of key (hv_bd ⟨D0, D1, D2, D3, D4, D5⟩))]
theorem add_ev {a b : Int} (ha : 0 ≤ a) (hb : 0 ≤ b) (h : a + b < 6277101735386680763835789423207666416102355444464034512896) : Ev (fun k => bI.f k (dig a) (dig b)) (dig (a + b)) := by
 have e := Ev.of (bI.mono (dig a) (dig b)) (add_dig 0 ha (by omega) hb (by omega))
 rwa [show (a + b) % 6277101735386680763835789423207666416102355444464034512896 = a + b by omega] at e
theorem less_next (k : Nat) {x0 x1 x5 : List Int} {c i u v : Int} (h0 : 0 ≤ i) (h6 : i < 6) (l0 : x0.length = 6) (l1 : x1.length = 6) (l5 : x5.length = 6) (hc : 0 ≤ c ∧ c ≤ 1)
 (hu : rd x0 i = u) (hv : rd x1 i = v) (ub : 0 ≤ u ∧ u < 4294967296) (vb : 0 ≤ v ∧ v < 4294967296) :
 ∃ d c', bD.l0 (k + 1) x0 x1 x5 c i = bD.l0 k x0 x1 (x5.set i.toNat d) c' (i + 1) ∧ (0 ≤ d ∧ d < 4294967296) ∧ (0 ≤ c' ∧ c' ≤ 1) ∧ u - v - c = d - 4294967296 * c' := by
 refine ⟨(u + 4294967296 - v - c) % 4294967296, 1 - (u + 4294967296 - v - c) / 4294967296, ?_, part_bd _, by omega, by omega⟩
 simp only [bD.l0]
 rw [if_pos h6, if_pos h0, l0, l1, l5, if_pos (by omega), if_pos (by omega), if_pos (by omega), hu, hv, u64w (x := u + 4294967296) (by omega) (by omega), u64w (x := u + 4294967296 - v) (by omega) (by omega), u64w (x := u + 4294967296 - v - c) (by omega) (by omega), and32 (by omega) (by omega), u64w (x := 1 - (u + 4294967296 - v - c) / 4294967296) (by omega) (by omega), w64 (by omega) (by omega)]
theorem less_key {a0 a1 a2 a3 a4 a5 b0 b1 b2 b3 b4 b5 d0 d1 d2 d3 d4 d5 c1 c2 c3 c4 c5 c6 : Int} (h0 : a0 - b0 - 0 = d0 - 4294967296 * c1) (h1 : a1 - b1 - c1 = d1 - 4294967296 * c2) (h2 : a2 - b2 - c2 = d2 - 4294967296 * c3) (h3 : a3 - b3 - c3 = d3 - 4294967296 * c4) (h4 : a4 - b4 - c4 = d4 - 4294967296 * c5) (h5 : a5 - b5 - c5 = d5 - 4294967296 * c6) : (a0 + 4294967296 * (a1 + 4294967296 * (a2 + 4294967296 * (a3 + 4294967296 * (a4 + 4294967296 * (a5)))))) - (b0 + 4294967296 * (b1 + 4294967296 * (b2 + 4294967296 * (b3 + 4294967296 * (b4 + 4294967296 * (b5)))))) = (d0 + 4294967296 * (d1 + 4294967296 * (d2 + 4294967296 * (d3 + 4294967296 * (d4 + 4294967296 * (d5)))))) - 6277101735386680763835789423207666416102355444464034512896 * c6 := by omega
theorem sub_of {x D c : Int} (h : x = D - 6277101735386680763835789423207666416102355444464034512896 * c) (h0 : 0 ≤ D ∧ D < 6277101735386680763835789423207666416102355444464034512896) (hx : 0 ≤ x) (hx1 : x < 6277101735386680763835789423207666416102355444464034512896) : x = D := by omega
theorem less_dig (k : Nat) {a b : Int} (ha1 : a < 6277101735386680763835789423207666416102355444464034512896) (hb : 0 ≤ b) (hab : b ≤ a) : bD.f (k + 7) (dig a) (dig b) = some (dig (a - b)) := by
 have h1 : 0 ≤ a - b := by omega
 have h2 : a - b < 6277101735386680763835789423207666416102355444464034512896 := by omega
 obtain ⟨a0, a1, a2, a3, a4, a5, ea, ⟨A0, A1, A2, A3, A4, A5⟩, va⟩ := dig_form (a := a) (by omega) ha1
 obtain ⟨b0, b1, b2, b3, b4, b5, eb, ⟨B0, B1, B2, B3, B4, B5⟩, vb⟩ := dig_form hb (by omega)
 clear ha1 hb hab
 rw [ea, eb]
 unfold bD.f
 rw [if_pos (by decide), show (List.replicate 6 0 : List Int) = [0, 0, 0, 0, 0, 0] from rfl]
 have C0 : (0 : Int) ≤ 0 ∧ (0 : Int) ≤ 1 := by decide
 obtain ⟨d0, c1, e0, D0, C1, E0⟩ := less_next (k + 6) (x0 := [a0, a1, a2, a3, a4, a5]) (x1 := [b0, b1, b2, b3, b4, b5]) (x5 := [0, 0, 0, 0, 0, 0]) (c := 0) (i := 0) (u := a0) (v := b0) (by decide) (by decide) rfl rfl rfl C0 rfl rfl A0 B0
 refine e0.trans ?_
 show bD.l0 (k + 6) [a0, a1, a2, a3, a4, a5] [b0, b1, b2, b3, b4, b5] [d0, 0, 0, 0, 0, 0] c1 1 = _
 obtain ⟨d1, c2, e1, D1, C2, E1⟩ := less_next (k + 5) (x0 := [a0, a1, a2, a3, a4, a5]) (x1 := [b0, b1, b2, b3, b4, b5]) (x5 := [d0, 0, 0, 0, 0, 0]) (c := c1) (i := 1) (u := a1) (v := b1) (by decide) (by decide) rfl rfl rfl C1 rfl rfl A1 B1
 refine e1.trans ?_
 show bD.l0 (k + 5) [a0, a1, a2, a3, a4, a5] [b0, b1, b2, b3, b4, b5] [d0, d1, 0, 0, 0, 0] c2 2 = _
 obtain ⟨d2, c3, e2, D2, C3, E2⟩ := less_next (k + 4) (x0 := [a0, a1, a2, a3, a4, a5]) (x1 := [b0, b1, b2, b3, b4, b5]) (x5 := [d0, d1, 0, 0, 0, 0]) (c := c2) (i := 2) (u := a2) (v := b2) (by decide) (by decide) rfl rfl rfl C2 rfl rfl A2 B2
 refine e2.trans ?_
 show bD.l0 (k + 4) [a0, a1, a2, a3, a4, a5] [b0, b1, b2, b3, b4, b5] [d0, d1, d2, 0, 0, 0] c3 3 = _
 obtain ⟨d3, c4, e3, D3, C4, E3⟩ := less_next (k + 3) (x0 := [a0, a1, a2, a3, a4, a5]) (x1 := [b0, b1, b2, b3, b4, b5]) (x5 := [d0, d1, d2, 0, 0, 0]) (c := c3) (i := 3) (u := a3) (v := b3) (by decide) (by decide) rfl rfl rfl C3 rfl rfl A3 B3
 refine e3.trans ?_
 show bD.l0 (k + 3) [a0, a1, a2, a3, a4, a5] [b0, b1, b2, b3, b4, b5] [d0, d1, d2, d3, 0, 0] c4 4 = _
 obtain ⟨d4, c5, e4, D4, C5, E4⟩ := less_next (k + 2) (x0 := [a0, a1, a2, a3, a4, a5]) (x1 := [b0, b1, b2, b3, b4, b5]) (x5 := [d0, d1, d2, d3, 0, 0]) (c := c4) (i := 4) (u := a4) (v := b4) (by decide) (by decide) rfl rfl rfl C4 rfl rfl A4 B4
 refine e4.trans ?_
 show bD.l0 (k + 2) [a0, a1, a2, a3, a4, a5] [b0, b1, b2, b3, b4, b5] [d0, d1, d2, d3, d4, 0] c5 5 = _
 obtain ⟨d5, c6, e5, D5, C6, E5⟩ := less_next (k + 1) (x0 := [a0, a1, a2, a3, a4, a5]) (x1 := [b0, b1, b2, b3, b4, b5]) (x5 := [d0, d1, d2, d3, d4, 0]) (c := c5) (i := 5) (u := a5) (v := b5) (by decide) (by decide) rfl rfl rfl C5 rfl rfl A5 B5
 refine e5.trans ?_
 show bD.l0 (k + 1) [a0, a1, a2, a3, a4, a5] [b0, b1, b2, b3, b4, b5] [d0, d1, d2, d3, d4, d5] c6 6 = _
 simp only [bD.l0]
 have key := less_key E0 E1 E2 E3 E4 E5
 rw [← va, ← vb] at key
 rw [if_neg (by decide), dig_of ⟨D0, D1, D2, D3, D4, D5⟩ (sub_of key (hv_bd ⟨D0, D1, D2, D3, D4, D5⟩) h1 h2)]
theorem less_ev {a b : Int} (ha1 : a < 6277101735386680763835789423207666416102355444464034512896) (hb : 0 ≤ b) (hab : b ≤ a) : Ev (fun k => bD.f k (dig a) (dig b)) (dig (a - b)) :=
 Ev.of (bD.mono (dig a) (dig b)) (less_dig 0 ha1 hb hab)
def sgn (a b : Int) : Int := if a < b then -1 else if b < a then 1 else 0
theorem sgn_lt {a b : Int} (h : a < b) : sgn a b = -1 := if_pos h
theorem sgn_gt {a b : Int} (h : b < a) : sgn a b = 1 := by unfold sgn; rw [if_neg (by omega), if_pos h]
theorem sgn_eq {a b : Int} (h : a = b) : sgn a b = 0 := by unfold sgn; rw [if_neg (by omega), if_neg (by omega)]
theorem lt_in {x y u v : Int} (hx : 0 ≤ x ∧ x < 4294967296) (hy : 0 ≤ y ∧ y < 4294967296) (h : u < v) : x + 4294967296 * u < y + 4294967296 * v := by omega
theorem lt_at {x y u v : Int} (h : x < y) (e : u = v) : x + 4294967296 * u < y + 4294967296 * v := by omega
theorem eq_in {x y u v : Int} (h : x = y) (e : u = v) : x + 4294967296 * u = y + 4294967296 * v := by omega
theorem eq_of_not {x y : Int} (h : ¬ x < y) (g : ¬ x > y) : x = y := by omega
theorem cmp_step (k : Nat) {x0 x1 : List Int} {i u v : Int} (h0 : 0 ≤ i) (h6 : i < 6) (l0 : x0.length = 6) (l1 : x1.length = 6) (hu : rd x0 i = u) (hv : rd x1 i = v) :
 bG.l0 (k + 1) x0 x1 i = if u < v then some (-1) else if u > v then some 1 else bG.l0 k x0 x1 (i - 1) := by
 simp only [bG.l0]
 rw [if_pos (by omega), if_pos h0, l0, l1, if_pos (by omega), if_pos (by omega), hu, hv, w64 (by omega) (by omega)]
theorem cmp_dig (k : Nat) {a b : Int} (ha : 0 ≤ a) (ha1 : a < 6277101735386680763835789423207666416102355444464034512896) (hb : 0 ≤ b) (hb1 : b < 6277101735386680763835789423207666416102355444464034512896) : bG.f (k + 7) (dig a) (dig b) = some (sgn a b) := by
 obtain ⟨a0, a1, a2, a3, a4, a5, ea, ⟨A0, A1, A2, A3, A4, A5⟩, va⟩ := dig_form ha ha1
 obtain ⟨b0, b1, b2, b3, b4, b5, eb, ⟨B0, B1, B2, B3, B4, B5⟩, vb⟩ := dig_form hb hb1
 clear ha ha1 hb hb1
 rw [ea, eb]
 unfold bG.f
 rw [cmp_step (k + 6) (i := 5) (u := a5) (v := b5) (by decide) (by decide) rfl rfl rfl rfl]
 by_cases g5 : a5 < b5
 · rw [if_pos g5, va, vb, sgn_lt (lt_in A0 B0 (lt_in A1 B1 (lt_in A2 B2 (lt_in A3 B3 (lt_in A4 B4 (g5))))))]
 rw [if_neg g5]
 by_cases f5 : a5 > b5
 · rw [if_pos f5, va, vb, sgn_gt (lt_in B0 A0 (lt_in B1 A1 (lt_in B2 A2 (lt_in B3 A3 (lt_in B4 A4 (f5))))))]
 rw [if_neg f5]
 have Q5 := eq_of_not g5 f5
 show bG.l0 (k + 6) [a0, a1, a2, a3, a4, a5] [b0, b1, b2, b3, b4, b5] 4 = _
 rw [cmp_step (k + 5) (i := 4) (u := a4) (v := b4) (by decide) (by decide) rfl rfl rfl rfl]
 by_cases g4 : a4 < b4
 · rw [if_pos g4, va, vb, sgn_lt (lt_in A0 B0 (lt_in A1 B1 (lt_in A2 B2 (lt_in A3 B3 (lt_at g4 Q5)))))]
 rw [if_neg g4]
 by_cases f4 : a4 > b4
 · rw [if_pos f4, va, vb, sgn_gt (lt_in B0 A0 (lt_in B1 A1 (lt_in B2 A2 (lt_in B3 A3 (lt_at f4 Q5.symm)))))]
 rw [if_neg f4]
 have Q4 := eq_in (eq_of_not g4 f4) Q5
 show bG.l0 (k + 5) [a0, a1, a2, a3, a4, a5] [b0, b1, b2, b3, b4, b5] 3 = _
 rw [cmp_step (k + 4) (i := 3) (u := a3) (v := b3) (by decide) (by decide) rfl rfl rfl rfl]
 by_cases g3 : a3 < b3
 · rw [if_pos g3, va, vb, sgn_lt (lt_in A0 B0 (lt_in A1 B1 (lt_in A2 B2 (lt_at g3 Q4))))]
 rw [if_neg g3]
 by_cases f3 : a3 > b3
 · rw [if_pos f3, va, vb, sgn_gt (lt_in B0 A0 (lt_in B1 A1 (lt_in B2 A2 (lt_at f3 Q4.symm))))]
 rw [if_neg f3]
 have Q3 := eq_in (eq_of_not g3 f3) Q4
 show bG.l0 (k + 4) [a0, a1, a2, a3, a4, a5] [b0, b1, b2, b3, b4, b5] 2 = _
 rw [cmp_step (k + 3) (i := 2) (u := a2) (v := b2) (by decide) (by decide) rfl rfl rfl rfl]
 by_cases g2 : a2 < b2
 · rw [if_pos g2, va, vb, sgn_lt (lt_in A0 B0 (lt_in A1 B1 (lt_at g2 Q3)))]
 rw [if_neg g2]
 by_cases f2 : a2 > b2
 · rw [if_pos f2, va, vb, sgn_gt (lt_in B0 A0 (lt_in B1 A1 (lt_at f2 Q3.symm)))]
 rw [if_neg f2]
 have Q2 := eq_in (eq_of_not g2 f2) Q3
 show bG.l0 (k + 3) [a0, a1, a2, a3, a4, a5] [b0, b1, b2, b3, b4, b5] 1 = _
 rw [cmp_step (k + 2) (i := 1) (u := a1) (v := b1) (by decide) (by decide) rfl rfl rfl rfl]
 by_cases g1 : a1 < b1
 · rw [if_pos g1, va, vb, sgn_lt (lt_in A0 B0 (lt_at g1 Q2))]
 rw [if_neg g1]
 by_cases f1 : a1 > b1
 · rw [if_pos f1, va, vb, sgn_gt (lt_in B0 A0 (lt_at f1 Q2.symm))]
 rw [if_neg f1]
 have Q1 := eq_in (eq_of_not g1 f1) Q2
 show bG.l0 (k + 2) [a0, a1, a2, a3, a4, a5] [b0, b1, b2, b3, b4, b5] 0 = _
 rw [cmp_step (k + 1) (i := 0) (u := a0) (v := b0) (by decide) (by decide) rfl rfl rfl rfl]
 by_cases g0 : a0 < b0
 · rw [if_pos g0, va, vb, sgn_lt (lt_at g0 Q1)]
 rw [if_neg g0]
 by_cases f0 : a0 > b0
 · rw [if_pos f0, va, vb, sgn_gt (lt_at f0 Q1.symm)]
 rw [if_neg f0]
 have Q0 := eq_in (eq_of_not g0 f0) Q1
 show bG.l0 (k + 1) [a0, a1, a2, a3, a4, a5] [b0, b1, b2, b3, b4, b5] (-1) = _
 simp only [bG.l0]
 rw [if_neg (by decide), va, vb, sgn_eq Q0]
theorem cmp_ev {a b : Int} (ha : 0 ≤ a) (ha1 : a < 6277101735386680763835789423207666416102355444464034512896) (hb : 0 ≤ b) (hb1 : b < 6277101735386680763835789423207666416102355444464034512896) : Ev (fun k => bG.f k (dig a) (dig b)) (sgn a b) :=
 Ev.of (bG.mono (dig a) (dig b)) (cmp_dig 0 ha ha1 hb hb1)
theorem zero_ev {a : Int} (ha : 0 ≤ a) (ha1 : a < 6277101735386680763835789423207666416102355444464034512896) : Ev (fun k => zJ.f k (dig a)) (decide (a = 0)) := by
 unfold zJ.f
 simp only [if_pos (show (6 : Int) ≤ 35184372088832 by omega), ← dig_zero]
 refine Ev.bind (cmp_ev ha ha1 (by omega) (by omega)) ?_
 have e : (sgn a 0 == 0) = decide (a = 0) := by
  unfold sgn
  by_cases h : a = 0
  · subst h; rfl
  · rw [if_neg (by omega), if_pos (by omega), decide_eq_false h]; rfl
 rw [e]; exact Ev.now _
instance (x : Int) : Decidable (I64 x) := inferInstanceAs (Decidable (_ ∧ _))
def out (z : Int) : Int × Int := if I64 z then (z, 0) else (0, 10)
theorem out_in {z : Int} (h : I64 z) : out z = (z, 0) := if_pos h
theorem out_no {z : Int} (h : ¬ I64 z) : out z = (0, 10) := if_neg h
theorem add_eq (a b : Int) (ha : I64 a) (hb : I64 b) : qR.f a b = some (out (a + b)) := by
 unfold qR.f out
 by_cases h : I64 (a + b)
 · rw [if_pos h, w64_of h, if_neg]
   simp only [bne_iff_ne, ne_eq, Decidable.not_not]
   apply decide_eq_decide.2; omega
 · rw [if_neg h, if_pos]
   unfold I64 at *
   have hw : wrap64 (a + b) = a + b - 18446744073709551616 ∨ wrap64 (a + b) = a + b + 18446744073709551616 := by unfold wrap64; omega
   simp only [bne_iff_ne, ne_eq, decide_eq_decide]
   unfold wrap64 at *
   omega
theorem sub_eq (a b : Int) (ha : I64 a) (hb : I64 b) : num_Sub.f a b = some (out (a - b)) := by
 unfold num_Sub.f out
 by_cases h : I64 (a - b)
 · rw [if_pos h, w64_of h, if_neg]
   simp only [bne_iff_ne, ne_eq, Decidable.not_not]
   apply decide_eq_decide.2; omega
 · rw [if_neg h, if_pos]
   unfold I64 at *
   simp only [bne_iff_ne, ne_eq, decide_eq_decide]
   unfold wrap64 at *
   omega
theorem neg_eq (a : Int) (ha : I64 a) : num_Neg.f a = some (out (-a)) := by
 unfold num_Neg.f
 rw [sub_eq 0 a (by unfold I64; omega) ha]
 simp only [Option.bind_some, Int.zero_sub]
def ab (a : Int) : Int := if a < 0 then -a else a
theorem ab_bd {a : Int} (h : I64 a) : 0 ≤ ab a ∧ ab a ≤ 9223372036854775808 := by unfold ab; unfold I64 at h; split <;> omega
theorem ab_pos {a : Int} (h : 0 ≤ a) : ab a = a := by unfold ab; rw [if_neg (by omega)]
theorem ab_neg {a : Int} (h : a < 0) : ab a = -a := by unfold ab; rw [if_pos h]
theorem size_eq (a : Int) (ha : I64 a) : qX.f a = some (ab a) := by
 unfold qX.f ab
 unfold I64 at ha
 by_cases h : a < 0
 · rw [if_pos h, if_pos h, u64m, u64m]; congr 1; omega
 · rw [if_neg h, if_neg h, u64m]; congr 1; omega
theorem mul_bd {x y a b : Int} (hx : 0 ≤ x) (hxa : x ≤ a) (hy : 0 ≤ y) (hyb : y ≤ b) : 0 ≤ x * y ∧ x * y ≤ a * b :=
 ⟨Int.mul_nonneg hx hy, Int.mul_le_mul hxa hyb hy (by omega)⟩
theorem mul64_eq (x y : Int) (hx : 0 ≤ x) (hx1 : x ≤ 18446744073709551615) (hy : 0 ≤ y) (hy1 : y ≤ 18446744073709551615) :
 qW.f x y = some (x * y / 18446744073709551616, x * y % 18446744073709551616) := by
 unfold qW.f
 rw [and32 hx hx1, and32 hy hy1]
 have ex : x = x / 4294967296 * 4294967296 + x % 4294967296 := by omega
 have ey : y = y / 4294967296 * 4294967296 + y % 4294967296 := by omega
 have bx1 : 0 ≤ x / 4294967296 ∧ x / 4294967296 ≤ 4294967295 := by omega
 have bx0 : 0 ≤ x % 4294967296 ∧ x % 4294967296 ≤ 4294967295 := by omega
 have by1 : 0 ≤ y / 4294967296 ∧ y / 4294967296 ≤ 4294967295 := by omega
 have by0 : 0 ≤ y % 4294967296 ∧ y % 4294967296 ≤ 4294967295 := by omega
 have p11 := mul_bd bx1.1 bx1.2 by1.1 by1.2
 have p10 := mul_bd bx1.1 bx1.2 by0.1 by0.2
 have p01 := mul_bd bx0.1 bx0.2 by1.1 by1.2
 have p00 := mul_bd bx0.1 bx0.2 by0.1 by0.2
 have e : x * y = x / 4294967296 * (y / 4294967296) * 18446744073709551616 + (x / 4294967296 * (y % 4294967296) + x % 4294967296 * (y / 4294967296)) * 4294967296 + x % 4294967296 * (y % 4294967296) := by
  conv => lhs; rw [ex, ey]
  simp only [Int.mul_add, Int.add_mul]
  have c1 : x / 4294967296 * 4294967296 * (y / 4294967296 * 4294967296) = x / 4294967296 * (y / 4294967296) * 18446744073709551616 := by
   rw [Int.mul_assoc, Int.mul_left_comm 4294967296, ← Int.mul_assoc (x / 4294967296)]; rfl
  have c2 : x % 4294967296 * (y / 4294967296 * 4294967296) = x % 4294967296 * (y / 4294967296) * 4294967296 := by rw [Int.mul_assoc]
  have c3 : x / 4294967296 * 4294967296 * (y % 4294967296) = x / 4294967296 * (y % 4294967296) * 4294967296 := by rw [Int.mul_assoc, Int.mul_comm 4294967296, ← Int.mul_assoc]
  rw [c1, c2, c3]; omega
 generalize x * y = P at *
 generalize x / 4294967296 * (y / 4294967296) = P11 at *
 generalize x / 4294967296 * (y % 4294967296) = P10 at *
 generalize x % 4294967296 * (y / 4294967296) = P01 at *
 generalize x % 4294967296 * (y % 4294967296) = P00 at *
 clear ex ey bx1 bx0 by1 by0 hx hx1 hy hy1
 rw [u64w (x := P11) (by omega) (by omega), u64w (x := P10) (by omega) (by omega), u64w (x := P00) (by omega) (by omega), u64w (x := P01) (by omega) (by omega)]
 have t : 0 ≤ P00 / 4294967296 ∧ P00 / 4294967296 ≤ 4294967295 := by omega
 rw [u64w (x := P10 + P00 / 4294967296) (by omega) (by omega), and32 (by omega) (by omega)]
 obtain ⟨T, hT⟩ : ∃ T, P10 + P00 / 4294967296 = T := ⟨_, rfl⟩
 rw [hT]
 rw [u64w (x := T % 4294967296 + P01) (by omega) (by omega), u64w (x := P11 + T / 4294967296) (by omega) (by omega), u64w (x := P11 + T / 4294967296 + (T % 4294967296 + P01) / 4294967296) (by omega) (by omega), u64m]
 congr 2
 omega
theorem product_eq (a b : Int) (ha : I64 a) (hb : I64 b) : zQ.f a b = some (ab a * ab b / 18446744073709551616, ab a * ab b % 18446744073709551616) := by
 have h1 := ab_bd ha
 have h2 := ab_bd hb
 unfold zQ.f
 rw [size_eq a ha, size_eq b hb]
 simp only [Option.bind_some]
 rw [mul64_eq _ _ h1.1 (by omega) h2.1 (by omega)]
 rfl
theorem signed_eq (k : Nat) (neg : Bool) (hi lo : Int) (h0 : 0 ≤ hi) (h1 : 0 ≤ lo) (h2 : lo ≤ 18446744073709551615) :
 bX.f (k + 1) neg hi lo = some (out (if neg = true then -(hi * 18446744073709551616 + lo) else hi * 18446744073709551616 + lo)) := by
 unfold bX.f
 by_cases hh : hi = 0
 · subst hh
   rw [if_pos rfl]
   cases neg with
   | true =>
    simp only [if_true, bX.j0]
    by_cases g : lo ≤ 9223372036854775808
    · rw [decide_eq_true g, if_pos rfl, out_in (by unfold I64; omega), u64m]
      congr 2; unfold wrap64; omega
    · rw [decide_eq_false g, if_neg (by simp), out_no (by unfold I64; omega)]
   | false =>
    simp only [bX.j0, Bool.false_eq_true, if_false]
    by_cases g : lo > 9223372036854775807
    · rw [if_pos g, out_no (by unfold I64; omega)]
    · rw [if_neg g, out_in (by unfold I64; omega), w64 (by omega) (by omega)]
      congr 2; omega
 · rw [if_neg hh]
   cases neg with
   | true => rw [if_pos rfl, out_no (by unfold I64; omega)]
   | false => rw [if_neg (by simp), out_no (by unfold I64; omega)]
theorem mul_sign (a b : Int) : (if ((decide (a < 0)) != (decide (b < 0))) = true then -(ab a * ab b) else ab a * ab b) = a * b := by
 by_cases h1 : a < 0
 · by_cases h2 : b < 0
   · rw [decide_eq_true h1, decide_eq_true h2, if_neg (by simp), ab_neg h1, ab_neg h2, Int.neg_mul_neg]
   · rw [decide_eq_true h1, decide_eq_false h2, if_pos (by simp), ab_neg h1, ab_pos (by omega), Int.neg_mul, Int.neg_neg]
 · by_cases h2 : b < 0
   · rw [decide_eq_false h1, decide_eq_true h2, if_pos (by simp), ab_pos (by omega), ab_neg h2, Int.mul_neg, Int.neg_neg]
   · rw [decide_eq_false h1, decide_eq_false h2, if_neg (by simp), ab_pos (by omega), ab_pos (by omega)]
theorem mul_eq (k : Nat) (a b : Int) (ha : I64 a) (hb : I64 b) : qI.f (k + 1) a b = some (out (a * b)) := by
 have h1 := ab_bd ha
 have h2 := ab_bd hb
 have h3 := mul_bd h1.1 h1.2 h2.1 h2.2
 unfold qI.f
 rw [product_eq a b ha hb]
 simp only [Option.bind_some]
 rw [signed_eq _ _ _ _ (by omega) (by omega) (by omega)]
 simp only [Option.bind_some]
 rw [show ab a * ab b / 18446744073709551616 * 18446744073709551616 + ab a * ab b % 18446744073709551616 = ab a * ab b by omega, mul_sign]
def fl (a b : Int) : Int := if b < 0 then (-a) / (-b) else a / b
def md (a b : Int) : Int := if b < 0 then -((-a) % (-b)) else a % b
theorem fl_md (a b : Int) : a = b * fl a b + md a b := by
 unfold fl md
 split
 · have := Int.mul_ediv_add_emod (-a) (-b)
   rw [Int.neg_mul] at this
   omega
 · have := Int.mul_ediv_add_emod a b
   omega
theorem fl_unique {a b q r : Int} (h : a = b * q + r) (hr : (0 ≤ r ∧ r < b) ∨ (b < r ∧ r ≤ 0)) : fl a b = q ∧ md a b = r := by
 unfold fl md
 by_cases hb : b < 0
 · rw [if_pos hb, if_pos hb]
   have := (Int.ediv_emod_unique (a := -a) (b := -b) (r := -r) (q := q) (by omega)).2 ⟨by rw [Int.neg_mul]; omega, by omega, by omega⟩
   omega
 · rw [if_neg hb, if_neg hb]
   have := (Int.ediv_emod_unique (a := a) (b := b) (r := r) (q := q) (by omega)).2 ⟨by omega, by omega, by omega⟩
   omega
theorem div64_small (k : Nat) (lo y : Int) (h0 : 0 < y) (h1 : 0 ≤ lo) (h2 : lo ≤ 18446744073709551615) : bC.f k 0 lo y = some (lo / y, lo % y) := by
 unfold bC.f
 rw [if_neg (by omega), if_neg (by omega), if_pos rfl, td_pos h1, tm_pos h1]
 have := Int.ediv_le_self y h1
 have := Int.ediv_nonneg h1 (b := y) (by omega)
 rw [u64w (by omega) (by omega)]
theorem fl_signs {a b c P D : Int} (hP : ab a * ab b = P) (hD : ab c = D) (hc : c ≠ 0) :
 fl (a * b) c = if (((decide (a < 0)) != (decide (b < 0))) != (decide (c < 0))) = true then (if P % D = 0 then -(P / D) else -(P / D) - 1) else P / D := by
 have hs := mul_sign a b
 rw [hP] at hs
 have hD0 : 0 < D := by rw [← hD]; unfold ab; split <;> omega
 have e := Int.mul_ediv_add_emod P D
 have r0 := Int.emod_nonneg P (Int.ne_of_gt hD0)
 have r1 := Int.emod_lt_of_pos P hD0
 have hP0 : ((decide (a < 0)) != (decide (b < 0))) = true → a * b = -P := fun h => by rw [if_pos h] at hs; exact hs.symm
 have hP1 : ((decide (a < 0)) != (decide (b < 0))) = false → a * b = P := fun h => by rw [if_neg (by rw [h]; simp)] at hs; exact hs.symm
 generalize ((decide (a < 0)) != (decide (b < 0))) = s at *
 generalize P / D = q at *
 generalize P % D = r at *
 have em : D * (q + 1) = D * q + D := by rw [Int.mul_add, Int.mul_one]
 by_cases h3 : c < 0
 · rw [ab_neg h3] at hD
   rw [decide_eq_true h3]
   cases s with
   | true =>
    rw [if_neg (by simp), hP0 rfl]
    exact (fl_unique (r := -r) (by rw [← e, show c = -D by omega, Int.neg_mul]; omega) (by omega)).1
   | false =>
    rw [if_pos (by simp), hP1 rfl]
    by_cases hr : r = 0
    · rw [if_pos hr]
      exact (fl_unique (r := 0) (by rw [← e, show c = -D by omega, Int.neg_mul_neg]; omega) (by omega)).1
    · rw [if_neg hr]
      exact (fl_unique (r := r - D) (by rw [← e, show c = -D by omega, show -q - 1 = -(q + 1) by omega, Int.neg_mul_neg]; omega) (by omega)).1
 · rw [ab_pos (by omega)] at hD
   subst hD
   rw [decide_eq_false h3]
   cases s with
   | true =>
    rw [if_pos (by simp), hP0 rfl]
    by_cases hr : r = 0
    · rw [if_pos hr]
      exact (fl_unique (r := 0) (by rw [← e, Int.mul_neg]; omega) (by omega)).1
    · rw [if_neg hr]
      exact (fl_unique (r := c - r) (by rw [← e, show -q - 1 = -(q + 1) by omega, Int.mul_neg]; omega) (by omega)).1
   | false =>
    rw [if_neg (by simp), hP1 rfl]
    exact (fl_unique (r := r) (by omega) (by omega)).1
theorem add64_eq (x : Int) (h0 : 0 ≤ x) : qT.f x 1 0 = some ((x + 1) % 18446744073709551616, (x + 1) / 18446744073709551616) := by
 unfold qT.f
 rw [if_pos h0, if_pos (by omega), if_pos (by omega), if_pos (by omega), Int.add_zero]
theorem scale_of (k : Nat) (a b c : Int) (ha : I64 a) (hb : I64 b) (hc : I64 c) (h0 : c ≠ 0)
 (hd : ab a * ab b / 18446744073709551616 < ab c → bC.f (k + 1) (ab a * ab b / 18446744073709551616) (ab a * ab b % 18446744073709551616) (ab c) = some (ab a * ab b / ab c, ab a * ab b % ab c)) :
 num_Scale.f (k + 1) a b c = some (out (fl (a * b) c)) := by
 have h1 := ab_bd ha
 have h2 := ab_bd hb
 have h3 := ab_bd hc
 have h4 := mul_bd h1.1 h1.2 h2.1 h2.2
 have hD0 : 0 < ab c := by unfold ab; split <;> omega
 rw [fl_signs rfl rfl h0]
 unfold num_Scale.f
 rw [if_neg h0, product_eq a b ha hb, size_eq c hc]
 simp only [Option.bind_some]
 generalize hP : ab a * ab b = P at *
 generalize hD : ab c = D at *
 have e := Int.mul_ediv_add_emod P D
 have r0 := Int.emod_nonneg P (Int.ne_of_gt hD0)
 have r1 := Int.emod_lt_of_pos P hD0
 have q0 : 0 ≤ P / D := Int.ediv_nonneg h4.1 (by omega)
 by_cases hl : P / 18446744073709551616 ≥ D
 · rw [if_pos hl]
   have hq : 18446744073709551616 ≤ P / D := by
    rw [Int.le_ediv_iff_mul_le hD0]; omega
   split
   · split
     · rw [out_no (by unfold I64; omega)]
     · rw [out_no (by unfold I64; omega)]
   · rw [out_no (by unfold I64; omega)]
 · rw [if_neg hl, hd (by omega)]
   simp only [Option.bind_some]
   have hq : P / D < 18446744073709551616 := Int.ediv_lt_of_lt_mul hD0 (by omega)
   generalize P / D = q at *
   generalize P % D = r at *
   by_cases hs : (((decide (a < 0)) != (decide (b < 0))) != (decide (c < 0))) = true
   · rw [if_pos hs, if_pos hs, hs]
     by_cases hr : r = 0
     · rw [if_pos hr, if_pos hr, signed_eq _ _ _ _ (by omega) (by omega) (by omega), if_pos rfl]
       simp only [Option.bind_some]
       rw [show (0 : Int) * 18446744073709551616 + q = q by omega]
     · rw [if_neg hr, if_neg hr, add64_eq _ q0]
       simp only [Option.bind_some]
       rw [signed_eq _ _ _ _ (by omega) (by omega) (by omega), if_pos rfl]
       simp only [Option.bind_some]
       rw [show (q + 1) / 18446744073709551616 * 18446744073709551616 + (q + 1) % 18446744073709551616 = q + 1 by omega, show -(q + 1) = -q - 1 by omega]
   · rw [if_neg hs, if_neg hs, signed_eq _ _ _ _ (by omega) (by omega) (by omega), if_neg hs]
     simp only [Option.bind_some]
     rw [show (0 : Int) * 18446744073709551616 + q = q by omega]
theorem div_eq (k : Nat) (a c : Int) (ha : I64 a) (hc : I64 c) (h0 : c ≠ 0) : num_Div.f (k + 1) a c = some (out (fl a c)) := by
 have h1 := ab_bd ha
 have h3 := ab_bd hc
 have hD0 : 0 < ab c := by unfold ab; split <;> omega
 unfold num_Div.f
 rw [scale_of k a 1 c ha (by unfold I64; omega) hc h0 (fun _ => ?_)]
 · simp only [Option.bind_some, Int.mul_one]
 · rw [ab_pos (a := 1) (by omega), Int.mul_one, show ab a / 18446744073709551616 = 0 by omega, show ab a % 18446744073709551616 = ab a by omega]
   exact div64_small _ _ _ hD0 h1.1 (by omega)
theorem mod_eq (a b : Int) (ha : I64 a) (hb : I64 b) (h0 : b ≠ 0) : num_Mod.f a b = some (md a b, 0) := by
 unfold num_Mod.f
 rw [if_neg h0]
 by_cases h1 : b = -1
 · rw [if_pos h1]
   have : md a b = 0 := by unfold md; rw [if_pos (by omega), h1]; simp
   rw [this]
 rw [if_neg h1]
 unfold I64 at hb
 by_cases hs : b < 0
 · -- the remainder of a cut division has the sign of a
   have e : Int.tmod a b = Int.tmod a (-b) := by rw [Int.tmod_neg]
   have c := cut_floor a (b := -b) (by omega)
   have g1 := Int.emod_nonneg a (b := -b) (by omega)
   have g2 := Int.emod_lt_of_pos a (b := -b) (by omega)
   have e2 : md a b = if a % (-b) = 0 then 0 else a % (-b) + b := by
    have d := Int.mul_ediv_add_emod a (-b)
    split
    · rename_i hz
      exact (fl_unique (q := -(a / -b)) (by rw [Int.mul_neg, ← Int.neg_mul]; omega) (by omega)).2
    · exact (fl_unique (q := -(a / -b) - 1) (by rw [show -(a / -b) - 1 = -((a / -b) + 1) by omega, Int.mul_neg, ← Int.neg_mul, Int.mul_add]; omega) (by omega)).2
   rw [e, e2]
   by_cases hn : Int.tmod a (-b) < 0
   · obtain ⟨c1, c2, c3⟩ := c.1 hn
     rw [if_neg (by omega), if_neg (show ¬ a % (-b) = 0 by omega), decide_eq_true hn, decide_eq_true hs, if_neg (by simp)]
     congr 2; omega
   · obtain ⟨c1, c2⟩ := c.2 hn
     rw [c2]
     by_cases hz : a % (-b) = 0
     · rw [if_pos hz, if_pos hz, hz]
     · rw [if_neg hz, if_neg hz, decide_eq_false (show ¬ a % (-b) < 0 by omega), decide_eq_true hs, if_pos (by simp), w64 (by omega) (by omega)]
 · have c := cut_floor a (b := b) (by omega)
   have g1 := Int.emod_nonneg a (b := b) (by omega)
   have g2 := Int.emod_lt_of_pos a (b := b) (by omega)
   have e2 : md a b = a % b := by unfold md; rw [if_neg hs]
   rw [e2]
   by_cases hn : Int.tmod a b < 0
   · obtain ⟨c1, c2, c3⟩ := c.1 hn
     rw [if_neg (by omega), decide_eq_true hn, decide_eq_false hs, if_pos (by simp), w64 (by omega) (by omega)]
     congr 2; omega
   · obtain ⟨c1, c2⟩ := c.2 hn
     rw [c2]
     by_cases hz : a % b = 0
     · rw [if_pos hz]
     · rw [if_neg hz, decide_eq_false (show ¬ a % b < 0 by omega), decide_eq_false hs, if_neg (by simp)]
theorem fl_pos {a b : Int} (h : 0 < b) : fl a b = a / b := by unfold fl; rw [if_neg (by omega)]
theorem md_pos {a b : Int} (h : 0 < b) : md a b = a % b := by unfold md; rw [if_neg (by omega)]
theorem fl_bd {a b : Int} (ha : I64 a) (hb : b ≠ 0) : I64 (fl a b) ∨ (b = -1 ∧ a = -9223372036854775808) := by
 unfold fl
 split
 · rename_i h
   by_cases h1 : b = -1
   · subst h1
     show I64 ((-a) / 1) ∨ _
     rw [Int.ediv_one]
     unfold I64 at *
     omega
   · left
     unfold I64 at *
     have e := Int.mul_ediv_add_emod (-a) (-b)
     have g1 := Int.emod_nonneg (-a) (b := -b) (by omega)
     have g2 := Int.emod_lt_of_pos (-a) (b := -b) (by omega)
     constructor
     · rw [Int.le_ediv_iff_mul_le (by omega)]
       have : -9223372036854775808 * -b ≤ -9223372036854775808 * 1 := Int.mul_le_mul_of_nonpos_left (by omega) (by omega)
       omega
     · rcases Int.lt_or_le (-a) 0 with g | g
       · have : (-a) / (-b) < 0 := Int.ediv_lt_of_lt_mul (by omega) (by omega)
         omega
       · have h3 : (-a) / (-b) ≤ (-a) / 2 := by
          rw [Int.le_ediv_iff_mul_le (by omega)]
          have h5 : 0 ≤ (-a) / (-b) := Int.ediv_nonneg g (by omega)
          have h6 : (-a) / (-b) * 2 ≤ (-a) / (-b) * -b := Int.mul_le_mul_of_nonneg_left (by omega) h5
          rw [Int.mul_comm (-b)] at e
          omega
         omega
 · left
   have := ediv_i64 (b := b) ha (by omega)
   exact this
theorem split_eq (k : Nat) (us : Int) (h : I64 us) : qA.f (k + 1) us = some (us / 86400000000, us % 86400000000) := by
 unfold qA.f
 have hc : I64 86400000000 := by unfold I64; omega
 rw [div_eq k us 86400000000 h hc (by omega), mod_eq us 86400000000 h hc (by omega), fl_pos (by omega), md_pos (by omega), out_in (ediv_i64 h (by omega))]
 rfl
def ng (x : Int) : Bool := decide (x < 0)
def dg (x : Int) : List Int := dig (ab x)
theorem ng_true {x : Int} (h : x < 0) : ng x = true := decide_eq_true h
theorem ng_false {x : Int} (h : ¬ x < 0) : ng x = false := decide_eq_false h
theorem ab_zero {x : Int} : ab x = 0 ↔ x = 0 := by unfold ab; split <;> omega
theorem of_list (u v : Int) (h0 : 0 ≤ u) (h1 : u ≤ 18446744073709551615) : ((List.replicate 6 0).set (0 : Int).toNat (u % 4294967296)).set (1 : Int).toNat (u / 4294967296) = dig u := by
 show [u % 4294967296, u / 4294967296, 0, 0, 0, 0] = dig u
 rw [dig_of (a := u) (a0 := u % 4294967296) (a1 := u / 4294967296) (a2 := 0) (a3 := 0) (a4 := 0) (a5 := 0) (by omega) (by omega)]
theorem of_eq (a : Int) (h : I64 a) : vF.f a = some (ng a, dg a) := by
 have h' := h
 unfold I64 at h'
 unfold vF.f
 by_cases g : a < 0
 · have e : IntKind.u64.wrap (-IntKind.u64.wrap a) = -a := by rw [u64m, u64m]; omega
   simp only [if_pos g, if_pos (show (6 : Int) ≤ 35184372088832 by omega), Option.bind_some, e, List.length_replicate]
   rw [and32 (by omega) (by omega), if_pos (by decide), if_pos (by decide), of_list (-a) 0 (by omega) (by omega)]
   unfold dg; rw [ab_neg g, ng_true g]; rfl
 · have e : IntKind.u64.wrap a = a := by rw [u64m]; omega
   simp only [if_neg g, if_pos (show (6 : Int) ≤ 35184372088832 by omega), Option.bind_some, e, List.length_replicate]
   rw [and32 (by omega) (by omega), if_pos (by decide), if_pos (by decide), of_list a 0 (by omega) (by omega)]
   unfold dg; rw [ab_pos (by omega), ng_false g]; rfl
end Go.Proofs.YtimgphlfaninnaaGreat.Civ
